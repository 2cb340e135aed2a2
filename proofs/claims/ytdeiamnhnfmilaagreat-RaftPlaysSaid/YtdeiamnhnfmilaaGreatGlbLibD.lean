/-
  A library of its own.
-/
import Derived.Test.YtdeiamnhnfmilaaGreatGlbLibC
import Derived.ChangeArms
import Derived.WideKeyArgs
import Derived.Below
set_option linter.unusedSimpArgs false
set_option linter.unusedVariables false
namespace Glb
open Go
inductive D where
 | aA (k:IntKind) (n:Int)
 | aD (b:Bool)
 | aE (s:ByteArray)
 | sl (sz:Nat) (es:List (List D))
def r_ (cap:Option Nat)(len:Nat):Prop:=∀c,cap=some c->len<=c
def lJ (F:Nat->Prop)(h:eZ)(sz:Nat)(av:AV)(es:List (List AV)):Prop:=
 (av=.aB/\es=[])\/(∃t c,av=.aL t c sz es) \/
  ∃n off len cap row g,av=.aF n sz off len cap/\F n/\h[n]?=some (some (.aA sz row g))/\off+len<=row.length/\r_ cap len/\es=(row.drop off).take len
mutual
def Rd (F:Nat->Prop)(h:eZ):D->AV->Prop
 | .aA k n,av=>av=.aA k n
 | .aD b,av=>av=.aD b
 | .aE s,av=>av=.aP s
 | .sl sz ds,av=>∃es,lJ F h sz av es/\gC F h ds es
def fu (F:Nat->Prop)(h:eZ):List D->List AV->Prop
 | [],l=>l=[]
 | d :: ds,l=>∃a r,l=a :: r/\Rd F h d a/\fu F h ds r
def gC (F:Nat->Prop)(h:eZ):List (List D)->List (List AV)->Prop
 | [],l=>l=[]
 | e :: ds,l=>∃a r,l=a :: r/\fu F h e a/\gC F h ds r
end
mutual
def e_:D->(Nat->Prop)->eZ->AV->Prop
 | .aA k n,_,_,av=>av=.aA k n
 | .aD b,_,_,av=>av=.aD b
 | .aE s,_,_,av=>av=.aP s
 | .sl sz ds,F,h,av=>(av=.aB/\ds=[])\/(∃t c,av=.aL t c sz []/\ds=[]) \/
   ∃n off cap row g,av=.aF n sz off ds.length cap/\F n/\h[n]?=some (some (.aA sz row g))/\off+ds.length<=row.length/\r_ cap ds.length /\
    fP ds (λm=>F m/\m≠n) h ((row.drop off).take ds.length)
def fW:List D->(Nat->Prop)->eZ->List AV->Prop
 | [],_,_,l=>l=[]
 | d :: ds,F,h,l=>∃a r,l=a :: r/\e_ d F h a/\fW ds F h r
def fP:List (List D)->(Nat->Prop)->eZ->List (List AV)->Prop
 | [],_,_,l=>l=[]
 | e :: ds,F,h,l=>∃a r,l=a :: r/\fW e F h a/\fP ds F h r
end
theorem nO {F h}:∀{ds:List (List D)} {es:List (List AV)},gC F h ds es->es.length=ds.length:=by
 intro ds;induction ds with
 | nil=>intro es h;simp only[gC]at h;subst h;rfl
 | cons e ds ih=>intro es h;simp only[gC]at h;obtain⟨a,r,rfl,_,h⟩:=h;simp[ih h]
theorem qp {F h}:∀{ds:List D}{es:List AV},fu F h ds es->es.length=ds.length:=by
 intro ds;induction ds with
 | nil=>intro es h;simp only[fu]at h;subst h;rfl
 | cons e ds ih=>intro es h;simp only[fu]at h;obtain⟨a,r,rfl,_,h⟩:=h;simp[ih h]
theorem yN {F h}:∀{ds:List (List D)} {es:List (List AV)},gC F h ds es->∀(i:Nat)(d:List D),ds[i]?=some d->∃e,es[i]?=some e/\fu F h d e:=by
 intro ds;induction ds with
 | nil=>intro es h i d hd;simp at hd
 | cons e ds ih=>
  intro es h i d hd;simp only[gC]at h;obtain⟨a,r,rfl,h1,h2⟩:=h;cases i with
  | zero=>simp at hd;subst hd;exact⟨a,rfl,h1⟩
  | succ i=>obtain⟨e',h3,h4⟩:=ih h2 i d (by simpa using hd);exact⟨e',by simpa using h3,h4⟩
theorem El {F h}:∀{ds:List (List D)} {es:List (List AV)},es.length=ds.length->(∀(i:Nat)(d:List D)(e:List AV),ds[i]?=some d->es[i]?=some e->fu F h d e)->gC F h ds es:=by
 intro ds;induction ds with
 | nil=>intro es hl _;simp only[gC];exact Vl (by simpa using hl)
 | cons d ds ih=>
  intro es hl hh;cases es with
  | nil=>simp at hl
  | cons e es=>simp only[gC];exact⟨e,es,rfl,hh 0 d e rfl rfl,ih (by simpa using hl) λi d' e' h1 h2=>hh (i+1) d' e' (by simpa using h1) (by simpa using h2)⟩
theorem Ek {F h}:∀{ds t:List (List D)} {es b:List (List AV)},gC F h ds es->gC F h t b->gC F h (ds++t) (es++b):=by
 intro ds;induction ds with
 | nil=>intro t es b h1 h2;simp only[gC]at h1;subst h1;exact h2
 | cons d ds ih=>intro t es b h1 h2;simp only[gC]at h1;obtain⟨a,r,rfl,h3,h4⟩:=h1;exact⟨a,r++b,rfl,h3,ih h4 h2⟩
theorem JR {F h}{ds:List (List D)}{es:List (List AV)}(hh:gC F h ds es)(k:Nat):gC F h (ds.take k) (es.take k):=by
 refine El (by simp[nO hh]) λi d e h1 h2=>?_;rw[V_]at h1 h2;split at h1
 ·rename_i hi
  rw[Vf hi]at h2;obtain⟨e',h3,h4⟩:=yN hh i d h1;rw[h2]at h3;cases h3;exact h4
 ·cases h1
theorem JQ {F h}{ds:List (List D)}{es:List (List AV)}(hh:gC F h ds es)(k:Nat):gC F h (ds.drop k) (es.drop k):=by refine El (by simp[nO hh]) λi d e h1 h2=>?_;rw[Vz]at h1 h2;obtain⟨e',h3,h4⟩:=yN hh _ d h1;rw[h2]at h3;cases h3;exact h4
theorem py {F h}:∀{ds:List (List D)} {es:List (List AV)},fP ds F h es->es.length=ds.length:=by
 intro ds;induction ds with
 | nil=>intro es h;simp only[fP]at h;subst h;rfl
 | cons e ds ih=>intro es h;simp only[fP]at h;obtain⟨a,r,rfl,_,h⟩:=h;simp[ih h]
theorem Ef {F h}:∀{ds:List (List D)} {es:List (List AV)},fP ds F h es->∀(i:Nat)(d:List D),ds[i]?=some d->∃e,es[i]?=some e/\fW d F h e:=by
 intro ds;induction ds with
 | nil=>intro es h i d hd;simp at hd
 | cons e ds ih=>
  intro es h i d hd;simp only[fP]at h;obtain⟨a,r,rfl,h1,h2⟩:=h;cases i with
  | zero=>simp at hd;subst hd;exact⟨a,rfl,h1⟩
  | succ i=>obtain⟨e',h3,h4⟩:=ih h2 i d (by simpa using hd);exact⟨e',by simpa using h3,h4⟩
theorem Eg {F h}:∀{ds:List (List D)} {es:List (List AV)},es.length=ds.length->(∀(i:Nat)(d:List D)(e:List AV),ds[i]?=some d->es[i]?=some e->fW d F h e)->fP ds F h es:=by
 intro ds;induction ds with
 | nil=>intro es hl _;simp only[fP];exact Vl (by simpa using hl)
 | cons d ds ih=>
  intro es hl hh;cases es with
  | nil=>simp at hl
  | cons e es=>simp only[fP];exact⟨e,es,rfl,hh 0 d e rfl rfl,ih (by simpa using hl) λi d' e' h1 h2=>hh (i+1) d' e' (by simpa using h1) (by simpa using h2)⟩
theorem oG {F h}:∀{ds t:List (List D)} {es b:List (List AV)},fP ds F h es->fP t F h b->fP (ds++t) F h (es++b):=by
 intro ds;induction ds with
 | nil=>intro t es b h1 h2;simp only[fP]at h1;subst h1;exact h2
 | cons d ds ih=>intro t es b h1 h2;simp only[fP]at h1;obtain⟨a,r,rfl,h3,h4⟩:=h1;exact⟨a,r++b,rfl,h3,ih h4 h2⟩
theorem JK {F h}{ds:List (List D)}{es:List (List AV)}(hh:fP ds F h es)(k:Nat):fP (ds.take k) F h (es.take k):=by
 refine Eg (by simp[py hh]) λi d e h1 h2=>?_;rw[V_]at h1 h2;split at h1
 ·rename_i hi
  rw[Vf hi]at h2;obtain⟨e',h3,h4⟩:=Ef hh i d h1;rw[h2]at h3;cases h3;exact h4
 ·cases h1
theorem JJ {F h}{ds:List (List D)}{es:List (List AV)}(hh:fP ds F h es)(k:Nat):fP (ds.drop k) F h (es.drop k):=by refine Eg (by simp[py hh]) λi d e h1 h2=>?_;rw[Vz]at h1 h2;obtain⟨e',h3,h4⟩:=Ef hh _ d h1;rw[h2]at h3;cases h3;exact h4
def gz (F:Nat->Prop)(h h':eZ):Prop:=∀m,F m->∀x,h[m]?=some x->h'[m]?=some x
theorem eY.aF {h h':eZ}(F:Nat->Prop)(a:eY fj h h'):gz F h h':=λ_ _ _ hx=>a.aA hx
theorem eY.aM {F F':Nat->Prop}{h h':eZ}(a:eY F h h')(hd:∀m,m<h.length->F' m->¬F m):gz F' h h':=λm hm x hx=>by have:=(U_.1 hx).1;rw[a.2 m this (hd m this hm)];exact hx
theorem lJ.aB {F F' h h' sz av es}(hF:∀m,F m->F' m)(hk:gz F h h')(hh:lJ F h sz av es):lJ F' h' sz av es:=by
 rcases hh with hh | hh | ⟨n,off,len,cap,row,g,h1,h2,h3,h4,h5⟩
 ·exact .inl hh
 ·exact .inr (.inl hh)
 ·exact .inr (.inr ⟨n,off,len,cap,row,g,h1,hF n h2,hk n h2 _ h3,h4,h5⟩)
mutual
theorem Rd.aC {F F':Nat->Prop}{h h':eZ}(hF:∀m,F m->F' m)(hk:gz F h h'):∀(d:D)(av:AV),Rd F h d av->Rd F' h' d av
 | .aA _ _,_,hh=>hh
 | .aD _,_,hh=>hh
 | .aE _,_,hh=>hh
 | .sl _ ds,_,hh=>by simp only[Rd]at hh ⊢;obtain⟨es,h1,h2⟩:=hh;exact⟨es,h1.aB hF hk,gC.aA hF hk ds es h2⟩
theorem fu.aA {F F':Nat->Prop}{h h':eZ}(hF:∀m,F m->F' m)(hk:gz F h h'):∀(ds:List D)(l:List AV),fu F h ds l->fu F' h' ds l
 | [],_,hh=>hh
 | d :: ds,_,hh=>by simp only[fu]at hh ⊢;obtain⟨a,r,h1,h2,h3⟩:=hh;exact⟨a,r,h1,Rd.aC hF hk d a h2,fu.aA hF hk ds r h3⟩
theorem gC.aA {F F':Nat->Prop}{h h':eZ}(hF:∀m,F m->F' m)(hk:gz F h h'):∀(ds:List (List D)) (l:List (List AV)),gC F h ds l->gC F' h' ds l
 | [],_,hh=>hh
 | d :: ds,_,hh=>by simp only[gC]at hh ⊢;obtain⟨a,r,h1,h2,h3⟩:=hh;exact⟨a,r,h1,fu.aA hF hk d a h2,gC.aA hF hk ds r h3⟩
end
mutual
theorem e_.aB:∀(d:D){F F':Nat->Prop}{h h':eZ}(_:∀m,F m->F' m)(_:gz F h h')(av:AV),e_ d F h av->e_ d F' h' av
 | .aA _ _,_,_,_,_,_,_,_,hh=>hh
 | .aD _,_,_,_,_,_,_,_,hh=>hh
 | .aE _,_,_,_,_,_,_,_,hh=>hh
 | .sl _ ds,F,F',h,h',hF,hk,_,hh=>by
  simp only[e_]at hh ⊢;rcases hh with hh | hh | ⟨n,off,cap,row,g,h1,h2,h3,h4,hc,h5⟩
  ·exact .inl hh
  ·exact .inr (.inl hh)
  ·exact .inr (.inr ⟨n,off,cap,row,g,h1,hF n h2,hk n h2 _ h3,h4,hc,fP.aA ds (λm hm=>⟨hF m hm.1,hm.2⟩) (λm hm=>hk m hm.1) _ h5⟩)
theorem fW.aA:∀(ds:List D){F F':Nat->Prop}{h h':eZ}(_:∀m,F m->F' m)(_:gz F h h')(l:List AV),fW ds F h l->fW ds F' h' l
 | [],_,_,_,_,_,_,_,hh=>hh
 | d :: ds,_,_,_,_,hF,hk,_,hh=>by simp only[fW]at hh ⊢;obtain⟨a,r,h1,h2,h3⟩:=hh;exact⟨a,r,h1,e_.aB d hF hk a h2,fW.aA ds hF hk r h3⟩
theorem fP.aA:∀(ds:List (List D)) {F F':Nat->Prop} {h h':eZ} (_:∀m,F m->F' m) (_:gz F h h') (l:List (List AV)),fP ds F h l->fP ds F' h' l
 | [],_,_,_,_,_,_,_,hh=>hh
 | d :: ds,_,_,_,_,hF,hk,_,hh=>by simp only[fP]at hh ⊢;obtain⟨a,r,h1,h2,h3⟩:=hh;exact⟨a,r,h1,fW.aA d hF hk a h2,fP.aA ds hF hk r h3⟩
end
mutual
theorem e_.rd:∀(d:D){F F':Nat->Prop}{h:eZ}(_:∀m,F m->F' m)(av:AV),e_ d F h av->Rd F' h d av
 | .aA _ _,_,_,_,_,_,hh=>hh
 | .aD _,_,_,_,_,_,hh=>hh
 | .aE _,_,_,_,_,_,hh=>hh
 | .sl sz ds,F,F',h,hF,_,hh=>by
  simp only[e_,Rd]at hh ⊢;rcases hh with⟨rfl,rfl⟩ | ⟨t,c,rfl,rfl⟩ | ⟨n,off,cap,row,g,h1,h2,h3,h4,hc,h5⟩
  ·exact⟨[],.inl ⟨rfl,rfl⟩,rfl⟩
  ·exact⟨[],.inr (.inl ⟨t,c,rfl⟩),rfl⟩
  ·exact⟨_,.inr (.inr ⟨n,off,_,cap,row,g,h1,hF n h2,h3,h4,hc,rfl⟩),fP.rd ds (λm hm=>hF m hm.1) _ h5⟩
theorem fW.rd:∀(ds:List D){F F':Nat->Prop}{h:eZ}(_:∀m,F m->F' m)(l:List AV),fW ds F h l->fu F' h ds l
 | [],_,_,_,_,_,hh=>hh
 | d :: ds,_,_,_,hF,_,hh=>by simp only[fW,fu]at hh ⊢;obtain⟨a,r,h1,h2,h3⟩:=hh;exact⟨a,r,h1,e_.rd d hF a h2,fW.rd ds hF r h3⟩
theorem fP.rd:∀(ds:List (List D)) {F F':Nat->Prop} {h:eZ} (_:∀m,F m->F' m) (l:List (List AV)),fP ds F h l->gC F' h ds l
 | [],_,_,_,_,_,hh=>hh
 | d :: ds,_,_,_,hF,_,hh=>by simp only[fP,gC]at hh ⊢;obtain⟨a,r,h1,h2,h3⟩:=hh;exact⟨a,r,h1,fW.rd d hF a h2,fP.rd ds hF r h3⟩
end
theorem gz.lt (F:Nat->Prop)(h:eZ):∀m,F m->∀x,h[m]?=some x->h[m]?=some x:=λ_ _ _ hx=>hx
mutual
theorem e_.lt:∀(d:D){F:Nat->Prop}{h:eZ}(av:AV),e_ d F h av->e_ d (λm=>F m/\m<h.length) h av
 | .aA _ _,_,_,_,hh=>hh
 | .aD _,_,_,_,hh=>hh
 | .aE _,_,_,_,hh=>hh
 | .sl sz ds,F,h,_,hh=>by
  simp only[e_]at hh ⊢;rcases hh with hh | hh | ⟨n,off,cap,row,g,h1,h2,h3,h4,hc,h5⟩
  ·exact .inl hh
  ·exact .inr (.inl hh)
  ·exact .inr (.inr ⟨n,off,cap,row,g,h1,⟨h2,(U_.1 h3).1⟩,h3,h4,hc,
    fP.aA ds (λm hm=>⟨⟨hm.1.1,hm.2⟩,hm.1.2⟩) (λ_ _ _ hx=>hx) _ (fP.lt ds _ h5)⟩)
theorem fW.lt:∀(ds:List D){F:Nat->Prop}{h:eZ}(l:List AV),fW ds F h l->fW ds (λm=>F m/\m<h.length) h l
 | [],_,_,_,hh=>hh
 | d :: ds,_,_,_,hh=>by simp only[fW]at hh ⊢;obtain⟨a,r,h1,h2,h3⟩:=hh;exact⟨a,r,h1,e_.lt d a h2,fW.lt ds r h3⟩
theorem fP.lt:∀(ds:List (List D)) {F:Nat->Prop} {h:eZ} (l:List (List AV)),fP ds F h l->fP ds (λm=>F m/\m<h.length) h l
 | [],_,_,_,hh=>hh
 | d :: ds,_,_,_,hh=>by simp only[fP]at hh ⊢;obtain⟨a,r,h1,h2,h3⟩:=hh;exact⟨a,r,h1,fW.lt d a h2,fP.lt ds r h3⟩
end
def im (h:eZ):AV->Option (List AV)
 | .aC m sz i o=>match h[m]? with
  | some (some (.aA sz' es _))=>if sz=sz' then (es[i]?).map (·.drop o) else none
  | _=>none
 | .aN _ cs=>some cs
 | _=>none
def lW (o:Nat):AV->AV
 | .aC m sz i o'=>.aC m sz i (o'+o)
 | .aN t cs=>.aN t (cs.drop o)
 | v=>v
theorem hP {h p cs}(hp:im h p=some cs)(agg:Bool)(n:Nat):gX h agg n p=nD agg n cs:=by
 unfold im at hp;split at hp
 ·rename_i m sz i o
  simp only[gX];split at hp
  ·rename_i sz' es g hm
   simp only[hm];split at hp
   ·rename_i e
    rw[Vf e];cases he:es[i]? with
    | none=>simp[he]at hp
    | some e'=>simp[he]at hp;subst hp;rfl
   ·cases hp
  ·cases hp
 ·cases hp;rfl
 ·cases hp
theorem ko {h p cs}(hp:im h p=some cs)(o:Nat):pC o p=some (lW o p):=by
 unfold im at hp;split at hp
 ·rfl
 ·rfl
 ·cases hp
theorem QH {h p cs}(hp:im h p=some cs)(o:Nat):im h (lW o p)=some (cs.drop o):=by
 unfold im at hp;split at hp
 ·rename_i m sz i o'
  simp only[lW,im];split at hp
  ·rename_i sz' es g hm
   (try simp only[hm])
   split at hp
   ·rename_i e
    (try rw[Vf e])
    cases he:es[i]? with
    | none=>simp[he]at hp
    | some e'=>simp[he]at hp;subst hp;simp[List.drop_drop]
   ·cases hp
  ·cases hp
 ·cases hp;rfl
 ·cases hp
theorem jJ {h p cs}(hp:im h p=some cs)(o:Nat)(agg:Bool)(n:Nat):gX h agg n (lW o p)=nD agg n (cs.drop o):=hP (QH hp o) agg n
theorem QG {F:Nat->Prop}{h h':eZ}(hk:gz F h h'){m sz i o cs}(hm:F m)(hp:im h (.aC m sz i o)=some cs):im h' (.aC m sz i o)=some cs:=by
 simp only[im]at hp ⊢;split at hp
 ·rename_i sz' es g hx;rw[hk m hm _ hx];exact hp
 ·cases hp
theorem lJ.aA {F h sz av es}(hh:lJ F h sz av es):g_ av=some (.aA .i64 es.length):=by
 rcases hh with⟨rfl,rfl⟩ | ⟨t,c,rfl⟩ | ⟨n,off,len,cap,row,g,rfl,_,_,h4,_,rfl⟩
 ·rfl
 ·rfl
 ·simp only[g_,Vw,VA];congr 2;omega
theorem lJ.aC {F h sz av es}(hh:lJ F h sz av es):iV h sz av=some es:=by
 rcases hh with⟨rfl,rfl⟩ | ⟨t,c,rfl⟩ | ⟨n,off,len,cap,row,g,rfl,_,h3,h4,_,rfl⟩
 ·rfl
 ·simp[iV]
 ·simp[iV,h3,h4]
theorem lJ.aD {F h sz av es}(hh:lJ F h sz av es)(k:IntKind){i:Int}{e:List AV}(h0:0<=i) (he:es[i.toNat]?=some e):
  ∃p,iH sz av (.aA k i)=some p/\im h p=some e:=by
 rcases hh with⟨rfl,rfl⟩ | ⟨t,c,rfl⟩ | ⟨n,off,len,cap,row,g,rfl,_,h3,h4,_,rfl⟩
 ·simp at he
 ·exact⟨.aN t e,by simp[iH,h0,he],rfl⟩
 ·have hlt:=(U_.1 he).1
  simp only[Vw,VA]at hlt;rw[VV (by omega),Vz]at he;refine⟨.aC n sz (off+i.toNat) 0,?_,?_⟩
  ·simp only[iH];rw[Vf ⟨Vp,h0,by omega⟩]
  ·simp[im,h3,he]
theorem lJ.aE {F h sz av es}(hh:lJ F h sz av es){lo hi mx:Option Int}(h0:0<=lo.getD 0)(h1:lo.getD 0<=hi.getD es.length)(h2:hi.getD es.length<=(es.length:Int))
  (h3:hi.getD es.length<=mx.getD (hi.getD es.length)) (h4:mx.getD (hi.getD es.length)<=(es.length:Int)) (h5:mx.isSome->hi.isSome):
  ∃E,iR sz av lo hi mx=some E/\lJ F h sz E ((es.take (hi.getD es.length).toNat).drop (lo.getD 0).toNat):=by
 rcases hh with⟨rfl,rfl⟩ | ⟨t,c,rfl⟩ | ⟨n,off,len,cap,row,g,rfl,hF,hm,hle,u,rfl⟩
 ·simp only[VN,Xj]at h1 h2 h3 h4
  have e0:lo.getD 0=0:=by omega
  have e1:hi.getD 0=0:=by omega
  have e2:mx.getD 0=0:=by cases mx with
   | none=>rfl
   | some m=>simp at h3 h4 ⊢;omega
  exact⟨.aB,by simp[iR,e0,e1,e2],.inl ⟨rfl,by simp⟩⟩
 ·refine⟨.aL t (pf mx (hi.getD es.length) es.length c) sz ((es.take (hi.getD es.length).toNat).drop (lo.getD 0).toNat),?_,.inr (.inl ⟨t,_,rfl⟩)⟩
  simp only[iR];rw[Vf ⟨Vp,h0,h1,h2,h3,h4⟩]
 ·have hl:((row.drop off).take len).length=len:=by simp;omega
  rw[hl]at h1 h2 h3 h4 ⊢;simp only[iR];have hcl:(len:Int)<=((cap.getD len:Nat):Int):=by
   cases cap with
   | none=>simp
   | some c=>have:=u c rfl;simp;omega
  generalize lo.getD 0=l at *;have I:mx.isSome->jz mx l.toNat cap=some ((mx.getD (hi.getD (len:Int))).toNat-l.toNat):=by
   intro hm;cases mx with
   | none=>simp at hm
   | some m=>rfl
  have M:mx=none->jz mx l.toNat cap=cap.map (·-l.toNat):=by rintro rfl;rfl
  generalize hi.getD (len:Int)=hh at *;have b:r_ (jz mx l.toNat cap) (hh.toNat-l.toNat):=by
   intro c hc;cases C:mx with
   | none=>rw[M C]at hc;cases cap with
    | none=>simp at hc
    | some q=>have:=u q rfl;simp at hc;omega
   | some m=>rw[I (by simp[C])]at hc;simp at hc;omega
  rw[Vf ⟨Vp,h0,h1,.inl h2,h3,by omega⟩];by_cases e0:l=0
  ·rw[Vf e0]
   subst e0;refine⟨_,rfl,.inr (.inr ⟨n,off,_,_,row,g,rfl,hF,hm,by omega,by simpa using b,?_⟩)⟩;rw[W_,Wf,Xk,WW (by omega)]
  ·rw[Ve e0]
   by_cases e1:l<hh
   ·rw[Vf e1]
    refine⟨_,rfl,.inr (.inr ⟨n,off+l.toNat,_,_,row,g,rfl,hF,hm,by omega,b,?_⟩)⟩;rw[Xk,List.drop_take,List.drop_drop];congr 1;omega
   ·rw[Ve e1]
    refine⟨_,rfl,.inr (.inl ⟨0,false,?_⟩)⟩;have:(((row.drop off).take len).take hh.toNat).drop l.toNat=[]:=by apply Vl;simp;omega
    rw[this]
theorem Rd.aB {F h sz ds av}(hh:Rd F h (.sl sz ds) av):g_ av=some (.aA .i64 ds.length):=by simp only[Rd]at hh;obtain⟨es,h1,h2⟩:=hh;rw[h1.aA,nO h2]
theorem Rd.aD {F h sz ds av}(hh:Rd F h (.sl sz ds) av)(k:IntKind){i:Int}{d:List D}(h0:0<=i) (hd:ds[i.toNat]?=some d):
  ∃p cs,iH sz av (.aA k i)=some p/\im h p=some cs/\fu F h d cs:=by
 simp only[Rd]at hh;obtain⟨es,h1,h2⟩:=hh;obtain⟨e,he,hr⟩:=yN h2 _ _ hd;obtain⟨p,h3,h4⟩:=h1.aD k h0 he;exact⟨p,e,h3,h4,hr⟩
theorem Rd.aI {F h sz ds av}(hh:Rd F h (.sl sz ds) av){lo hi mx:Option Int}(h0:0<=lo.getD 0)(h1:lo.getD 0<=hi.getD ds.length)(h2:hi.getD ds.length<=(ds.length:Int))
  (h3:hi.getD ds.length<=mx.getD (hi.getD ds.length)) (h4:mx.getD (hi.getD ds.length)<=(ds.length:Int)) (h5:mx.isSome->hi.isSome):
  ∃b,iR sz av lo hi mx=some b/\Rd F h (.sl sz ((ds.take (hi.getD ds.length).toNat).drop (lo.getD 0).toNat)) b:=by
 simp only[Rd]at hh ⊢;obtain⟨es,e1,e2⟩:=hh;have hl:=nO e2;obtain⟨b,e3,e4⟩:=e1.aE (lo:=lo) (hi:=hi) (mx:=mx) h0 (by rw[hl];exact h1) (by rw[hl];exact h2) (by rw[hl];exact h3) (by rw[hl];exact h4) h5;rw[hl]at e4;exact⟨b,e3,_,e4,JQ (JR e2 _) _⟩
theorem Rd.aK {F h sz ds av}(hh:Rd F h (.sl sz ds) av):∃es,iV h sz av=some es/\gC F h ds es:=by simp only[Rd]at hh;obtain⟨es,h1,h2⟩:=hh;exact⟨es,h1.aC,h2⟩
theorem Rd.aJ {F h}(sz:Nat):Rd F h (.sl sz []) .aB:=by simp only[Rd,gC];exact⟨[],.inl ⟨rfl,rfl⟩,rfl⟩
theorem e_.aC {F h}(sz:Nat):e_ (.sl sz []) F h .aB:=by simp only[e_];exact .inl ⟨Vp,Vp⟩
theorem e_.aD {sz ds F h a}(hh:e_ (.sl sz ds) F h a):∃ys,iV h sz a=some ys/\fP ds F h ys:=by
 simp only[e_]at hh;rcases hh with⟨rfl,rfl⟩ | ⟨t,c,rfl,rfl⟩ | ⟨n,off,cap,row,g,rfl,h2,h3,h4,hc,h5⟩
 ·exact⟨[],rfl,rfl⟩
 ·exact⟨[],by simp[iV],rfl⟩
 ·exact⟨_,by simp[iV,h3,h4],fP.aA ds (λm hm=>hm.1) (λ_ _ _ x=>x) _ h5⟩
def gq (h:eZ):AV->Prop
 | .aB=>True
 | .aF n sz off len cap=>∃row g,h[n]?=some (some (.aA sz row g))/\(cap=none->off=0)/\∀c,cap=some c->off+c<=row.length
 | .aL _ clip _ _=>clip=true
 | _=>False
theorem gq.aA {F:Nat->Prop}{h h' av d}(hc:gq h av)(ho:e_ d F h av)(hk:gz F h h'):gq h' av:=by
 unfold gq at hc ⊢;split
 ·trivial
 ·rename_i n sz off len cap
  obtain⟨row,g,h1,h2⟩:=hc;refine⟨row,g,hk n ?_ _ h1,h2⟩;cases d with
  | sl sz' ds=>
   simp only[e_]at ho;rcases ho with⟨e,_⟩ | ⟨t,c,e,_⟩ | ⟨n',off',cap',row',g',e,hF,_⟩
   ·cases e
   ·cases e
   ·cases e;exact hF
  | aA k n=>simp only[e_]at ho;cases ho
  | aD b=>simp only[e_]at ho;cases ho
  | aE s=>simp only[e_]at ho;cases ho
 ·exact hc
 ·simp_all
theorem jr {lo sz bytes : Nat} {ds es : List (List D)} {h0 h : eZ} {av : AV} {ys : List (List AV)} (ho : e_ (.sl sz ds) (λm => lo <= m) h0 av) (hc : gq h0 av)
  (hx:eY fj h0 h) (hy:fP es (λm=>h0.length<=m) h ys) (hlo:lo<=h0.length) (hb:(ds.length+es.length)*bytes<=2^46):
  ∃av' h',iL h sz bytes av ys=some (av',h')/\e_ (.sl sz (ds++es)) (λm=>lo<=m) h' av'/\gq h' av'/\eY (λm=>lo<=m) h h':=by
 have hyl:=py hy;have new:∀(hh:eZ) (es':List (List AV)),gz (λm=>lo<=m/\m≠hh.length) hh (hh++[some (.aA sz es' true)]):=λhh es' m hm x hx=>by rw[VK (U_.1 hx).1];exact hx
 have fresh:∀(hh:eZ) (dd:List (List D)) (es':List (List AV)),lo<=hh.length->fP dd (λm=>lo<=m) hh es'->
   e_ (.sl sz dd) (λm=>lo<=m) (gR hh sz es').2 (gR hh sz es').1/\gq (gR hh sz es').2 (gR hh sz es').1:=by
  intro hh dd es' hl hd;have hlen:=py hd;refine⟨?_,⟨es',true,by simp[gR],(λ_=>rfl),(λc hc=>by cases hc)⟩⟩;simp only[e_,gR];refine .inr (.inr ⟨hh.length,0,none,es',true,by rw[hlen],hl,by simp,by omega,(λc hc=>by cases hc),?_⟩);have:(es'.drop 0).take dd.length=es':=by rw[Wf,V5 (by omega)]
  rw[this];refine fP.aA dd (λm hm=>⟨hm.1,by have:=hm.2;omega⟩) ?_ _ (fP.lt dd _ hd);intro m hm x hx;rw[VK hm.2];exact hx
 simp only[e_]at ho;rcases ho with⟨rfl,rfl⟩ | ⟨t,c,rfl,rfl⟩ | ⟨n,off,cap,row,g,rfl,hn,hrow,hle,hcl,hd⟩
 · -- nothing yet
  have hy':fP es (λm=>lo<=m) h ys:=fP.aA es (λm hm=>Vr hlo hm) (λ_ _ _ x=>x) _ hy;obtain⟨a,b⟩:=fresh h es ys (Vr hlo hx.1) hy';refine⟨_,_,?_,by simpa using a,b,?_⟩
  ·simp only[iL];rw[Vf (by rw[hyl];simpa using hb)]
  ·exact eY.aE _ _ _
 ·have hc1:c=true:=hc
  subst hc1;have hy':fP es (λm=>lo<=m) h ys:=fP.aA es (λm hm=>Vr hlo hm) (λ_ _ _ x=>x) _ hy;simp only[iL];rw[Vf ⟨Vp,by rw[hyl];simpa using hb⟩];by_cases hy0:ys.length=0
  ·rw[Vf hy0]
   have hes:es=[]:=Vl (by omega);subst hes;refine⟨_,_,rfl,?_,rfl,eY.aC _ _⟩;simp only[e_];exact .inr (.inl ⟨t,true,rfl,rfl⟩)
  ·rw[Ve hy0,Vf Vp]
   obtain⟨a,b⟩:=fresh h es ys (Vr hlo hx.1) hy';exact⟨_,_,rfl,by simpa [gR] using a,b,eY.aE _ _ _⟩
 ·obtain⟨row',g',hrow',hcn,hcs⟩:=hc
  rw[hrow]at hrow';obtain⟨rfl,rfl⟩:row=row'/\g=g':=by simpa using hrow'
  have hnlt:=(U_.1 hrow).1;have hrow1:h[n]?=some (some (.aA sz row g)):=hx.aA hrow;have hnlt1:=(U_.1 hrow1).1;have hd1:fP ds (λm=>lo<=m/\m≠n) h ((row.drop off).take ds.length):=fP.aA ds (λm hm=>hm) (hx.aF _) _ hd;have hy1:fP es (λm=>lo<=m/\m≠n) h ys:=fP.aA es (λm hm=>⟨Vr hlo hm,by omega⟩) (λ_ _ _ x=>x) _ hy;have both:fP (ds++es) (λm=>lo<=m) h ((row.drop off).take ds.length++ys):=fP.aA _ (λm hm=>hm.1) (λ_ _ _ x=>x) _ (oG hd1 hy1);simp only[iL,hrow1];rw[Vf ⟨Vp,Vp,hle,by rw[hyl];exact hb⟩];cases cap with
  | none=>
   obtain rfl:=hcn rfl;simp only[V3];have both':fP (ds++es) (λm=>lo<=m) (h.set n none) (row.take ds.length++ys):=by have:=oG hd1 hy1;rw[Wf]at this;exact fP.aA _ (λm hm=>hm.1) (λm hm x hx=>by rw[Vb (λe=>hm.2 e.symm)];exact hx) _ this
   obtain⟨a,b⟩:=fresh (h.set n none) (ds++es) (row.take ds.length++ys) (by simp;omega) both';exact⟨_,_,rfl,a,b,(eY.aG none (λ_=>hn)).aB (eY.aE (λm=>lo<=m) _ _) (λ_ _ x=>x) (λ_ _ x=>x)⟩
  | some c=>
   have hc1:=hcl c rfl;have hc2:=hcs c rfl;cases c with
   | zero=>
    have h0:ds.length=0:=by omega
    have hds:ds=[]:=Vl h0;subst hds;simp only[VN,V3];by_cases hy0:ys.length=0
    ·rw[Vf hy0]
     have hes:es=[]:=Vl (by omega);subst hes;refine⟨_,_,rfl,?_,⟨row,g,hrow1,(λe=>by cases e),(λc hc=>by cases hc;omega)⟩,eY.aC _ _⟩;simp only[e_];exact .inr (.inr ⟨n,off,some 0,row,g,rfl,hn,hrow1,by simpa using hle,(λc hc=>by cases hc;simp),by simp[fP]⟩)
    ·rw[Ve hy0]
     have hy2:fP es (λm=>lo<=m) h ys:=fP.aA es (λm hm=>hm.1) (λ_ _ _ x=>x) _ hy1;obtain⟨a,b⟩:=fresh h es ys (by omega) hy2;exact⟨_,_,rfl,by simpa [gR] using a,b,eY.aE _ _ _⟩
   | succ c=>
    simp only;by_cases hcap:c+1<ds.length+ys.length
    ·rw[Vf hcap]
     obtain⟨a,b⟩:=fresh h (ds++es) _ (by omega) both;exact⟨_,_,rfl,a,b,eY.aE _ _ _⟩
    ·rw[Ve hcap,Vf (by omega)]
     have hsl:(gY row (off+ds.length) ys).length=row.length:=by simp[gY];omega
     refine⟨_,_,rfl,?_,⟨_,g,by rw[Vd hnlt1],(λe=>by cases e),(λc' hc'=>by cases hc';rw[hsl];exact hc2)⟩,eY.aG _ (λ_=>hn)⟩;simp only[e_];refine .inr (.inr ⟨n,off,some (c+1),gY row (off+ds.length) ys,g,by rw[Vj,hyl],hn,by rw[Vd hnlt1],by rw[hsl,Vj];omega,
      (λc' hc'=>by cases hc';rw[Vj];omega),?_⟩)
     have e:((gY row (off+ds.length) ys).drop off).take (ds++es).length=(row.drop off).take ds.length++ys:=by
      apply VT;intro i;simp only[V_,Vz,Vj,gY,Wb,Vw,Vj,VA];rw[show min (off+ds.length) row.length=off+ds.length by omega,show min ds.length (row.length-off)=ds.length by omega];by_cases h1:i<ds.length
      ·rw[Vf (by omega),Vf (by omega),Vf (by omega),Vf (by omega),Vf h1]
       simp[h1]
      ·by_cases h2:i<ds.length+es.length
       ·rw[Vf h2,Vf (by omega),Ve (by omega),Ve h1]
        congr 1;omega
       ·rw[Ve h2,Ve h1,VJ (by omega)]
     rw[e];refine fP.aA _ (λm hm=>hm) ?_ _ (oG hd1 hy1);intro m hm x hx;rw[Vb (λe=>hm.2 e.symm)];exact hx
theorem HJ {F:Nat->Prop}{sz:Nat}{ds:List (List D)}{h:eZ}{av:AV}(ho:e_ (.sl sz ds) F h av){k:Int}(h0:0<=k)(hk:k<=ds.length):
  ∃u,iR sz av none (some k) (some k)=some u/\e_ (.sl sz (ds.take k.toNat)) F h u/\gq h u:=by
 simp only[e_]at ho;rcases ho with⟨rfl,rfl⟩ | ⟨t,c,rfl,rfl⟩ | ⟨n,off,cap,row,g,rfl,hn,b,hle,C,hd⟩
 ·have:k=0:=by simpa using (by simp at hk;omega:k=0)
  subst this;exact⟨.aB,by simp[iR],e_.aC sz,Vp⟩
 ·have:k=0:=by simpa using (by simp at hk;omega:k=0)
  subst this;refine⟨.aL t true sz [],by simp[iR,pf],?_,rfl⟩;simp only[e_];exact .inr (.inl ⟨t,true,rfl,by simp⟩)
 ·have hcl':(ds.length:Int)<=((cap.getD ds.length:Nat):Int):=by
   cases cap with
   | none=>simp
   | some c=>have:=C c rfl;simp;omega
  have hl:(ds.take k.toNat).length=k.toNat:=by simp;omega
  refine⟨.aF n sz off k.toNat (some k.toNat),?_,?_,⟨row,g,b,(λe=>by cases e),(λc hc=>by cases hc;omega)⟩⟩
  ·simp only[iR,Wh,VG]
   rw[Vf ⟨Vp,by omega,by omega,.inl (by omega),by omega,by omega⟩,Vf Vp];simp[jz]
  ·simp only[e_]
   refine .inr (.inr ⟨n,off,some k.toNat,row,g,by rw[hl],hn,b,by omega,(λc hc=>by cases hc;omega),?_⟩);rw[hl];have:=JK hd k.toNat;rw[Xk,WW (by omega)]at this;exact this
def iJ (lo:Nat)(h:eZ)(sz:Nat)(av:AV)(es:List (List AV)):Prop:=
 (av=.aB/\es=[])\/∃n off cap row g,av=.aF n sz off es.length cap/\lo<=n/\h[n]?=some (some (.aA sz row g))/\off+es.length<=row.length/\r_ cap es.length /\
  (cap=none->off=0)/\(∀c,cap=some c->off+c<=row.length)/\(row.drop off).take es.length=es
theorem iJ.aB {lo h sz av es}(ho:iJ lo h sz av es):lJ (λm=>lo<=m) h sz av es:=by
 rcases ho with ho | ⟨n,off,cap,row,g,h1,h2,h3,h4,h5,_,_,h6⟩
 ·exact .inl ho
 ·exact .inr (.inr ⟨n,off,es.length,cap,row,g,h1,h2,h3,h4,h5,h6.symm⟩)
theorem wD {lo sz bytes:Nat}{h0 h:eZ}{av:AV}{es ys:List (List AV)}(ho:iJ lo h0 sz av es)(hx:eY fj h0 h)(a3:lo<=h0.length)
  (hb:(es.length+ys.length)*bytes<=2^46):∃a1 h',iL h sz bytes av ys=some (a1,h')/\iJ lo h' sz a1 (es++ys)/\eY (λm=>lo<=m) h h':=by
 have b:∀(hh:eZ) (E:List (List AV)),lo<=hh.length->iJ lo (gR hh sz E).2 sz (gR hh sz E).1 E:=by intro hh E hl;exact .inr ⟨hh.length,0,none,E,true,rfl,hl,by simp[gR],by omega,(λc hc=>by cases hc),(λ_=>rfl),(λc hc=>by cases hc),by simp⟩
 rcases ho with⟨rfl,rfl⟩ | ⟨n,off,cap,row,g,rfl,hn,u,O,a0,W,U,he⟩
 ·refine⟨(gR h sz ys).1,(gR h sz ys).2,?_,b h ys (Vr a3 hx.1),eY.aE _ _ _⟩
  simp only[iL];rw[Vf (by simpa using hb)]
 ·have hnlt:=(U_.1 u).1
  have t:h[n]?=some (some (.aA sz row g)):=hx.aA u;have C:=(U_.1 t).1;simp only[iL,t];rw[Vf ⟨Vp,Vp,O,hb⟩];cases cap with
  | none=>obtain rfl:=W rfl;simp only[V3];rw[Wf]at he;refine⟨_,_,rfl,?_,(eY.aG none (λ_=>hn)).aB (eY.aE (λm=>lo<=m) _ _) (λ_ _ x=>x) (λ_ _ x=>x)⟩;rw[he];exact b _ _ (by simp;omega)
  | some c=>
   have hc1:=a0 c rfl;have a6:=U c rfl;cases c with
   | zero=>
    have a4:es=[]:=Vl (by omega);subst a4;simp only[VN,V3];by_cases hy0:ys.length=0
    ·rw[Vf hy0]
     have a2:ys=[]:=Vl hy0;subst a2;exact⟨_,_,rfl,.inr ⟨n,off,some 0,row,g,rfl,hn,t,O,a0,W,U,he⟩,eY.aC _ _⟩
    ·rw[Ve hy0]
     exact⟨(gR h sz ys).1,(gR h sz ys).2,rfl,b h ys (by omega),eY.aE _ _ _⟩
   | succ c=>
    simp only;by_cases hcap:c+1<es.length+ys.length
    ·rw[Vf hcap,he]
     exact⟨_,_,rfl,b _ _ (by omega),eY.aE _ _ _⟩
    ·rw[Ve hcap,Vf (by omega)]
     have M:(gY row (off+es.length) ys).length=row.length:=by simp[gY];omega
     refine⟨_,_,rfl,.inr ⟨n,off,some (c+1),gY row (off+es.length) ys,g,by rw[Vj],hn,by rw[Vd C],by rw[M,Vj];omega,
      (λc' I=>by cases I;rw[Vj];omega),(λe=>by cases e),(λc' I=>by cases I;rw[M];exact a6),?_⟩,eY.aG _ (λ_=>hn)⟩
     apply VT;intro i;have a5:∀i,i<es.length->row[off+i]?=es[i]?:=λi hi=>by
      have:es[i]?=((row.drop off).take es.length)[i]?:=by rw[he]
      rw[this,VV hi,Vz]
     simp only[V_,Vz,Vj,gY,Wb,Vw,Vj];rw[show min (off+es.length) row.length=off+es.length by omega];by_cases h1:i<es.length
     ·rw[Vf (by omega),Vf (by omega),Vf (by omega),Vf (by omega),Vf h1]
      exact a5 i h1
     ·by_cases h2:i<es.length+ys.length
      ·rw[Vf h2,Vf (by omega),Ve (by omega),Ve h1]
       congr 1;omega
      ·rw[Ve h2,Ve h1,VJ (by omega)]
mutual
theorem Rd.lt:∀(d:D){F:Nat->Prop}{h:eZ}(av:AV),Rd F h d av->Rd (λm=>F m/\m<h.length) h d av
 | .aA _ _,_,_,_,hh=>hh
 | .aD _,_,_,_,hh=>hh
 | .aE _,_,_,_,hh=>hh
 | .sl sz ds,F,h,_,hh=>by
  simp only[Rd]at hh ⊢;obtain⟨es,h1,h2⟩:=hh;refine⟨es,?_,gC.lt ds es h2⟩;rcases h1 with h1 | h1 | ⟨n,off,len,cap,row,g,h1,h2,h3,h4⟩
  ·exact .inl h1
  ·exact .inr (.inl h1)
  ·exact .inr (.inr ⟨n,off,len,cap,row,g,h1,⟨h2,(U_.1 h3).1⟩,h3,h4⟩)
theorem fu.lt:∀(ds:List D){F:Nat->Prop}{h:eZ}(l:List AV),fu F h ds l->fu (λm=>F m/\m<h.length) h ds l
 | [],_,_,_,hh=>hh
 | d :: ds,_,_,_,hh=>by simp only[fu]at hh ⊢;obtain⟨a,r,h1,h2,h3⟩:=hh;exact⟨a,r,h1,Rd.lt d a h2,fu.lt ds r h3⟩
theorem gC.lt:∀(ds:List (List D)) {F:Nat->Prop} {h:eZ} (l:List (List AV)),gC F h ds l->gC (λm=>F m/\m<h.length) h ds l
 | [],_,_,_,hh=>hh
 | d :: ds,_,_,_,hh=>by simp only[gC]at hh ⊢;obtain⟨a,r,h1,h2,h3⟩:=hh;exact⟨a,r,h1,fu.lt d a h2,gC.lt ds r h3⟩
end
theorem RR (g:fJ->AV)(h:eZ)(x:fJ):gB g h (.aA x)=some (g x):=Vn rfl rfl
theorem RQ (g:fJ->AV)(h:eZ)(agg:Bool)(n:Nat)(x:fJ):gB g h (.aB agg n x)=gX h agg n (g x):=Vn rfl rfl
theorem RF (g:fJ->AV)(h:eZ)(op:BinOp)(x y:fJ):gB g h (.aD op x y)=iQ op (g x) (g y):=Vn rfl rfl
theorem RO (g:fJ->AV)(h:eZ)(x:fJ):gB g h (.aF x)=g_ (g x):=Vn rfl rfl
theorem RV (g:fJ->AV)(h:eZ)(o:Nat)(x:fJ):gB g h (.aC o x)=pC o (g x):=Vn rfl rfl
theorem RN (g:fJ->AV)(h:eZ)(sz:Nat)(x i:fJ):gB g h (.aI sz x i)=iH sz (g x) (g i):=Vn rfl rfl
def EV (c a b:AV):Option AV:=match c with
 | .aD t=>some (if t then a else b)
 | _=>none
theorem RW (g:fJ->AV)(h:eZ)(c a b:fJ):gB g h (.aE c a b)=EV (g c) (g a) (g b):=Vn rfl rfl
theorem KJ (t:Bool)(a b:AV):EV (.aD t) a b=some (if t then a else b):=Vn rfl rfl
def EU:AV->Option AV
 | .aD b=>some (.aD !b)
 | _=>none
theorem RU (g:fJ->AV)(h:eZ)(x:fJ):gB g h (.aR x)=EU (g x):=Vn rfl rfl
theorem KG (b:Bool):EU (.aD b)=some (.aD !b):=Vn rfl rfl
def EK (i:Nat):AV->Option AV
 | .aI cs=>cs[i]?
 | _=>none
theorem RK (g:fJ->AV)(h:eZ)(x:fJ)(i:Nat):gB g h (.aP x i)=EK i (g x):=Vn rfl rfl
theorem Ko (i:Nat)(cs:List AV):EK i (.aI cs)=cs[i]?:=Vn rfl rfl
def yS (op:BinOp):AV->AV->Option AV
 | .aD a,.aD b=>wL op a b
 | _,_=>none
theorem RE (g:fJ->AV)(h:eZ)(op:BinOp)(x y:fJ):gB g h (.aL op x y)=yS op (g x) (g y):=Vn rfl rfl
theorem Ki (a b:Bool):yS .eql (.aD a) (.aD b)=some (.aD (a == b)):=Vn rfl rfl
theorem Kj (a b:Bool):yS .neq (.aD a) (.aD b)=some (.aD (!(a == b))):=Vn rfl rfl
def EG:AV->Option AV
 | .aC n sz i o=>some (.aC n sz i o)
 | .aN t cs=>some (.aN t cs)
 | .aT t v=>some (.aT t v)
 | .aM f fs cs=>some (.aM f fs cs)
 | _=>none
theorem RI (g:fJ->AV)(h:eZ)(x:fJ):gB g h (.aN x)=EG (g x):=by simp only[gB];generalize g x=v;cases v<;>rfl
def EH (k:IntKind):AV->Option AV
 | .aA _ n=>some (.aA k (k.wrap n))
 | _=>none
theorem RJ (g:fJ->AV)(h:eZ)(k:IntKind)(x:fJ):gB g h (.aO k x)=EH k (g x):=Vn rfl rfl
theorem wE (k k':IntKind)(n:Int):EH k (.aA k' n)=some (.aA k (k.wrap n)):=Vn rfl rfl
def ET:AV->Option AV
 | .aA k n=>some (.aA k (k.wrap (0-n)))
 | _=>none
theorem RT (g:fJ->AV)(h:eZ)(x:fJ):gB g h (.aQ x)=ET (g x):=Vn rfl rfl
theorem KE (k:IntKind)(n:Int):ET (.aA k n)=some (.aA k (k.wrap (0-n))):=Vn rfl rfl
def oO (sz:Nat)(x:AV):Option (Option Int)->Option (Option Int)->Option (Option Int)->Option AV
 | some lo,some hi,some mx=>iR sz x lo hi mx
 | _,_,_=>none
theorem Ip (g:fJ->AV)(h:eZ)(sz:Nat)(x:fJ)(lo hi mx:Option fJ):gB g h (.aS sz x lo hi mx)=oO sz (g x) (kV g lo) (kV g hi) (kV g mx):=by simp only[gB,oO];generalize kV g lo=a;generalize kV g hi=b;generalize kV g mx=c;cases a<;>cases b<;>cases c<;>rfl
theorem KR (sz:Nat)(x:AV)(lo hi mx:Option Int):oO sz x (some lo) (some hi) (some mx)=iR sz x lo hi mx:=Vn rfl rfl
def CZ:AV->Option (Option Int)
 | .aA _ n=>some (some n)
 | _=>none
theorem Qp (g:fJ->AV)(x:fJ):kV g (some x)=CZ (g x):=by simp only[kV,CZ];generalize g x=v;cases v<;>rfl
theorem Qn (k:IntKind)(n:Int):CZ (.aA k n)=some (some n):=Vn rfl rfl
theorem Qo (g:fJ->AV):kV g none=some none:=Vn rfl rfl
theorem Km (a b:Int):iQ .add (.aA .i64 a) (.aA .i64 b)=some (.aA .i64 (IntKind.i64.wrap (a+b))):=Vn rfl rfl
theorem TE (a b:Int):iQ .sub (.aA .i64 a) (.aA .i64 b)=some (.aA .i64 (IntKind.i64.wrap (a-b))):=Vn rfl rfl
theorem PZ (a b:Int):iQ .mul (.aA .i64 a) (.aA .i64 b)=some (.aA .i64 (IntKind.i64.wrap (a*b))):=Vn rfl rfl
theorem LS (k:IntKind)(a b:Int):iQ .lss (.aA k a) (.aA k b)=some (.aD (decide (a<b))):=by simp[iQ,oY]
theorem LR (k:IntKind)(a b:Int):iQ .leq (.aA k a) (.aA k b)=some (.aD (decide (a<=b))):=by simp[iQ,oY]
theorem LQ (k:IntKind)(a b:Int):iQ .gtr (.aA k a) (.aA k b)=some (.aD (decide (b<a))):=by simp[iQ,oY]
theorem LP (k:IntKind)(a b:Int):iQ .geq (.aA k a) (.aA k b)=some (.aD (decide (b<=a))):=by simp[iQ,oY]
theorem LO (k:IntKind)(a b:Int):iQ .eql (.aA k a) (.aA k b)=some (.aD (decide (a=b))):=by simp[iQ,oY];rfl
theorem LU (k:IntKind)(a b:Int):iQ .neq (.aA k a) (.aA k b)=some (.aD (!decide (a=b))):=by simp[iQ,oY,bne];rfl
theorem fQ {x:Int}(h:-9223372036854775808<=x/\x<=9223372036854775807):IntKind.i64.wrap x=x:=by simp only[IntKind.wrap,IntKind.bits,IntKind.signed];simp;split<;>omega
theorem TG (n:Nat)(cs:List AV):nD true n cs=if n<=cs.length then some (.aE (cs.take n)) else none:=Vn rfl rfl
theorem te (n:Nat)(c:AV)(cs:List AV):nD false n (c :: cs)=some c:=Vn rfl rfl
theorem Rx (st:St):kC st []=some []:=Vn rfl rfl
theorem Rz (st:St)(x:fJ)(r:List jH):kC st (.aA x :: r)=(kC st r).map (st.aA x :: ·):=Vn rfl rfl
theorem Qk (x:AV):o9 [x]=x:=Vn rfl rfl
theorem Qj:o9 []=.aI []:=Vn rfl rfl
theorem Ql (x y:AV)(l:List AV):o9 (x :: y :: l)=.aI (x :: y :: l):=Vn rfl rfl
theorem LC (k:IntKind)(n:Int):(AV.aA k n).aK=some [.aA k n]:=Vn rfl rfl
theorem LB (b:Bool):(AV.aD b).aK=some [.aD b]:=Vn rfl rfl
theorem LI (s:ByteArray):(AV.aP s).aK=some [.aP s]:=Vn rfl rfl
theorem LF:AV.aB.aK=some [.aB]:=Vn rfl rfl
theorem Ly (cs:List AV):(AV.aE cs).aK=some cs:=Vn rfl rfl
theorem LH (n sz off len:Nat)(cap:Option Nat):(AV.aF n sz off len cap).aK=some [.aF n sz off len cap]:=Vn rfl rfl
theorem LJ (t:Nat)(c:Bool)(sz:Nat)(es:List (List AV)):(AV.aL t c sz es).aK=some [.aL t c sz es]:=Vn rfl rfl
theorem LG (n sz i o:Nat):(AV.aC n sz i o).aK=some [.aC n sz i o]:=Vn rfl rfl
theorem gH {a:AV}(h:a.aG=true):a.aK=some [a]:=by cases a<;>first | rfl | simp_all[AV.aK,AV.aG]
theorem IB (k:IntKind)(n:Int):(AV.aA k n).aG=true:=Vn rfl rfl
theorem IA (b:Bool):(AV.aD b).aG=true:=Vn rfl rfl
theorem Te (s:ByteArray):(AV.aP s).aG=true:=Vn rfl rfl
theorem Tb:AV.aB.aG=true:=Vn rfl rfl
theorem Td (n sz off len:Nat)(cap:Option Nat):(AV.aF n sz off len cap).aG=true:=Vn rfl rfl
theorem Tf (t:Nat)(c:Bool)(sz:Nat)(es:List (List AV)):(AV.aL t c sz es).aG=true:=Vn rfl rfl
theorem Tc (n sz i o:Nat):(AV.aC n sz i o).aG=true:=Vn rfl rfl
theorem Kt (cs:List AV):nR cs []=some cs:=Vn rfl rfl
theorem Kr (cs:List AV)(o n:Nat)(x:AV)(r:List (Nat×Nat×AV)):
  nR cs ((o,n,x) :: r)=x.aK.bind λl=>if l.length=n/\o+n<=cs.length then nR (jT cs o l) r else none:=by
 simp only[nR];generalize x.aK=q;cases q<;>rfl
theorem Tk (cs:List AV)(o:Nat):jT cs o []=cs:=Vn rfl rfl
theorem Tj (cs:List AV)(o:Nat)(c:AV)(r:List AV):jT cs o (c :: r)=jT (cs.set o c) (o+1) r:=Vn rfl rfl
theorem RG (g:fJ->AV)(h:eZ)(z:List AV)(ps:List (Nat×Nat×fJ)):gB g h (.aM z ps)=(nR z (ps.map λp=>(p.1,p.2.1,g p.2.2))).map .aE:=Vn rfl rfl
theorem Lu (sz:Nat):lS sz []=some []:=Vn rfl rfl
theorem Lt (sz:Nat)(x:AV)(r:List AV):
  lS sz (x :: r)=x.aK.bind λcs=>(lS sz r).bind λes=>if cs.length=sz/\cs.all AV.aG=true then some (cs :: es) else none:=by
 simp only[lS];cases x.aK<;>cases lS sz r<;>rfl
theorem PF (g:fJ->AV)(nm:Nat)(cs:List AV):iW g nm (.mk cs)=some (.aC nm cs.length 0 0,.aA cs.length [cs] false):=Vn rfl rfl
theorem PD (g:fJ->AV)(nm:Nat)(x:fJ):
  iW g nm (.aA x)=(g x).aK.bind λcs=>if cs.all AV.aG=true then some (.aC nm cs.length 0 0,.aA cs.length [cs] false) else none:=by
 simp only[iW];cases (g x).aK<;>rfl
theorem PE (g:fJ->AV)(nm sz:Nat)(xs:List fJ):
  iW g nm (.aB sz xs)=(lS sz (xs.map g)).map λes=>(.aF nm sz 0 xs.length (some xs.length),.aA sz es false):=by
 simp only[iW];cases lS sz (xs.map g)<;>rfl
theorem OJ (g:fJ->AV)(h:eZ)(cs:List AV):jE g h (.mk cs)=some (.aC h.length cs.length 0 0,h++[some (.aA cs.length [cs] false)]):=Vn rfl rfl
theorem OG (g:fJ->AV)(h:eZ)(x:fJ):
  jE g h (.aA x)=(g x).aK.bind λcs=>if cs.all AV.aG=true then some (.aC h.length cs.length 0 0,h++[some (.aA cs.length [cs] false)]) else none:=by
 simp only[jE,iW];generalize (g x).aK=q;cases q with
 | none=>rfl
 | some cs=>simp only[Wp];by_cases e:cs.all AV.aG=true<;>simp[e]
theorem OH (g:fJ->AV)(h:eZ)(sz:Nat)(xs:List fJ):
  jE g h (.aB sz xs)=(lS sz (xs.map g)).map λes=>(.aF h.length sz 0 xs.length (some xs.length),h++[some (.aA sz es false)]):=by
 simp only[jE,iW];generalize lS sz (xs.map g)=q;cases q<;>rfl
theorem OK (g:fJ->AV)(h:eZ)(n:Nat)(a x:fJ):jE g h (.aG n a x)=(nS h n (g a) (g x)).map λh'=>(.aR,h'):=Vn rfl rfl
theorem OE (g:fJ->AV)(h:eZ)(sz bytes:Nat)(x y:fJ):jE g h (.aD sz bytes x y)=mF h sz bytes (g x) (g y):=Vn rfl rfl
theorem ic {h:eZ}{sz:Nat}{y:AV}{ys:List (List AV)}(hy:iV h sz y=some ys)(bytes:Nat)(x:AV):mF h sz bytes x y=iL h sz bytes x ys:=by simp only[mF,hy]
theorem jn (h:eZ)(sz:Nat)(es:List (List AV))(g:Bool)(cap:Option Nat){len:Nat}(hl:len=es.length):iV (h++[some (.aA sz es g)]) sz (.aF h.length sz 0 len cap)=some es:=by subst hl;simp[iV]
theorem Ti:∀(r a:List AV)(cs:List AV),cs.length=r.length->jT (a++cs) a.length r=a++r:=by
 intro r;induction r with
 | nil=>intro a cs h;simp at h;subst h;rfl
 | cons c r ih=>
  intro a cs h;cases cs with
  | nil=>simp at h
  | cons d cs=>
   simp only[jT];have:(a++d :: cs).set a.length c=(a++[c])++cs:=by simp
   rw[this];have:=ih (a++[c]) cs (by simpa using h);simpa using this
theorem oP {h:eZ}{n sz j:Nat}{row:List (List AV)}{g:Bool}{cs cs':List AV}{x:AV} (h7:h[n]?=some (some (.aA sz row g))) (h8:row[j]?=some cs)
  (hc:x.aK=some cs') (hl:cs.length=cs'.length) (b:cs'.length=sz) (hs:cs'.all AV.aG=true):
  nS h sz (.aC n sz j 0) x=some (h.set n (some (.aA sz (row.set j cs') g))):=by
 have hj:=(U_.1 h8).1;simp only[nS,h7,hc];rw[Vf ⟨Vp,b,by omega,hj,hs⟩];have:row.modify j (λx=>jT x 0 cs')=row.set j cs':=by
  apply VT;intro i;rw[W6,WD];by_cases e:j=i
  ·subst e
   have:=Ti cs' [] cs hl;simp only[Xd,VN]at this;obtain⟨_,rfl⟩:=U_.1 h8;simp[hj,this]
  ·simp[e]
 rw[this]
def tn (k:IntKind)(a b:Int):Int:=k.wrap (BitVec.ofInt k.bits a ^^^ BitVec.ofInt k.bits b).toNat
theorem Lb (k:IntKind)(a b:Int):iQ .xor (.aA k a) (.aA k b)=some (.aA k (tn k a b)):=by simp[iQ,oY,tn]
def xF (b:Option (Option fh))(sz i:Nat):Option (List AV):=
 match b with
 | some (some (.aA sz' es _))=>if sz=sz' then es[i]? else none
 | _=>none
theorem Iv (sz i:Nat)(es:List (List AV))(g:Bool):xF (some (some (.aA sz es g))) sz i=es[i]?:=by simp[xF]
theorem EP (h:eZ)(agg:Bool)(n m sz i o:Nat):gX h agg n (.aC m sz i o)=(xF h[m]? sz i).bind λe=>nD agg n (e.drop o):=by
 simp only[gX,xF];split
 ·rename_i b es g hm
  simp only[hm];split<;>rfl
 ·rename_i hm
  split
  ·rename_i b es g t;exact absurd t (hm _ _ _)
  ·rfl
theorem Kp (o m sz i o':Nat):pC o (.aC m sz i o')=some (.aC m sz i (o'+o)):=Vn rfl rfl
theorem Kk (m sz i o:Nat):EG (.aC m sz i o)=some (.aC m sz i o):=Vn rfl rfl
def Dq (h:eZ)(m n sz i o:Nat)(cs:List AV)(b:Option (Option fh)):Option eZ:=
 match b with
 | some (some (.aA sz' es g))=>if sz=sz'/\cs.length=n/\o+n<=sz/\i<es.length/\cs.all AV.aG=true then some (h.set m (some (.aA sz (es.modify i (jT · o cs)) g))) else none
 | _=>none
theorem KT (h:eZ)(n m sz i o:Nat)(x:AV):nS h n (.aC m sz i o) x=x.aK.bind λcs=>Dq h m n sz i o cs h[m]?:=by
 simp only[nS];generalize hb:h[m]?=b;generalize hc:x.aK=c;cases c with
 | none=>cases b with
  | none=>rfl
  | some b=>cases b with
   | none=>rfl
   | some b=>cases b<;>rfl
 | some cs=>cases b with
  | none=>rfl
  | some b=>cases b with
   | none=>rfl
   | some b=>cases b<;>rfl
theorem TB (h:eZ)(m n sz i o:Nat)(cs:List AV)(es:List (List AV))(g:Bool):
  Dq h m n sz i o cs (some (some (.aA sz es g)))=if cs.length=n/\o+n<=sz/\i<es.length/\cs.all AV.aG=true then some (h.set m (some (.aA sz (es.modify i (jT · o cs)) g))) else none:=by
 simp[Dq]
theorem PV (e:List AV)(f:List AV->List AV):[e].modify 0 f=[f e]:=Vn rfl rfl
theorem gh (h:eZ)(x:Option fh):(h++[x])[h.length]?=some x:=by rw[show h++[x]=h++[x] by simp,show h.length=h.length+0 from rfl,VQ (W0 _ _),WG];rfl
theorem TF (h:eZ)(x x':Option fh):(h++[x]).set (h.length) x'=h++[x']:=by rw[show h++[x]=h++[x] by simp,show h.length=h.length+0 from rfl,WC _ _ (W0 _ _),WG];simp
theorem iE (h:eZ)(x y:Option fh):(h++[x]++[y])[h.length]?=some x:=by rw[show h++[x]++[y]=h++[x,y] by simp,show h.length=h.length+0 from rfl,VQ (W0 _ _),WG];rfl
theorem iq (h:eZ)(x y:Option fh):(h++[x]++[y])[h.length+1]?=some y:=by rw[show h++[x]++[y]=h++[x,y] by simp,show h.length+1=h.length+1 from rfl,VQ (W0 _ _),WG];rfl
theorem oS (h:eZ)(x y z:Option fh):(h++[x]++[y]++[z])[h.length]?=some x:=by rw[show h++[x]++[y]++[z]=h++[x,y,z] by simp,show h.length=h.length+0 from rfl,VQ (W0 _ _),WG];rfl
theorem pG (h:eZ)(x y z:Option fh):(h++[x]++[y]++[z])[h.length+1]?=some y:=by rw[show h++[x]++[y]++[z]=h++[x,y,z] by simp,show h.length+1=h.length+1 from rfl,VQ (W0 _ _),WG];rfl
theorem rT (h:eZ)(x y z:Option fh):(h++[x]++[y]++[z])[h.length+1+1]?=some z:=by rw[show h++[x]++[y]++[z]=h++[x,y,z] by simp,show h.length+1+1=h.length+2 from rfl,VQ (W0 _ _),WG];rfl
theorem wM (h:eZ)(x:Option fh):(h++[x])[h.length]?=some x:=by simp
theorem kU (h:eZ)(x:Option fh):(h++[x]).length=h.length+1:=by simp
theorem Rw (st:St)(x:fJ)(agg:Bool)(n:Nat)(r:List jH):kC st (.aB x agg n :: r)=(gX st.h agg n (st.aA x)).bind λv=>(kC st r).map (v :: ·):=by simp only[kC];cases gX st.h agg n (st.aA x)<;>cases kC st r<;>rfl
theorem eY.b1 {h:eZ}(x:Option fh):eY fj h (h++[x]):=eY.aE _ _ _
theorem eY.b2 {h:eZ}(x y:Option fh):eY fj h (h++[x]++[y]):=(eY.aE fj h [x]).tr (eY.aE _ _ _)
theorem eY.b3 {h:eZ}(x y z:Option fh):eY fj h (h++[x]++[y]++[z]):=(eY.b2 x y).tr (eY.aE _ _ _)
theorem eY.b4 {h:eZ}(x y z u:Option fh):eY fj h (h++[x]++[y]++[z]++[u]):=(eY.b3 x y z).tr (eY.aE _ _ _)
theorem eY.aN {h h':eZ}(e:eY fj h h')(x:Option fh):eY fj h (h'++[x]):=e.tr (eY.aE _ _ _)
theorem Rd.aA {F h}:∀{d:D}{a:AV},Rd F h d a->a.aG=true:=by
 intro d a hh;cases d with
 | aA k n=>simp only[Rd]at hh;subst hh;rfl
 | aD b=>simp only[Rd]at hh;subst hh;rfl
 | aE s=>simp only[Rd]at hh;subst hh;rfl
 | sl sz ds=>simp only[Rd]at hh;obtain⟨es,(⟨rfl,_⟩ | ⟨t,c,rfl⟩ | ⟨n,off,len,cap,row,g,rfl,_⟩),_⟩:=hh<;>rfl
theorem Rs (x:Option fh):List.replicate 1 x=[x]:=Vn rfl rfl
theorem Rt (h:eZ)(x:Option fh):h++List.replicate 2 x=h++[x]++[x]:=by simp[List.replicate]
theorem Ru (h:eZ)(x:Option fh):h++List.replicate 3 x=h++[x]++[x]++[x]:=by simp[List.replicate]
theorem Rv (h:eZ)(x:Option fh):h++List.replicate 4 x=h++[x]++[x]++[x]++[x]:=by simp[List.replicate]
theorem PI (dep:Nat->Nat->Bool)(i j n:Nat)(b:fh):kM dep i [(j,n,b)]=if dep i j=true then [] else [(j,n,b)]:=by simp only[kM,List.filter_cons,List.filter_nil];cases dep i j<;>rfl
theorem iN (dep:Nat->Nat->Bool)(i j n:Nat)(b:fh)(r:List (Nat×Nat×fh)):kM dep i ((j,n,b) :: r)=if dep i j=true then kM dep i r else (j,n,b) :: kM dep i r:=by simp only[kM,List.filter_cons];cases dep i j<;>rfl
theorem PM (masks:List Nat)(i j:Nat):CL masks i j=decide (masks.getD i 0 / 2^j % 2=1):=by simp only[CL,Nat.testBit_eq_decide_div_mod_eq]
theorem NK (dep:Nat->Nat->Bool)(lo i:Nat)(l:List (Nat×Nat×fh))(h:eZ):
  lT dep lo 1 i l h=((l.any λx=>dep i x.1 && x.2.1 == lo) || kK h[lo]?):=by simp[lT]
theorem Cx (dep:Nat->Nat->Bool)(lo i:Nat)(l:List (Nat×Nat×fh))(h:eZ):
  lT dep lo 2 i l h=(((l.any λx=>dep i x.1 && x.2.1 == lo) || kK h[lo]?) && ((l.any λx=>dep i x.1 && x.2.1 == lo+1) || kK h[lo+1]?)):=by
 simp[lT,List.range_succ]
theorem NM (dep:Nat->Nat->Bool)(lo i:Nat)(l:List (Nat×Nat×fh))(h:eZ):lT dep lo 0 i l h=true:=by simp[lT]
theorem OU:kK (some none)=true:=Vn rfl rfl
theorem mv {h h':eZ}{p:AV}{cs:List AV}(hp:im h p=some cs)(e:eY fj h h'):im h' p=some cs:=by
 cases p with
 | aC m sz i o=>exact QG (F:=λ_=>True) (e.aF _) Vp hp
 | aN t cs'=>exact hp
 | _=>simp[im]at hp
theorem CQ {h:eZ}{p:AV}{cs:List AV}(hp:im h p=some cs)(k o:Nat):gN h.length k (lW o p)=true:=by
 cases p with
 | aC m sz i o'=>
  simp only[im]at hp;split at hp
  ·rename_i hm
   have:=(U_.1 hm).1;simp[lW,gN,this]
  ·cases hp
 | aN t cs'=>rfl
 | _=>simp[im]at hp
theorem Qa {h:eZ}{p:AV}{cs:List AV}(hp:im h p=some cs)(k:Nat):gN h.length k p=true:=by have:=CQ hp k 0;cases p<;>simp_all[lW,gN]
theorem pB {h:eZ}{m sz:Nat}{es:List (List AV)}{g:Bool} (hb:h[m]?=some (some (.aA sz es g))) (cap:Option Nat) {len:Nat} (hl:len=es.length):iV h sz (.aF m sz 0 len cap)=some es:=by subst hl;simp[iV,hb]
theorem eY.aI {F:Nat->Prop}{h h1 h2:eZ}(e:eY fj h h1)(e':eY F h1 h2)(hF:∀m,m<h.length->¬F m):eY fj h h2:=e.aB e' (λ_ _ x=>x) (λm hm b=>hF m hm b)
theorem Qw {F F':Nat->Prop}{h h':eZ}{k:IntKind}:∀{l:List Int} {ys:List (List AV)},gC F h (l.map λn=>[.aA k n]) ys->fP (l.map λn=>[.aA k n]) F' h' ys:=by
 intro l;induction l with
 | nil=>intro ys hh;exact hh
 | cons n l ih=>intro ys hh;simp only[VS,gC,fu,Rd]at hh;obtain⟨_,r,rfl,⟨_,_,rfl,rfl,rfl⟩,h2⟩:=hh;simp only[VS,fP,fW,e_];exact⟨_,_,rfl,⟨_,_,rfl,rfl,rfl⟩,ih h2⟩
theorem eY.aD {h h2:eZ}{n:Nat}(e:eY fj h h2)(hn:h.length<=n)(x:Option fh):eY fj h (h2.set n x):=
 e.aB (eY.aG (F:=λm=>h.length<=m) x (λ_=>hn)) (λ_ _ x=>x) (λm hm hm'=>by omega)
theorem Rd.up {F h h' d a}(hh:Rd F h d a)(e:eY fj h h'):Rd F h' d a:=Rd.aC (λ_ x=>x) (e.aF F) _ _ hh
theorem fu.up {F h h' d a}(hh:fu F h d a)(e:eY fj h h'):fu F h' d a:=fu.aA (λ_ x=>x) (e.aF F) _ _ hh
theorem e_.up {F h h'}{d:D}{a}(hh:e_ d F h a)(e:eY fj h h'):e_ d F h' a:=e_.aB d (λ_ x=>x) (e.aF F) _ hh
theorem e_.aA {F h}{d:D}{a:AV}(hh:e_ d F h a):a.aG=true:=(e_.rd d (F':=F) (λ_ x=>x) a hh).aA
def uy (a b:Nat):Prop:=a<b
theorem ON (n m:Nat):uy n (m+1)=(n=m\/uy n m):=by unfold uy;exact propext ⟨λ_=>by omega,λ_=>by omega⟩
theorem NV {H j:eZ}{n:Nat}(e:uy n H.length):(H++j)[n]?=H[n]?:=VK e
theorem NT {H:eZ}{x:Option fh}{n:Nat}(e:n=H.length):(H++[x])[n]?=some x:=by subst e;simp
theorem Tm {H j:eZ}{y:Option fh}{n:Nat}(e:uy n H.length):(H++j).set n y=H.set n y++j:=List.set_append_left _ _ e
theorem Tl {H:eZ}{x y:Option fh}{n:Nat}(e:n=H.length):(H++[x]).set n y=H++[y]:=by subst e;simp
attribute [go_sem] List.replicate_zero Wo VS Wg Wi Xd UJ UH UF UG UI UC UD UE Pn Pm Po OY OX OZ Pk Pb O_ O9 Pa UA UB Uz Uw Ux Uy Qe Qc Pg Pf Ph Pd Pc Pe NU NW NS PG ga fi U2 UZ U1 U0 U3 QN QM QO UR UQ UP K4 KZ O6 Np No Un Ul Ur TX T_ TW TV Uo Up Um Ub Us Uq Uf Uc Ug Ut Uj Ua Uu Ui Uh Ue TY TZ Ud Qd O8 O7 O5 HA Ms Mt Mr TT Ky Kx UX UT UW UU UY RR Ip KR Qo Qp Qn RQ RF RO RV RN RW KJ RU KG RK Ko RE Ki Kj RI RJ wE RT KE Km TE PZ LS LR LQ LP LO LU te Rx Rz Qk Qj Ql LC LB LI LF Ly LH LJ LG IB IA Te Tb Td Tf Tc Kt Kr Tk Tj RG Lu Lt PF PD PE OJ OG OH OK OE Lb Iv EP Kp Kk KT TB PV gh iE iq oS pG rT kU Rw WD Nat.left_eq_add Nat.zero_lt_one Nat.lt_add_one Nat.add_eq_left Nat.add_left_cancel_iff Nat.add_right_cancel_iff Rs Rt Ru Rv PI PM NK Cx OU PH OM Ts O4 WU List.getD_cons_zero List.getD_cons_succ List.any_nil List.any_cons Bool.false_or Bool.or_false Xf Xp W9 beq_self_eq_true true_or or_true NM TG List.drop_succ_cons Wf List.take_succ_cons List.take_zero VD VN List.set_cons_zero List.set_cons_succ VB VZ Wp and_true true_and and_self V3 List.all_cons List.all_nil Xp Bool.and_self VC VO Vq Vt List.cons_append ON NV NT Tm Tl np mK List.contains_cons List.contains_nil Nat.reduceBEq W5
inductive Ty where
 | aA (k:IntKind)
 | aB
 | aC
 | sl (sz:Nat) (ts:List Ty)
mutual
def gn:Ty->(Nat->Prop)->eZ->AV->Prop
 | .aA k,_,_,av=>∃n,av=.aA k n
 | .aB,_,_,av=>∃b,av=.aD b
 | .aC,_,_,av=>∃s,av=.aP s
 | .sl sz ts,F,h,av=>av=.aB\/(∃t c,av=.aL t c sz [])\/∃n off len cap row g,av=.aF n sz off len cap/\F n/\h[n]?=some (some (.aA sz row g))/\off+len<=row.length/\len<=2^40 /\
   ∀(i:Nat)(cs:List AV),i<len->row[off+i]?=some cs->gW ts (λm=>F m/\m≠n) h cs
def gW:List Ty->(Nat->Prop)->eZ->List AV->Prop
 | [],_,_,l=>l=[]
 | t :: ts,F,h,l=>∃a r,l=a :: r/\gn t F h a/\gW ts F h r
end
theorem JN (k:IntKind)(F:Nat->Prop)(h:eZ)(av:AV):gn (.aA k) F h av=∃n,av=.aA k n:=by simp only[gn]
mutual
def lu:D->Ty->Prop
 | .aA k _,t=>t=.aA k
 | .aD _,t=>t=.aB
 | .aE _,t=>t=.aC
 | .sl sz ds,t=>∃ts,t=.sl sz ts/\ds.length<=2^40/\tG ds ts
def mV:List D->List Ty->Prop
 | [],ts=>ts=[]
 | d :: ds,l=>∃t ts,l=t :: ts/\lu d t/\mV ds ts
def tG:List (List D)->List Ty->Prop
 | [],_=>True
 | e :: ds,ts=>mV e ts/\tG ds ts
end
theorem rI:∀{ds:List (List D)} {ts:List Ty},(∀d∈ds,mV d ts)->tG ds ts:=by
 intro ds;induction ds with
 | nil=>intro ts _;trivial
 | cons e ds ih=>intro ts h;exact⟨h e (by simp),ih λd hd=>h d (by simp[hd])⟩
mutual
theorem e_.ty:∀(d:D)(t:Ty){F:Nat->Prop}{h:eZ}(av:AV),lu d t->e_ d F h av->gn t F h av
 | .aA k n,t,_,_,_,ht,hh=>by simp only[lu]at ht;subst ht;simp only[e_]at hh;exact⟨n,hh⟩
 | .aD b,t,_,_,_,ht,hh=>by simp only[lu]at ht;subst ht;simp only[e_]at hh;exact⟨b,hh⟩
 | .aE s,t,_,_,_,ht,hh=>by simp only[lu]at ht;subst ht;simp only[e_]at hh;exact⟨s,hh⟩
 | .sl sz ds,t,F,h,av,ht,hh=>by
  simp only[lu]at ht;obtain⟨ts,rfl,u,ht⟩:=ht;simp only[e_]at hh;simp only[gn];rcases hh with⟨rfl,_⟩ | ⟨t,c,rfl,_⟩ | ⟨n,off,cap,row,g,h1,h2,h3,h4,hc,h5⟩
  ·exact .inl rfl
  ·exact .inr (.inl ⟨t,c,rfl⟩)
  ·refine .inr (.inr ⟨n,off,ds.length,cap,row,g,h1,h2,h3,h4,u,λi cs hi C=>?_⟩)
   have:=fP.ty ds ts _ ht h5;refine this i cs ?_;rw[VV hi,Vz];exact C
theorem fW.ty:∀(ds:List D)(ts:List Ty){F:Nat->Prop}{h:eZ}(l:List AV),mV ds ts->fW ds F h l->gW ts F h l
 | [],_,_,_,_,ht,hh=>by simp only[mV]at ht;subst ht;exact hh
 | d :: ds,_,_,_,_,ht,hh=>by simp only[mV]at ht;obtain⟨t,ts,rfl,h1,h2⟩:=ht;simp only[fW]at hh;obtain⟨a,r,rfl,h3,h4⟩:=hh;simp only[gW];exact⟨a,r,rfl,e_.ty d t a h1 h3,fW.ty ds ts r h2 h4⟩
theorem fP.ty:∀(ds:List (List D)) (ts:List Ty) {F:Nat->Prop} {h:eZ} (l:List (List AV)),tG ds ts->fP ds F h l->∀(i:Nat)(cs:List AV),l[i]?=some cs->gW ts F h cs
 | [],_,_,_,_,_,hh=>by simp only[fP]at hh;subst hh;intro i cs h;simp at h
 | d :: ds,ts,_,_,_,ht,hh=>by
  simp only[tG]at ht;simp only[fP]at hh;obtain⟨a,r,rfl,h3,h4⟩:=hh;intro i cs hi;cases i with
  | zero=>simp at hi;subst hi;exact fW.ty d ts a ht.1 h3
  | succ i=>exact fP.ty ds ts r ht.2 h4 i cs (by simpa using hi)
end
mutual
theorem gn.aF:∀(t:Ty){F F':Nat->Prop}{h h':eZ}(_:∀m,F m->F' m)(_:gz F h h')(av:AV),gn t F h av->gn t F' h' av
 | .aA _,_,_,_,_,_,_,_,hh=>hh
 | .aB,_,_,_,_,_,_,_,hh=>hh
 | .aC,_,_,_,_,_,_,_,hh=>hh
 | .sl sz ts,F,F',h,h',hF,hk,av,hh=>by
  simp only[gn]at hh ⊢;rcases hh with hh | hh | ⟨n,off,len,cap,row,g,h1,h2,h3,h4,h6,h5⟩
  ·exact .inl hh
  ·exact .inr (.inl hh)
  ·exact .inr (.inr ⟨n,off,len,cap,row,g,h1,hF n h2,hk n h2 _ h3,h4,h6,λi cs hi b=>gW.aB ts (λm hm=>⟨hF m hm.1,hm.2⟩) (λm hm=>hk m hm.1) cs (h5 i cs hi b)⟩)
theorem gW.aB:∀(ts:List Ty){F F':Nat->Prop}{h h':eZ}(_:∀m,F m->F' m)(_:gz F h h')(l:List AV),gW ts F h l->gW ts F' h' l
 | [],_,_,_,_,_,_,_,hh=>hh
 | t :: ts,_,_,_,_,hF,hk,_,hh=>by simp only[gW]at hh ⊢;obtain⟨a,r,h1,h2,h3⟩:=hh;exact⟨a,r,h1,gn.aF t hF hk a h2,gW.aB ts hF hk r h3⟩
end
def mT (a b:AV):Prop:=a=b\/(∃k x y,a=.aA k x/\b=.aA k y)\/(b=.aB/\∀t F h,gn t F h a->∃sz ts,t=.sl sz ts)\/∃x y,a=.aD x/\b=.aD y
def j9:List AV->List AV->Prop
 | [],l=>l=[]
 | a :: r,l=>∃b q,l=b :: q/\mT a b/\j9 r q
theorem j9.aA:∀l,j9 l l
 | []=>rfl
 | a :: r=>⟨a,r,rfl,.inl rfl,j9.aA r⟩
def ik (h h':eZ):Prop:=(∀t F av,gn t F h av->gn t F h' av)/\∀(n sz:Nat) (row:List (List AV)) (g:Bool),h[n]?=some (some (.aA sz row g))->∃row':List (List AV),h'[n]?=some (some (.aA sz row' g))/\row'.length=row.length
theorem ik.aB (h:eZ):ik h h:=⟨λ_ _ _ x=>x,λ_ _ row _ x=>⟨row,x,rfl⟩⟩
theorem ik.aA {h h1 h2:eZ}(a:ik h h1)(b:ik h1 h2):ik h h2:=
 ⟨λt F av x=>b.1 t F av (a.1 t F av x),λn sz row g hn=>let⟨r1,e1,l1⟩:=a.2 n sz row g hn;let⟨r2,e2,l2⟩:=b.2 n sz r1 g e1;⟨r2,e2,l2.trans l1⟩⟩
theorem ik.aD {h h':eZ}(x:eY fj h h'):ik h h':=⟨λt F av hh=>gn.aF t (λ_ x=>x) (x.aF F) av hh,λ_ _ row _ hn=>⟨row,x.aA hn,rfl⟩⟩
section
variable {h:eZ} {n sz i:Nat} {row:List (List AV)} {g:Bool} {cs cs':List AV}
mutual
theorem gn.aG (hrow:h[n]?=some (some (.aA sz row g))) (hcs:row[i]?=some cs) (hd:j9 cs cs'):∀(t:Ty)(F:Nat->Prop)(av:AV),gn t F h av->gn t F (h.set n (some (.aA sz (row.set i cs') g))) av
 | .aA _,_,_,hh=>hh
 | .aB,_,_,hh=>hh
 | .aC,_,_,hh=>hh
 | .sl sz' ts,F,av,hh=>by
  simp only[gn]at hh ⊢;rcases hh with hh | hh | ⟨m,off,len,cap,row',g',h1,h2,h3,h4,h6,h5⟩
  ·exact .inl hh
  ·exact .inr (.inl hh)
  ·have hlt:=(U_.1 hrow).1
   by_cases e:n=m
   ·subst e
    rw[hrow]at h3;obtain⟨e1,e2,e3⟩:sz=sz'/\row=row'/\g=g':=by simpa using h3
    subst e1 e2 e3;refine .inr (.inr ⟨n,off,len,cap,row.set i cs',g,h1,h2,by rw[Vd hlt],by simpa using h4,h6,λj c hj hc=>?_⟩);by_cases e:i=off+j
    ·have hil:=(U_.1 hcs).1
     rw[<-e,Vd hil]at hc;have hce:cs'=c:=by simpa using hc
     rw[<-hce];exact gW.aA hrow hcs hd ts _ cs cs' hd (h5 j cs hj (by rw[<-e];exact hcs))
    ·rw[Vb e]at hc
     exact gW.aA hrow hcs hd ts _ c c (j9.aA c) (h5 j c hj hc)
   ·exact .inr (.inr ⟨m,off,len,cap,row',g',h1,h2,by rw[Vb e];exact h3,h4,h6,λj c hj hc=>gW.aA hrow hcs hd ts _ c c (j9.aA c) (h5 j c hj hc)⟩)
theorem gW.aA (u:h[n]?=some (some (.aA sz row g))) (M:row[i]?=some cs) (hd:j9 cs cs'):∀(ts:List Ty)(F:Nat->Prop)(l l':List AV),j9 l l'->gW ts F h l->
  gW ts F (h.set n (some (.aA sz (row.set i cs') g))) l'
 | [],_,_,_,hl,hh=>by simp only[gW]at hh ⊢;subst hh;exact hl
 | t :: ts,F,_,_,hl,hh=>by
  simp only[gW]at hh ⊢;obtain⟨a,r,rfl,h2,h3⟩:=hh;simp only[j9]at hl;obtain⟨b,q,rfl,h4,h5⟩:=hl;refine⟨b,q,rfl,?_,gW.aA u M hd ts F r q h5 h3⟩;rcases h4 with rfl | ⟨k,x,y,rfl,rfl⟩ | ⟨rfl,h6⟩ | ⟨x,y,rfl,rfl⟩
  ·exact gn.aG u M hd t F a h2
  ·cases t with
   | aA k'=>simp only[gn]at h2 ⊢;obtain⟨z,hz⟩:=h2;cases hz;exact⟨y,rfl⟩
   | aB=>simp only[gn]at h2;obtain⟨z,hz⟩:=h2;cases hz
   | aC=>simp only[gn]at h2;obtain⟨z,hz⟩:=h2;cases hz
   | sl I E=>simp only[gn]at h2;rcases h2 with h2 | ⟨t,c,h2⟩ | ⟨m,off,len,cap,C,g',h1,_⟩<;>first | cases h2 | cases h1
  ·obtain⟨I,E,rfl⟩:=h6 t F h h2
   simp only[gn];exact .inl Vp
  ·cases t with
   | aA k'=>simp only[gn]at h2;obtain⟨z,hz⟩:=h2;cases hz
   | aB=>simp only[gn]at h2 ⊢;exact⟨y,rfl⟩
   | aC=>simp only[gn]at h2;obtain⟨z,hz⟩:=h2;cases hz
   | sl I E=>simp only[gn]at h2;rcases h2 with h2 | ⟨t,c,h2⟩ | ⟨m,off,len,cap,C,g',h1,_⟩<;>first | cases h2 | cases h1
end
theorem ik.aC (b:h[n]?=some (some (.aA sz row g))) (C:row[i]?=some cs) (hd:j9 cs cs'):ik h (h.set n (some (.aA sz (row.set i cs') g))):=by
 refine⟨gn.aG b C hd,λm u t g' hm=>?_⟩;by_cases e:n=m
 ·subst e
  rw[b]at hm;obtain⟨rfl,rfl,rfl⟩:sz=u/\row=t/\g=g':=by simpa using hm
  exact⟨row.set i cs',by rw[Vd (U_.1 b).1],by simp⟩
 ·exact⟨t,by rw[Vb e];exact hm,rfl⟩
end
theorem mT.aA {sz:Nat}{ts:List Ty}{F:Nat->Prop}{h:eZ}{a:AV}(hh:gn (.sl sz ts) F h a):mT a .aB:=by
 refine .inr (.inr (.inl ⟨rfl,λt G h' ht=>?_⟩));simp only[gn]at hh;cases t with
 | sl sz' ts'=>exact⟨_,_,rfl⟩
 | aA k=>simp only[gn]at ht;obtain⟨z,rfl⟩:=ht;rcases hh with h2 | ⟨t,c,h2⟩ | ⟨m,off,len,cap,b,g',h1,_⟩<;>first | cases h2 | cases h1
 | aB=>simp only[gn]at ht;obtain⟨z,rfl⟩:=ht;rcases hh with h2 | ⟨t,c,h2⟩ | ⟨m,off,len,cap,b,g',h1,_⟩<;>first | cases h2 | cases h1
 | aC=>simp only[gn]at ht;obtain⟨z,rfl⟩:=ht;rcases hh with h2 | ⟨t,c,h2⟩ | ⟨m,off,len,cap,b,g',h1,_⟩<;>first | cases h2 | cases h1
def jk:AV->Nat
 | .aF _ _ _ len _=>len
 | _=>0
theorem gn.aD {sz ts F h a}(hh:gn (.sl sz ts) F h a):g_ a=some (.aA .i64 (jk a)):=by simp only[gn]at hh;rcases hh with rfl | ⟨t,c,rfl⟩ | ⟨n,off,len,cap,row,g,rfl,_⟩<;>rfl
theorem gn.aC {sz ts F h a}(hh:gn (.sl sz ts) F h a){i:Nat}(hi:i<jk a):
  ∃n off row g cs,iH sz a (.aA .i64 i)=some (.aC n sz (off+i) 0)/\F n/\h[n]?=some (some (.aA sz row g))/\row[off+i]?=some cs/\gW ts (λm=>F m/\m≠n) h cs:=by
 simp only[gn]at hh;rcases hh with rfl | ⟨t,c,rfl⟩ | ⟨n,off,len,cap,row,g,rfl,h2,h3,h4,h6,h5⟩
 ·simp[jk]at hi
 ·simp[jk]at hi
 ·simp only[jk]at hi
  have:row[off+i]?=some (row[off+i]'(by omega)):=by rw[Vi]
  refine⟨n,off,row,g,_,?_,h2,h3,this,h5 i _ hi this⟩;simp only[iH];rw[Vf ⟨Vp,by omega,by omega⟩];simp
theorem gn.aE {sz ts F h a}(hh:gn (.sl sz ts) F h a):jk a<=2^40:=by
 simp only[gn]at hh;rcases hh with rfl | ⟨t,c,rfl⟩ | ⟨n,off,len,cap,row,g,rfl,_,_,_,h6,_⟩
 ·simp[jk]
 ·simp[jk]
 ·exact h6
def iU (P:Program)(f:FuncId)(t:Ty):Prop:=
 fI P f=true/\∀(F:Nat->Prop)(h:eZ)(av:AV),gn t F h av->fy P f [av] h λ_ h'=>eY F h h'/\ik h h'
mutual
def D.av:D->AV
 | .aA k n=>.aA k n
 | .aD b=>.aD b
 | .aE s=>.aP s
 | .sl sz es=>.aL 0 false sz (D.aC es)
def D.aB:List D->List AV
 | []=>[]
 | d :: r=>D.av d :: D.aB r
def D.aC:List (List D)->List (List AV)
 | []=>[]
 | e :: r=>D.aB e :: D.aC r
end
theorem qA:∀l:List D,D.aB l=l.map D.av
 | []=>rfl
 | d :: r=>by simp only[D.aB,VS,qA r]
theorem pE:∀l:List (List D),D.aC l=l.map D.aB
 | []=>rfl
 | d :: r=>by simp only[D.aC,VS,pE r]
theorem jX (d:D):d.av.aG=true:=by cases d<;>simp only[D.av]<;>rfl
mutual
theorem mz (F:Nat->Prop)(h:eZ):∀d:D,Rd F h d d.av
 | .aA k n=>by simp only[Rd,D.av]
 | .aD b=>by simp only[Rd,D.av]
 | .aE s=>by simp only[Rd,D.av]
 | .sl sz es=>by simp only[Rd,D.av];exact⟨_,.inr (.inl ⟨0,false,rfl⟩),HY F h es⟩
theorem my (F:Nat->Prop)(h:eZ):∀l:List D,fu F h l (D.aB l)
 | []=>by simp only[fu,D.aB]
 | d :: r=>by simp only[fu,D.aB];exact⟨_,_,rfl,mz F h d,my F h r⟩
theorem HY (F:Nat->Prop)(h:eZ):∀l:List (List D),gC F h l (D.aC l)
 | []=>by simp only[gC,D.aC]
 | d :: r=>by simp only[gC,D.aC];exact⟨_,_,rfl,my F h d,HY F h r⟩
end
def tg (P:Program)(g:TypeId->Option (List Ty)):List Field->Nat->Option (List Ty)
 | [],_=>some []
 | f :: r,o=>match g f.type with
  | some ts=>if f.offset=o/\P.cellsOf f.type=ts.length then (tg P g r (o+ts.length)).map (ts++·) else none
  | none=>none
def nE (P:Program):Nat->TypeId->Option (List Ty)
 | 0,_=>none
 | n+1,t=>
  match P.underlying t with
  | some .bool=>some [.aB]
  | some (.int k)=>some [.aA k]
  | some .string=>some [.aC]
  | some (.slice e)=>match nE P n e with
   | some (x :: ts)=>if P.cellsOf e=(x :: ts).length then some [.sl (P.cellsOf e) (x :: ts)] else none
   | _=>none
  | some (.struct fs)=>match tg P (nE P n) fs.toList 0 with
   | some ts=>if P.cellsOf t=ts.length then some ts else none
   | none=>none
  | _=>none
mutual
def jv:D->Ty->Prop
 | .aA k n,t=>t=.aA k/\(Lit.int k n).wf=true
 | .aD _,t=>t=.aB
 | .aE _,t=>t=.aC
 | .sl sz ds,t=>∃ts,t=.sl sz ts/\rB ds ts
def iw:List D->List Ty->Prop
 | [],ts=>ts=[]
 | d :: ds,l=>∃t ts,l=t :: ts/\jv d t/\iw ds ts
def rB:List (List D)->List Ty->Prop
 | [],_=>True
 | e :: ds,ts=>iw e ts/\rB ds ts
end
theorem D6:∀{ds:List D}{ts:List Ty},iw ds ts->ds.length=ts.length:=by
 intro ds;induction ds with
 | nil=>intro ts h;simp only[iw]at h;subst h;rfl
 | cons d ds ih=>intro ts h;simp only[iw]at h;obtain⟨t,ts',rfl,_,h⟩:=h;simp[ih h]
theorem Ju:∀{ds u:List D}{ts b:List Ty},iw ds ts->iw u b->iw (ds++u) (ts++b):=by
 intro ds;induction ds with
 | nil=>intro u ts b h h';simp only[iw]at h;subst h;exact h'
 | cons d ds ih=>intro u ts b h h';simp only[iw]at h;obtain⟨t,ts1,rfl,h1,h2⟩:=h;simp only[List.cons_append,iw];exact⟨t,_,rfl,h1,ih h2 h'⟩
theorem Jt:∀{ds:List (List D)} {ts:List Ty},(∀d∈ds,iw d ts)->rB ds ts:=by
 intro ds;induction ds with
 | nil=>intro ts _;trivial
 | cons e ds ih=>intro ts h;exact⟨h e (by simp),ih λd hd=>h d (by simp[hd])⟩
def Gh.aJ (w:World):Gh:={N:=0,aA:=λ_=>none,aD:=λ_=>False,aC:=λ_=>False,aE:=λ_ _=>False,S:=λb=>b<w.heap.size}
theorem fS.bE (w:World):fS (Gh.aJ w) w [] where
 aA:=rfl
 aC n:=⟨λh=>h.elim,λ⟨⟨_,_,_,h⟩,_⟩=>by simp at h⟩
 aD _ _ h:=h.elim
 inj _ _ _ h:=h.elim
 aE _ _ _ h:=h.elim
 aF _ _ h:=h.elim
 aL _ _ _ h:=h.elim
 aM _ _ h:=h.elim
 aG _ _ h:=h.elim
 aJ _ h:=h
 aB _ _ _ _ _ h:=by simp at h
 aI _ _ _ _ h:=by simp at h
 aK _ h:=h.elim
theorem Lq {w:World}{a:Addr}{v:Value}(h:w.cell? a=some v):a.block<w.heap.size:=by
 simp only[World.cell?]at h;split at h
 ·rename_i hh;exact (Wj.1 hh).1
 ·cases h
theorem Ls {w:World}{a:Addr}{v:Value}(h:w.cell? a=some v):a.spot=none:=by
 simp only[World.cell?]at h;split at h
 ·split at h
  ·cases h
  ·rename_i hs;simpa using hs
 ·cases h
section
variable {H:Type} {enc:TypeId×Value->H} {P:Program} {w:World} {held:Bool}
theorem xa {a:Addr}{n:Nat}{cs:List Value}(h:w.cells? 0 a n=some cs):cs.length=n/\∀j,j<n->w.cell? (a.add j)=cs[j]?:=by simp only[World.cells?,VP,V3]at h;have hl:=mapM_some_length h;refine⟨by simpa using hl,λj hj=>?_⟩;exact mapM_some_get h j j (by simp[hj])
theorem TP:∀(fuel n:Nat)(t:TypeId)(cs:List Value)(x:DataW H×List MemPlace)(ts:List Ty),DataW.trod enc P w 0 (λ_=>true) held fuel t cs=some x->nE P n t=some ts->
  ∃ds:List D,iw ds ts/\ds.length=cs.length/\∀(j:Nat)(d:D)(v:Value),ds[j]?=some d->cs[j]?=some v->V (Gh.aJ w) w d.av v:=by
 intro fuel;induction fuel with
 | zero=>intro n t cs x ts h _;simp[DataW.trod]at h
 | succ m ih=>
  intro n t cs x ts h ht;cases n with
  | zero=>simp[nE]at ht
  | succ n=>
   simp only[nE]at ht;split at ht
   ·rename_i hu
    cases ht;unfold DataW.trod at h;rw[hu]at h;split at h<;>simp_all;rename_i b;refine⟨[.aD b],by simp[iw,jv],rfl,λj d v hd hv=>?_⟩;cases j<;>simp at hd hv;subst hd hv;simp only[D.av];exact .aF b
   ·rename_i k hu
    cases ht;unfold DataW.trod at h;rw[hu]at h;split at h<;>simp_all;rename_i z heq;obtain⟨⟨hk,hw⟩,_⟩:=h;subst heq;subst hk;refine⟨[.aA _ z],by simp only[iw,jv];exact⟨_,_,rfl,⟨rfl,hw⟩,rfl⟩,rfl,λj d v hd hv=>?_⟩;cases j<;>simp at hd hv;subst hd hv;simp only[D.av];exact .aB _ _
   ·rename_i hu
    cases ht;unfold DataW.trod at h;rw[hu]at h;split at h<;>simp_all;rename_i s;refine⟨[.aE s],by simp[iw,jv],rfl,λj d v hd hv=>?_⟩;cases j<;>simp at hd hv;subst hd hv;simp only[D.av];exact .aQ s
   ·rename_i e hu
    split at ht
    ·rename_i x0 ts0 hte
     split at ht
     ·rename_i hsz
      cases ht;rcases DataW.trod_slice hu h with⟨rfl,_⟩ | ⟨a,len,cap,elems,rest,n',hfe,rfl,_,_,hlc,_,hel,hget,hrest,_⟩
      ·refine⟨[.sl (P.cellsOf e) []],by simp only[iw,jv];exact⟨_,_,rfl,⟨_,rfl,Vp⟩,rfl⟩,rfl,λj d v hd hv=>?_⟩
       cases j<;>simp at hd hv;subst hd hv;simp only[D.av,D.aC];exact .aE _ _ _
      ·have hn':n'=m:=by omega
       subst hn';generalize hq:P.cellsOf e=q at *;have hq0:0<q:=by rw[hsz];simp
       have one:∀i,i<len->∃ds:List D,iw ds (x0 :: ts0)/\∃cs':List Value,w.cells? 0 (a.add (i*q)) q=some cs'/\ds.length=cs'.length /\
         ∀(j:Nat)(d:D)(v:Value),ds[j]?=some d->cs'[j]?=some v->V (Gh.aJ w) w d.av v:=by
        intro i hi;have:=hget i hi;have he:elems[i]?=some (elems[i]'(by omega)):=by rw[Vi]
        rw[he]at this;obtain⟨cs',hcs,htr⟩:=Option.bind_eq_some_iff.1 this;obtain⟨ds,h1,h2,h3⟩:=ih n e cs' _ _ htr hte;exact⟨ds,h1,cs',hcs,h2,h3⟩
       let f:Nat->List D:=λi=>if hi:i<len then Classical.choose (one i hi) else []
       have hf:∀i (hi:i<len),iw (f i) (x0 :: ts0)/\∃cs':List Value,w.cells? 0 (a.add (i*q)) q=some cs'/\(f i).length=cs'.length /\
         ∀(j:Nat)(d:D)(v:Value),(f i)[j]?=some d->cs'[j]?=some v->V (Gh.aJ w) w d.av v:=by
        intro i hi;have:=Classical.choose_spec (one i hi);simp only[f,dif_pos hi];exact this
       have hspot:cap≠0->a.spot=none:=by
        intro hc;have some0:∃cs',w.cells? 0 (a.add (0*q)) q=some cs':=by
         rcases Nat.eq_zero_or_pos len with h0 | h0
         ·obtain⟨hr1,hr2⟩:=hrest rfl
          have:=hr2 0 (by omega);rw[h0,WT]at this;have he:rest[0]?=some (rest[0]'(by omega)):=by rw[Vi]
          rw[he]at this;obtain⟨cs',hcs,_⟩:=Option.bind_eq_some_iff.1 this;exact⟨cs',hcs⟩
         ·obtain⟨_,cs',hcs,_⟩:=hf 0 h0
          exact⟨cs',hcs⟩
        obtain⟨cs',hcs⟩:=some0;obtain⟨hl,hg⟩:=xa hcs;have:=hg 0 hq0;rw[Vi (by omega)]at this;have:=Ls this;simpa [Addr.add] using this
       have hgc:∀i j c,gi (D.aC ((List.range len).map f)) i j=some c->i<len/\∃d,(f i)[j]?=some d/\c=d.av:=by
        intro i j c hc;simp only[gi,pE,VE,List.map_map]at hc;rcases Wc i len with hi | hi
        ·rw[List.getElem?_range hi]at hc
         simp only[Wi,Wp,Function.comp,qA,VE,Vu]at hc;obtain⟨d,h1,h2⟩:=hc;exact⟨hi,d,h1,h2.symm⟩
        ·rw[VJ (by simpa using hi)]at hc;simp at hc
       have hcell:∀i j c,gi (D.aC ((List.range len).map f)) i j=some c->∃v,w.cell? ⟨a.block,a.off+(i*q+j),none⟩=some v/\V (Gh.aJ w) w c v:=by
        intro i j c hc;obtain⟨hi,d,hd,rfl⟩:=hgc i j c hc;obtain⟨_,cs',hcs,hl,hV⟩:=hf i hi;obtain⟨hl',hg⟩:=xa hcs;have hj:j<q:=by have:=(U_.1 hd).1;omega
        have hcj:cs'[j]?=some (cs'[j]'(by omega)):=by rw[Vi]
        have hv:=hg j hj;rw[hcj]at hv;have hs:=hspot (by omega);rw[tW (a:=a.add (i*q)) (by rw[tW hs]),tW hs]at hv;refine⟨_,?_,hV j d _ hd hcj⟩;rw[<-hv];simp[Ws]
       refine⟨[.sl q ((List.range len).map f)],?_,rfl,λj d v hd hv=>?_⟩
       ·simp only[iw,jv]
        refine⟨_,_,rfl,⟨_,rfl,Jt λd hd=>?_⟩,rfl⟩;obtain⟨i,hi,rfl⟩:=Wl.1 hd;exact (hf i (by simpa using hi)).1
       ·cases j<;>simp at hd hv
        subst hd hv;simp only[D.av];have hlen:(D.aC ((List.range len).map f)).length=len:=by simp[pE]
        have:=V.aD (G:=Gh.aJ w) (w:=w) 0 false q (D.aC ((List.range len).map f)) a cap
         (λi j=>(w.cell? ⟨a.block,a.off+(i*q+j),none⟩).getD undef) (by omega) (by simp) hspot ?_ ?_ ?_ ?_
        ·rw[hlen]at this;exact this
        ·intro hne
         have h0:0<len:=by
          rcases Nat.eq_zero_or_pos len with h0 | h0
          ·exact absurd (Vl (by omega)) hne
          ·exact h0
         obtain⟨_,cs',hcs,hl,hV⟩:=hf 0 h0;obtain⟨hl',hg⟩:=xa hcs;have:=hg 0 hq0;rw[Vi (by omega)]at this;have:=Lq this;simpa [Addr.add,Gh.aL,Gh.aJ] using this
        ·intro e' he'
         rw[pE]at he';simp only[List.map_map,Wl]at he';obtain⟨i,hi,rfl⟩:=he';have hi':i<len:=by simpa using hi
         obtain⟨h1,cs',hcs,hl,_⟩:=hf i hi';obtain⟨hl',_⟩:=xa hcs;simp only[Function.comp,qA];refine⟨by simp;omega,?_⟩;rw[Ww];intro z hz;obtain⟨d,_,rfl⟩:=Wl.1 hz;exact jX d
        ·intro i j c hc
         obtain⟨v,hv,_⟩:=hcell i j c hc;simp[hv]
        ·intro i j c hc
         obtain⟨v,hv,hV⟩:=hcell i j c hc;simp[hv,hV]
     ·cases ht
    ·cases ht
   ·rename_i fs hu
    obtain⟨hts1,hcl⟩:tg P (nE P n) fs.toList 0=some ts/\P.cellsOf t=ts.length:=by
     split at ht
     ·split at ht
      ·rename_i h1 h2;cases ht;exact⟨h1,h2⟩
      ·cases ht
     ·cases ht
    obtain⟨xs,n',hfe,_,hlen,hxl,hfd⟩:=DataW.trod_struct hu h;have hn':n'=m:=by omega
    subst hn'
    have key:∀(k:Nat)(r:List Field)(o:Nat)(ts:List Ty),fs.toList.drop k=r->tg P (nE P n) r o=some ts->o<=cs.length->
      ∃ds:List D,iw ds ts/\o+ds.length<=cs.length/\∀(j:Nat)(d:D)(v:Value),ds[j]?=some d->cs[o+j]?=some v->V (Gh.aJ w) w d.av v:=by
     intro k r;induction r generalizing k with
     | nil=>intro o ts _ hts ho;simp only[tg,Vk]at hts;subst hts;exact⟨[],by simp[iw],by simpa using ho,λj d v hd=>by simp at hd⟩
     | cons f r ihr=>
      intro o ts hk hts ho;simp only[tg]at hts;split at hts
      ·rename_i tf htf
       split at hts
       ·rename_i hoff
        obtain⟨h1,h2⟩:=hoff;simp only[Vu]at hts;obtain⟨tr,htr,rfl⟩:=hts;have hfk:fs[k]?=some f:=by
         have:(fs.toList.drop k)[0]?=some f:=by rw[hk];rfl
         simpa using this
        have hklt:k<fs.size:=(Wj.1 hfk).1;have:=hfd k f hfk;have hxk:xs[k]?=some (xs[k]'(by omega)):=by rw[Vi]
        rw[hxk]at this;obtain⟨d1,g1,g2,g3⟩:=ih n f.type _ _ _ this htf;have hd1:=D6 g1;simp only[Vw,VA,h1,h2]at g2;have ho':o+tf.length<=cs.length:=by omega
        have hk':fs.toList.drop (k+1)=r:=by rw[<-List.drop_drop,hk];rfl
        obtain⟨d2,q1,q2,q3⟩:=ihr (k+1) (o+tf.length) tr hk' htr ho';refine⟨d1++d2,Ju g1 q1,by simp;omega,λj d v hd hv=>?_⟩;rw[Wb]at hd;split at hd
        ·rename_i hj
         refine g3 j d v hd ?_;rw[VV (by rw[h2];omega),Vz,h1];exact hv
        ·rename_i hj
         refine q3 (j-d1.length) d v hd ?_;rw[show o+tf.length+(j-d1.length)=o+j by omega];exact hv
       ·cases hts
      ·cases hts
    obtain⟨ds,g1,g2,g3⟩:=key 0 fs.toList 0 ts rfl hts1 (VP _);exact⟨ds,g1,by rw[D6 g1,<-hcl,hlen],λj d v hd hv=>g3 j d v hd (by rw[WT];exact hv)⟩
   ·cases ht
def sG (P:Program)(t:TypeId):Bool:=
 match P.underlying t with
 | some (.struct _)=>true
 | _=>false
def td (P:Program)(n:Nat):List TypeId->Option (List (Bool×List Ty))
 | []=>some []
 | t :: r=>match nE P n t,td P n r with
  | some ts,some l=>some ((sG P t,ts) :: l)
  | _,_=>none
def EW (b:Bool)(ds:List D):AV:=if b then .aE (D.aB ds) else match ds with
 | [d]=>d.av
 | _=>.aR
def nK:List (List D)->List (Bool×List Ty)->Prop
 | [],l=>l=[]
 | d :: ds,l=>∃s r,l=s :: r/\iw d s.2/\nK ds r
def wI:List (List D)->List (Bool×List Ty)->List AV
 | d :: ds,s :: r=>EW s.1 d :: wI ds r
 | _,_=>[]
theorem Qh {r:Reach}{b0:Nat}{t:TypeId}{v:Value}(hs:sG P t=true)(hv:Value.okWide P w r b0 t v):∃cs,v=.agg cs:=by
 unfold sG at hs;unfold Value.okWide at hv;split at hs
 ·rename_i fs hu
  rw[hu]at hv;obtain⟨cs,rfl,_⟩:=hv;exact⟨cs,rfl⟩
 ·cases hs
theorem Qg {r:Reach}{b0:Nat}{t:TypeId}{v:Value}{n:Nat}{ts:List Ty}(ht:nE P n t=some ts)(hs:sG P t=false)(hv:Value.okWide P w r b0 t v):v.cells=#[v]:=by
 unfold sG at hs;cases n with
 | zero=>simp[nE]at ht
 | succ n=>
  simp only[nE]at ht;unfold Value.okWide Cell.okWide Cell.ok at hv;split at ht
  ·rename_i hu;rw[hu]at hv;simp only at hv;split at hv<;>simp_all[Value.cells]
  ·rename_i k hu;rw[hu]at hv;simp only at hv;split at hv<;>simp_all[Value.cells]
  ·rename_i hu;rw[hu]at hv;simp only at hv;split at hv<;>simp_all[Value.cells]
  ·rename_i e hu;rw[hu]at hv;simp only at hv;split at hv<;>simp_all[Value.cells]
  ·rename_i fs hu;rw[hu]at hs;cases hs
  ·cases ht
theorem KO {r:Reach}{b0 n:Nat}:∀(tts:List TypeId)(vs:List Value) (ds:List (DataW H)) (ps:List MemPlace) (sh:List (Bool×List Ty)),
  DataW.TrodAll enc P w 0 (λ_=>true) held tts vs ds ps->(∀(j:Nat)(t:TypeId)(v:Value),tts[j]?=some t->vs[j]?=some v->Value.okWide P w r b0 t v)->td P n tts=some sh->
  ∃dss,nK dss sh/\VL (Gh.aJ w) w (wI dss sh) vs.toArray:=by
 intro tts;induction tts with
 | nil=>
  intro vs ds ps sh h _ hs;simp only[td,Vk]at hs;subst hs;cases vs with
  | nil=>exact⟨[],rfl,VL.aF _ _⟩
  | cons v vs=>cases ds<;>simp[DataW.TrodAll]at h
 | cons t tts ih=>
  intro vs ds ps sh h hok hs;simp only[td]at hs;split at hs
  ·rename_i ts l ht hl
   cases hs;cases vs with
   | nil=>cases ds<;>simp[DataW.TrodAll]at h
   | cons v vs=>
    cases ds with
    | nil=>simp[DataW.TrodAll]at h
    | cons d ds=>
     obtain⟨p,q,⟨fuel,hd⟩,hrest,_⟩:=h;obtain⟨dss,h1,h2⟩:=ih vs ds q l hrest (λj t v a b=>hok (j+1) t v (by simpa using a) (by simpa using b)) hl;obtain⟨d1,g1,g2,g3⟩:=TP fuel n t _ _ ts hd ht;refine⟨d1 :: dss,⟨_,_,rfl,g1,h1⟩,?_⟩;refine VL.aE ?_ h2;simp only[EW];cases hst:sG P t with
     | true=>
      obtain⟨cs,rfl⟩:=Qh hst (hok 0 t v rfl rfl);simp only[V3];simp only[Value.cells,Array.length_toList]at g2 g3;refine .aJ _ _ (by rw[qA];simpa using g2) (λj c v hc hv=>?_);rw[qA,VE]at hc;cases hj:d1[j]? with
      | none=>rw[hj]at hc;cases hc
      | some x=>rw[hj]at hc;simp only[Wi,Vk]at hc;subst hc;exact g3 j x v hj (by simpa using hv)
     | false=>
      have hc1:=Qg ht hst (hok 0 t v rfl rfl);rw[hc1]at g2 g3;simp only[VD,VN]at g2;match d1,g2 with
      | [x],_=>simp only[VC,VO];exact g3 0 x v rfl rfl
  ·cases hs
theorem Px {f:FuncId}{sh:List (Bool×List Ty)}{r:Reach}{b0 n:Nat}{tts:List TypeId}{args:Array Value}{ds:List (DataW H)}{ps:List MemPlace}(hs:td P n tts=some sh)
  (hlaw:∀dss,nK dss sh->fy P f (wI dss sh) [] λr _=>r=.aD true) (h:DataW.TrodAll enc P w 0 (λ_=>true) held tts args.toList ds ps)
  (hok:∀(j:Nat)(t:TypeId)(v:Value),tts[j]?=some t->args[j]?=some v->Value.okWide P w r b0 t v):
  Calls P f args w λe w'=>e=.returned (.bool true)/\vN w w'/\∀b,b<w.heap.size->w'.heap[b]?=w.heap[b]?:=by
 obtain⟨dss,h1,h2⟩:=KO tts args.toList ds ps sh h (λj t v a b=>hok j t v a (by simpa using b)) hs;refine (hlaw dss h1 (Gh.aJ w) w args (fS.bE w) (by simpa using h2)).mono ?_;rintro e w' ⟨v,q,h'',G',rfl,rfl,_,hV,hst⟩;cases hV;have hno:∀b,¬(Gh.aJ w).aI b:=λb hb=>by rcases hb with⟨n,hn,_⟩ | ⟨n,hn⟩<;>exact hn.elim
 exact⟨rfl,hst.aL hno,λb hb=>hst.aD b hb (hno b)⟩
theorem TO (hl:laidOutB P=true){W W':World}{sp:Nat->Bool} (hsame:∀b,b<W.heap.size->W'.heap[b]?=W.heap[b]?):∀(tts:List TypeId)(vs:List Value) (ds:List (DataW H)) (ps:List MemPlace),
  (tts.all λt=>P.readableRec t && decide (t<P.types.size))=true->DataW.TrodAll enc P W 0 (λ_=>true) true tts vs ds ps->(∀p∈ps,p.block<W.heap.size)->(∀p∈ps,sp p.block=true)->
  DataW.TrodAll enc P W' 0 sp true tts vs ds ps:=by
 intro tts;induction tts with
 | nil=>intro vs ds ps _ h _ _;cases vs<;>cases ds<;>first | exact h | simp[DataW.TrodAll]at h
 | cons t tts ih=>
  intro vs ds ps hall h hlt hsp;simp only[List.all_cons,VF,V4]at hall;cases vs with
  | nil=>cases ds<;>simp[DataW.TrodAll]at h
  | cons v vs=>
   cases ds with
   | nil=>simp[DataW.TrodAll]at h
   | cons d ds=>
    obtain⟨p,q,h1,h2,rfl⟩:=h;refine⟨p,q,?_,ih vs ds q (by simpa using hall.2) h2 (λx hx=>hlt x (List.mem_append_right _ hx)) (λx hx=>hsp x (List.mem_append_right _ hx)),rfl⟩;refine WideElems.Trod_stays hl hall.1.1 hall.1.2 h1 (λx hx=>?_) (λx hx=>hsp x (List.mem_append_left _ hx));have:=hsame x.block (hlt x (List.mem_append_left _ hx));cases x with
    | cell b o=>exact World.cell?_of_block (w:=W) this
    | map b=>exact this
end
end Glb
