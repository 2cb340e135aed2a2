/-
  A library of its own.
-/
import Derived.Test.YtdeiamnhnfmilaaGreatGlbLibC
import Derived.ChangeArms
import Derived.WideKeyArgs
import Derived.Below
set_option linter.unusedSimpArgs false
set_option linter.unusedVariables false
namespace Glb
open Go
inductive D where
 | int (k:IntKind) (n:Int)
 | bool (b:Bool)
 | str (s:ByteArray)
 | sl (sz:Nat) (es:List (List D))
def u_k (cap:Option Nat)(len:Nat):Prop:=∀c,cap=some c->len<=c
def Els (F:Nat->Prop)(h:a0_)(sz:Nat)(av:AV)(es:List (List AV)):Prop:=
 (av=.nils/\es=[])\/(∃t c,av=.vals t c sz es) \/
  ∃n off len cap row g,av=.ref n sz off len cap/\F n/\h[n]?=some (some (.arr sz row g))/\off+len<=row.length/\u_k cap len/\es=(row.drop off).take len
mutual
def Rd (F:Nat->Prop)(h:a0_):D->AV->Prop
 | .int k n,av=>av=.int k n
 | .bool b,av=>av=.bool b
 | .str s,av=>av=.str s
 | .sl sz ds,av=>∃es,Els F h sz av es/\E4_ F h ds es
def RdL (F:Nat->Prop)(h:a0_):List D->List AV->Prop
 | [],l=>l=[]
 | d :: ds,l=>∃a r,l=a :: r/\Rd F h d a/\RdL F h ds r
def E4_ (F:Nat->Prop)(h:a0_):List (List D)->List (List AV)->Prop
 | [],l=>l=[]
 | e :: ds,l=>∃a r,l=a :: r/\RdL F h e a/\E4_ F h ds r
end
mutual
def Own:D->(Nat->Prop)->a0_->AV->Prop
 | .int k n,_,_,av=>av=.int k n
 | .bool b,_,_,av=>av=.bool b
 | .str s,_,_,av=>av=.str s
 | .sl sz ds,F,h,av=>(av=.nils/\ds=[])\/(∃t c,av=.vals t c sz []/\ds=[]) \/
   ∃n off cap row g,av=.ref n sz off ds.length cap/\F n/\h[n]?=some (some (.arr sz row g))/\off+ds.length<=row.length/\u_k cap ds.length /\
    a8_ ds (λm=>F m/\m≠n) h ((row.drop off).take ds.length)
def g2_:List D->(Nat->Prop)->a0_->List AV->Prop
 | [],_,_,l=>l=[]
 | d :: ds,F,h,l=>∃a r,l=a :: r/\Own d F h a/\g2_ ds F h r
def a8_:List (List D)->(Nat->Prop)->a0_->List (List AV)->Prop
 | [],_,_,l=>l=[]
 | e :: ds,F,h,l=>∃a r,l=a :: r/\g2_ e F h a/\a8_ ds F h r
end
theorem x9_ {F h}:∀{ds:List (List D)} {es:List (List AV)},E4_ F h ds es->es.length=ds.length:=by
 intro ds
 induction ds with
 | nil=>intro es h;simp only[E4_]at h;subst h;rfl
 | cons e ds ih=>intro es h;simp only[E4_]at h;obtain⟨a,r,rfl,_,h⟩:=h;simp[ih h]
theorem Q0_ {F h}:∀{ds:List D}{es:List AV},RdL F h ds es->es.length=ds.length:=by
 intro ds
 induction ds with
 | nil=>intro es h;simp only[RdL]at h;subst h;rfl
 | cons e ds ih=>intro es h;simp only[RdL]at h;obtain⟨a,r,rfl,_,h⟩:=h;simp[ih h]
theorem h_c {F h}:∀{ds:List (List D)} {es:List (List AV)},E4_ F h ds es->∀(i:Nat)(d:List D),ds[i]?=some d->∃e,es[i]?=some e/\RdL F h d e:=by
 intro ds
 induction ds with
 | nil=>intro es h i d hd;simp at hd
 | cons e ds ih=>
  intro es h i d hd
  simp only[E4_]at h
  obtain⟨a,r,rfl,h1,h2⟩:=h
  cases i with
  | zero=>simp at hd;subst hd;exact⟨a,rfl,h1⟩
  | succ i=>obtain⟨e',h3,h4⟩:=ih h2 i d (by simpa using hd);exact⟨e',by simpa using h3,h4⟩
theorem u_9 {F h}:∀{ds:List (List D)} {es:List (List AV)},es.length=ds.length->(∀(i:Nat)(d:List D)(e:List AV),ds[i]?=some d->es[i]?=some e->RdL F h d e)->E4_ F h ds es:=by
 intro ds
 induction ds with
 | nil=>intro es hl _;simp only[E4_];exact J_3 (by simpa using hl)
 | cons d ds ih=>
  intro es hl hh
  cases es with
  | nil=>simp at hl
  | cons e es=>
   simp only[E4_]
   exact⟨e,es,rfl,hh 0 d e rfl rfl,ih (by simpa using hl) λi d' e' h1 h2=>hh (i+1) d' e' (by simpa using h1) (by simpa using h2)⟩
theorem u_8 {F h}{ds:List (List D)}{es:List (List AV)}(hh:E4_ F h ds es)(k:Nat):E4_ F h (ds.take k) (es.take k):=by
 refine u_9 (by simp[x9_ hh]) λi d e h1 h2=>?_
 rw[K_7]at h1 h2
 split at h1
 ·rename_i hi
  rw[if_pos hi]at h2
  obtain⟨e',h3,h4⟩:=h_c hh i d h1
  rw[h2]at h3;cases h3;exact h4
 ·cases h1
theorem v_a {F h}{ds:List (List D)}{es:List (List AV)}(hh:E4_ F h ds es)(k:Nat):E4_ F h (ds.drop k) (es.drop k):=by
 refine u_9 (by simp[x9_ hh]) λi d e h1 h2=>?_
 rw[K_m]at h1 h2
 obtain⟨e',h3,h4⟩:=h_c hh _ d h1
 rw[h2]at h3;cases h3;exact h4
theorem k1_ {F h}:∀{ds:List (List D)} {es:List (List AV)},a8_ ds F h es->es.length=ds.length:=by
 intro ds
 induction ds with
 | nil=>intro es h;simp only[a8_]at h;subst h;rfl
 | cons e ds ih=>intro es h;simp only[a8_]at h;obtain⟨a,r,rfl,_,h⟩:=h;simp[ih h]
theorem k_s {F h}:∀{ds:List (List D)} {es:List (List AV)},a8_ ds F h es->∀(i:Nat)(d:List D),ds[i]?=some d->∃e,es[i]?=some e/\g2_ d F h e:=by
 intro ds
 induction ds with
 | nil=>intro es h i d hd;simp at hd
 | cons e ds ih=>
  intro es h i d hd
  simp only[a8_]at h
  obtain⟨a,r,rfl,h1,h2⟩:=h
  cases i with
  | zero=>simp at hd;subst hd;exact⟨a,rfl,h1⟩
  | succ i=>obtain⟨e',h3,h4⟩:=ih h2 i d (by simpa using hd);exact⟨e',by simpa using h3,h4⟩
theorem o_c {F h}:∀{ds:List (List D)} {es:List (List AV)},es.length=ds.length->(∀(i:Nat)(d:List D)(e:List AV),ds[i]?=some d->es[i]?=some e->g2_ d F h e)->a8_ ds F h es:=by
 intro ds
 induction ds with
 | nil=>intro es hl _;simp only[a8_];exact J_3 (by simpa using hl)
 | cons d ds ih=>
  intro es hl hh
  cases es with
  | nil=>simp at hl
  | cons e es=>
   simp only[a8_]
   exact⟨e,es,rfl,hh 0 d e rfl rfl,ih (by simpa using hl) λi d' e' h1 h2=>hh (i+1) d' e' (by simpa using h1) (by simpa using h2)⟩
theorem q3_ {F h}:∀{ds ds':List (List D)} {es es':List (List AV)},a8_ ds F h es->a8_ ds' F h es'->a8_ (ds++ds') F h (es++es'):=by
 intro ds
 induction ds with
 | nil=>intro ds' es es' h1 h2;simp only[a8_]at h1;subst h1;exact h2
 | cons d ds ih=>intro ds' es es' h1 h2;simp only[a8_]at h1;obtain⟨a,r,rfl,h3,h4⟩:=h1;exact⟨a,r++es',rfl,h3,ih h4 h2⟩
theorem q_w {F h}{ds:List (List D)}{es:List (List AV)}(hh:a8_ ds F h es)(k:Nat):a8_ (ds.take k) F h (es.take k):=by
 refine o_c (by simp[k1_ hh]) λi d e h1 h2=>?_
 rw[K_7]at h1 h2
 split at h1
 ·rename_i hi
  rw[if_pos hi]at h2
  obtain⟨e',h3,h4⟩:=k_s hh i d h1
  rw[h2]at h3;cases h3;exact h4
 ·cases h1
theorem q_x {F h}{ds:List (List D)}{es:List (List AV)}(hh:a8_ ds F h es)(k:Nat):a8_ (ds.drop k) F h (es.drop k):=by
 refine o_c (by simp[k1_ hh]) λi d e h1 h2=>?_
 rw[K_m]at h1 h2
 obtain⟨e',h3,h4⟩:=k_s hh _ d h1
 rw[h2]at h3;cases h3;exact h4
def v4_ (F:Nat->Prop)(h h':a0_):Prop:=∀m,F m->∀x,h[m]?=some x->h'[m]?=some x
theorem Ext.keep {h h':a0_}(F:Nat->Prop)(a:Ext nof h h'):v4_ F h h':=λ_ _ _ hx=>a.get hx
theorem Ext.keepOff {F F':Nat->Prop}{h h':a0_}(a:Ext F h h')(hd:∀m,m<h.length->F' m->¬F m):v4_ F' h h':=λm hm x hx=>by
 have:=(J_w.1 hx).1
 rw[a.2 m this (hd m this hm)];exact hx
theorem Els.mono {F F' h h' sz av es}(hF:∀m,F m->F' m)(hk:v4_ F h h')(hh:Els F h sz av es):Els F' h' sz av es:=by
 rcases hh with hh | hh | ⟨n,off,len,cap,row,g,h1,h2,h3,h4,h5⟩
 ·exact .inl hh
 ·exact .inr (.inl hh)
 ·exact .inr (.inr ⟨n,off,len,cap,row,g,h1,hF n h2,hk n h2 _ h3,h4,h5⟩)
mutual
theorem Rd.mono {F F':Nat->Prop}{h h':a0_}(hF:∀m,F m->F' m)(hk:v4_ F h h'):∀(d:D)(av:AV),Rd F h d av->Rd F' h' d av
 | .int _ _,_,hh=>hh
 | .bool _,_,hh=>hh
 | .str _,_,hh=>hh
 | .sl _ ds,_,hh=>by
  simp only[Rd]at hh ⊢
  obtain⟨es,h1,h2⟩:=hh
  exact⟨es,h1.mono hF hk,E4_.mono hF hk ds es h2⟩
theorem RdL.mono {F F':Nat->Prop}{h h':a0_}(hF:∀m,F m->F' m)(hk:v4_ F h h'):∀(ds:List D)(l:List AV),RdL F h ds l->RdL F' h' ds l
 | [],_,hh=>hh
 | d :: ds,_,hh=>by
  simp only[RdL]at hh ⊢
  obtain⟨a,r,h1,h2,h3⟩:=hh
  exact⟨a,r,h1,Rd.mono hF hk d a h2,RdL.mono hF hk ds r h3⟩
theorem E4_.mono {F F':Nat->Prop}{h h':a0_}(hF:∀m,F m->F' m)(hk:v4_ F h h'):∀(ds:List (List D)) (l:List (List AV)),E4_ F h ds l->E4_ F' h' ds l
 | [],_,hh=>hh
 | d :: ds,_,hh=>by
  simp only[E4_]at hh ⊢
  obtain⟨a,r,h1,h2,h3⟩:=hh
  exact⟨a,r,h1,RdL.mono hF hk d a h2,E4_.mono hF hk ds r h3⟩
end
mutual
theorem Own.mono:∀(d:D){F F':Nat->Prop}{h h':a0_}(_:∀m,F m->F' m)(_:v4_ F h h')(av:AV),Own d F h av->Own d F' h' av
 | .int _ _,_,_,_,_,_,_,_,hh=>hh
 | .bool _,_,_,_,_,_,_,_,hh=>hh
 | .str _,_,_,_,_,_,_,_,hh=>hh
 | .sl _ ds,F,F',h,h',hF,hk,_,hh=>by
  simp only[Own]at hh ⊢
  rcases hh with hh | hh | ⟨n,off,cap,row,g,h1,h2,h3,h4,hc,h5⟩
  ·exact .inl hh
  ·exact .inr (.inl hh)
  ·exact .inr (.inr ⟨n,off,cap,row,g,h1,hF n h2,hk n h2 _ h3,h4,hc,a8_.mono ds (λm hm=>⟨hF m hm.1,hm.2⟩) (λm hm=>hk m hm.1) _ h5⟩)
theorem g2_.mono:∀(ds:List D){F F':Nat->Prop}{h h':a0_}(_:∀m,F m->F' m)(_:v4_ F h h')(l:List AV),g2_ ds F h l->g2_ ds F' h' l
 | [],_,_,_,_,_,_,_,hh=>hh
 | d :: ds,_,_,_,_,hF,hk,_,hh=>by
  simp only[g2_]at hh ⊢
  obtain⟨a,r,h1,h2,h3⟩:=hh
  exact⟨a,r,h1,Own.mono d hF hk a h2,g2_.mono ds hF hk r h3⟩
theorem a8_.mono:∀(ds:List (List D)) {F F':Nat->Prop} {h h':a0_} (_:∀m,F m->F' m) (_:v4_ F h h') (l:List (List AV)),a8_ ds F h l->a8_ ds F' h' l
 | [],_,_,_,_,_,_,_,hh=>hh
 | d :: ds,_,_,_,_,hF,hk,_,hh=>by
  simp only[a8_]at hh ⊢
  obtain⟨a,r,h1,h2,h3⟩:=hh
  exact⟨a,r,h1,g2_.mono d hF hk a h2,a8_.mono ds hF hk r h3⟩
end
mutual
theorem Own.rd:∀(d:D){F F':Nat->Prop}{h:a0_}(_:∀m,F m->F' m)(av:AV),Own d F h av->Rd F' h d av
 | .int _ _,_,_,_,_,_,hh=>hh
 | .bool _,_,_,_,_,_,hh=>hh
 | .str _,_,_,_,_,_,hh=>hh
 | .sl sz ds,F,F',h,hF,_,hh=>by
  simp only[Own,Rd]at hh ⊢
  rcases hh with⟨rfl,rfl⟩ | ⟨t,c,rfl,rfl⟩ | ⟨n,off,cap,row,g,h1,h2,h3,h4,hc,h5⟩
  ·exact⟨[],.inl ⟨rfl,rfl⟩,rfl⟩
  ·exact⟨[],.inr (.inl ⟨t,c,rfl⟩),rfl⟩
  ·exact⟨_,.inr (.inr ⟨n,off,_,cap,row,g,h1,hF n h2,h3,h4,hc,rfl⟩),a8_.rd ds (λm hm=>hF m hm.1) _ h5⟩
theorem g2_.rd:∀(ds:List D){F F':Nat->Prop}{h:a0_}(_:∀m,F m->F' m)(l:List AV),g2_ ds F h l->RdL F' h ds l
 | [],_,_,_,_,_,hh=>hh
 | d :: ds,_,_,_,hF,_,hh=>by
  simp only[g2_,RdL]at hh ⊢
  obtain⟨a,r,h1,h2,h3⟩:=hh
  exact⟨a,r,h1,Own.rd d hF a h2,g2_.rd ds hF r h3⟩
theorem a8_.rd:∀(ds:List (List D)) {F F':Nat->Prop} {h:a0_} (_:∀m,F m->F' m) (l:List (List AV)),a8_ ds F h l->E4_ F' h ds l
 | [],_,_,_,_,_,hh=>hh
 | d :: ds,_,_,_,hF,_,hh=>by
  simp only[a8_,E4_]at hh ⊢
  obtain⟨a,r,h1,h2,h3⟩:=hh
  exact⟨a,r,h1,g2_.rd d hF a h2,a8_.rd ds hF r h3⟩
end
theorem v4_.lt (F:Nat->Prop)(h:a0_):∀m,F m->∀x,h[m]?=some x->h[m]?=some x:=λ_ _ _ hx=>hx
mutual
theorem Own.lt:∀(d:D){F:Nat->Prop}{h:a0_}(av:AV),Own d F h av->Own d (λm=>F m/\m<h.length) h av
 | .int _ _,_,_,_,hh=>hh
 | .bool _,_,_,_,hh=>hh
 | .str _,_,_,_,hh=>hh
 | .sl sz ds,F,h,_,hh=>by
  simp only[Own]at hh ⊢
  rcases hh with hh | hh | ⟨n,off,cap,row,g,h1,h2,h3,h4,hc,h5⟩
  ·exact .inl hh
  ·exact .inr (.inl hh)
  ·exact .inr (.inr ⟨n,off,cap,row,g,h1,⟨h2,(J_w.1 h3).1⟩,h3,h4,hc,
    a8_.mono ds (λm hm=>⟨⟨hm.1.1,hm.2⟩,hm.1.2⟩) (λ_ _ _ hx=>hx) _ (a8_.lt ds _ h5)⟩)
theorem g2_.lt:∀(ds:List D){F:Nat->Prop}{h:a0_}(l:List AV),g2_ ds F h l->g2_ ds (λm=>F m/\m<h.length) h l
 | [],_,_,_,hh=>hh
 | d :: ds,_,_,_,hh=>by
  simp only[g2_]at hh ⊢
  obtain⟨a,r,h1,h2,h3⟩:=hh
  exact⟨a,r,h1,Own.lt d a h2,g2_.lt ds r h3⟩
theorem a8_.lt:∀(ds:List (List D)) {F:Nat->Prop} {h:a0_} (l:List (List AV)),a8_ ds F h l->a8_ ds (λm=>F m/\m<h.length) h l
 | [],_,_,_,hh=>hh
 | d :: ds,_,_,_,hh=>by
  simp only[a8_]at hh ⊢
  obtain⟨a,r,h1,h2,h3⟩:=hh
  exact⟨a,r,h1,g2_.lt d a h2,a8_.lt ds r h3⟩
end
def n3_ (h:a0_):AV->Option (List AV)
 | .ptr m sz i o=>match h[m]? with
  | some (some (.arr sz' es _))=>if sz=sz' then (es[i]?).map (·.drop o) else none
  | _=>none
 | .vptr _ cs=>some cs
 | _=>none
def A_k (o:Nat):AV->AV
 | .ptr m sz i o'=>.ptr m sz i (o'+o)
 | .vptr t cs=>.vptr t (cs.drop o)
 | v=>v
theorem n2_ {h p cs}(hp:n3_ h p=some cs)(agg:Bool)(n:Nat):o5_ h agg n p=w0_ agg n cs:=by
 unfold n3_ at hp
 split at hp
 ·rename_i m sz i o
  simp only[o5_]
  split at hp
  ·rename_i sz' es g hm
   simp only[hm]
   split at hp
   ·rename_i e
    rw[if_pos e]
    cases he:es[i]? with
    | none=>simp[he]at hp
    | some e'=>simp[he]at hp;subst hp;rfl
   ·cases hp
  ·cases hp
 ·cases hp;rfl
 ·cases hp
theorem K9_ {h p cs}(hp:n3_ h p=some cs)(o:Nat):f_q o p=some (A_k o p):=by
 unfold n3_ at hp
 split at hp
 ·rfl
 ·rfl
 ·cases hp
theorem p_k {h p cs}(hp:n3_ h p=some cs)(o:Nat):n3_ h (A_k o p)=some (cs.drop o):=by
 unfold n3_ at hp
 split at hp
 ·rename_i m sz i o'
  simp only[A_k,n3_]
  split at hp
  ·rename_i sz' es g hm
   (try simp only[hm])
   split at hp
   ·rename_i e
    (try rw[if_pos e])
    cases he:es[i]? with
    | none=>simp[he]at hp
    | some e'=>simp[he]at hp;subst hp;simp[List.drop_drop]
   ·cases hp
  ·cases hp
 ·cases hp;rfl
 ·cases hp
theorem E2_ {h p cs}(hp:n3_ h p=some cs)(o:Nat)(agg:Bool)(n:Nat):o5_ h agg n (A_k o p)=w0_ agg n (cs.drop o):=n2_ (p_k hp o) agg n
theorem l_t {F:Nat->Prop}{h h':a0_}(hk:v4_ F h h'){m sz i o cs}(hm:F m)(hp:n3_ h (.ptr m sz i o)=some cs):n3_ h' (.ptr m sz i o)=some cs:=by
 simp only[n3_]at hp ⊢
 split at hp
 ·rename_i sz' es g hx;rw[hk m hm _ hx];exact hp
 ·cases hp
theorem Els.len {F h sz av es}(hh:Els F h sz av es):M5_ av=some (.int .i64 es.length):=by
 rcases hh with⟨rfl,rfl⟩ | ⟨t,c,rfl⟩ | ⟨n,off,len,cap,row,g,rfl,_,_,h4,_,rfl⟩
 ·rfl
 ·rfl
 ·simp only[M5_,K_i,K_o];congr 2;omega
theorem Els.elems {F h sz av es}(hh:Els F h sz av es):q2_ h sz av=some es:=by
 rcases hh with⟨rfl,rfl⟩ | ⟨t,c,rfl⟩ | ⟨n,off,len,cap,row,g,rfl,_,h3,h4,_,rfl⟩
 ·rfl
 ·simp[q2_]
 ·simp[q2_,h3,h4]
theorem Els.index {F h sz av es}(hh:Els F h sz av es)(k:IntKind){i:Int}{e:List AV}(h0:0<=i) (he:es[i.toNat]?=some e):
  ∃p,q9_ sz av (.int k i)=some p/\n3_ h p=some e:=by
 rcases hh with⟨rfl,rfl⟩ | ⟨t,c,rfl⟩ | ⟨n,off,len,cap,row,g,rfl,_,h3,h4,_,rfl⟩
 ·simp at he
 ·exact⟨.vptr t e,by simp[q9_,h0,he],rfl⟩
 ·have hlt:=(J_w.1 he).1
  simp only[K_i,K_o]at hlt
  rw[L_c (by omega),K_m]at he
  refine⟨.ptr n sz (off+i.toNat) 0,?_,?_⟩
  ·simp only[q9_];rw[if_pos ⟨trivial,h0,by omega⟩]
  ·simp[n3_,h3,he]
theorem Els.slice {F h sz av es}(hh:Els F h sz av es){lo hi mx:Option Int}(h0:0<=lo.getD 0)(h1:lo.getD 0<=hi.getD es.length)(h2:hi.getD es.length<=(es.length:Int))
  (h3:hi.getD es.length<=mx.getD (hi.getD es.length)) (h4:mx.getD (hi.getD es.length)<=(es.length:Int)) (h5:mx.isSome->hi.isSome):
  ∃av',j9_ sz av lo hi mx=some av'/\Els F h sz av' ((es.take (hi.getD es.length).toNat).drop (lo.getD 0).toNat):=by
 rcases hh with⟨rfl,rfl⟩ | ⟨t,c,rfl⟩ | ⟨n,off,len,cap,row,g,rfl,hF,hm,hle,hcap,rfl⟩
 ·simp only[K_d,M_n]at h1 h2 h3 h4
  have e0:lo.getD 0=0:=by omega
  have e1:hi.getD 0=0:=by omega
  have e2:mx.getD 0=0:=by cases mx with
   | none=>rfl
   | some m=>simp at h3 h4 ⊢;omega
  exact⟨.nils,by simp[j9_,e0,e1,e2],.inl ⟨rfl,by simp⟩⟩
 ·refine⟨.vals t (y5_ mx (hi.getD es.length) es.length c) sz ((es.take (hi.getD es.length).toNat).drop (lo.getD 0).toNat),?_,.inr (.inl ⟨t,_,rfl⟩)⟩
  simp only[j9_]
  rw[if_pos ⟨trivial,h0,h1,h2,h3,h4⟩]
 ·have hl:((row.drop off).take len).length=len:=by simp;omega
  rw[hl]at h1 h2 h3 h4 ⊢
  simp only[j9_]
  have hcl:(len:Int)<=((cap.getD len:Nat):Int):=by
   cases cap with
   | none=>simp
   | some c=>have:=hcap c rfl;simp;omega
  generalize lo.getD 0=l at *
  have hms:mx.isSome->g3_ mx l.toNat cap=some ((mx.getD (hi.getD (len:Int))).toNat-l.toNat):=by
   intro hm;cases mx with
   | none=>simp at hm
   | some m=>rfl
  have hmn:mx=none->g3_ mx l.toNat cap=cap.map (·-l.toNat):=by rintro rfl;rfl
  generalize hi.getD (len:Int)=hh at *
  have hcl':u_k (g3_ mx l.toNat cap) (hh.toNat-l.toNat):=by
   intro c hc
   cases hmx:mx with
   | none=>rw[hmn hmx]at hc;cases cap with
    | none=>simp at hc
    | some q=>have:=hcap q rfl;simp at hc;omega
   | some m=>rw[hms (by simp[hmx])]at hc;simp at hc;omega
  rw[if_pos ⟨trivial,h0,h1,.inl h2,h3,by omega⟩]
  by_cases e0:l=0
  ·rw[if_pos e0]
   subst e0
   refine⟨_,rfl,.inr (.inr ⟨n,off,_,_,row,g,rfl,hF,hm,by omega,by simpa using hcl',?_⟩)⟩
   rw[Int.toNat_zero,L_d,M_o,M_b (by omega)]
  ·rw[if_neg e0]
   by_cases e1:l<hh
   ·rw[if_pos e1]
    refine⟨_,rfl,.inr (.inr ⟨n,off+l.toNat,_,_,row,g,rfl,hF,hm,by omega,hcl',?_⟩)⟩
    rw[M_o,List.drop_take,List.drop_drop]
    congr 1;omega
   ·rw[if_neg e1]
    refine⟨_,rfl,.inr (.inl ⟨0,false,?_⟩)⟩
    have:(((row.drop off).take len).take hh.toNat).drop l.toNat=[]:=by
     apply J_3;simp;omega
    rw[this]
theorem Rd.len {F h sz ds av}(hh:Rd F h (.sl sz ds) av):M5_ av=some (.int .i64 ds.length):=by
 simp only[Rd]at hh
 obtain⟨es,h1,h2⟩:=hh
 rw[h1.len,x9_ h2]
theorem Rd.index {F h sz ds av}(hh:Rd F h (.sl sz ds) av)(k:IntKind){i:Int}{d:List D}(h0:0<=i) (hd:ds[i.toNat]?=some d):
  ∃p cs,q9_ sz av (.int k i)=some p/\n3_ h p=some cs/\RdL F h d cs:=by
 simp only[Rd]at hh
 obtain⟨es,h1,h2⟩:=hh
 obtain⟨e,he,hr⟩:=h_c h2 _ _ hd
 obtain⟨p,h3,h4⟩:=h1.index k h0 he
 exact⟨p,e,h3,h4,hr⟩
theorem Rd.slice {F h sz ds av}(hh:Rd F h (.sl sz ds) av){lo hi mx:Option Int}(h0:0<=lo.getD 0)(h1:lo.getD 0<=hi.getD ds.length)(h2:hi.getD ds.length<=(ds.length:Int))
  (h3:hi.getD ds.length<=mx.getD (hi.getD ds.length)) (h4:mx.getD (hi.getD ds.length)<=(ds.length:Int)) (h5:mx.isSome->hi.isSome):
  ∃av',j9_ sz av lo hi mx=some av'/\Rd F h (.sl sz ((ds.take (hi.getD ds.length).toNat).drop (lo.getD 0).toNat)) av':=by
 simp only[Rd]at hh ⊢
 obtain⟨es,e1,e2⟩:=hh
 have hl:=x9_ e2
 obtain⟨av',e3,e4⟩:=e1.slice (lo:=lo) (hi:=hi) (mx:=mx) h0 (by rw[hl];exact h1) (by rw[hl];exact h2) (by rw[hl];exact h3) (by rw[hl];exact h4) h5
 rw[hl]at e4
 exact⟨av',e3,_,e4,v_a (u_8 e2 _) _⟩
theorem Rd.elems {F h sz ds av}(hh:Rd F h (.sl sz ds) av):∃es,q2_ h sz av=some es/\E4_ F h ds es:=by
 simp only[Rd]at hh
 obtain⟨es,h1,h2⟩:=hh
 exact⟨es,h1.elems,h2⟩
theorem Rd.nils {F h}(sz:Nat):Rd F h (.sl sz []) .nils:=by
 simp only[Rd,E4_];exact⟨[],.inl ⟨rfl,rfl⟩,rfl⟩
theorem Own.nils {F h}(sz:Nat):Own (.sl sz []) F h .nils:=by
 simp only[Own];exact .inl ⟨trivial,trivial⟩
theorem Own.elems {sz ds F h a}(hh:Own (.sl sz ds) F h a):∃ys,q2_ h sz a=some ys/\a8_ ds F h ys:=by
 simp only[Own]at hh
 rcases hh with⟨rfl,rfl⟩ | ⟨t,c,rfl,rfl⟩ | ⟨n,off,cap,row,g,rfl,h2,h3,h4,hc,h5⟩
 ·exact⟨[],rfl,rfl⟩
 ·exact⟨[],by simp[q2_],rfl⟩
 ·exact⟨_,by simp[q2_,h3,h4],a8_.mono ds (λm hm=>hm.1) (λ_ _ _ x=>x) _ h5⟩
def d2_ (h:a0_):AV->Prop
 | .nils=>True
 | .ref n sz off len cap=>∃row g,h[n]?=some (some (.arr sz row g))/\(cap=none->off=0)/\∀c,cap=some c->off+c<=row.length
 | .vals _ clip _ _=>clip=true
 | _=>False
theorem d2_.keep {F:Nat->Prop}{h h' av d}(hc:d2_ h av)(ho:Own d F h av)(hk:v4_ F h h'):d2_ h' av:=by
 unfold d2_ at hc ⊢
 split
 ·trivial
 ·rename_i n sz off len cap
  obtain⟨row,g,h1,h2⟩:=hc
  refine⟨row,g,hk n ?_ _ h1,h2⟩
  cases d with
  | sl sz' ds=>
   simp only[Own]at ho
   rcases ho with⟨e,_⟩ | ⟨t,c,e,_⟩ | ⟨n',off',cap',row',g',e,hF,_⟩
   ·cases e
   ·cases e
   ·cases e;exact hF
  | int k n=>simp only[Own]at ho;cases ho
  | bool b=>simp only[Own]at ho;cases ho
  | str s=>simp only[Own]at ho;cases ho
 ·exact hc
 ·simp_all
theorem G6_ {lo sz bytes : Nat} {ds es : List (List D)} {h0 h : a0_} {av : AV} {ys : List (List AV)} (ho : Own (.sl sz ds) (λm => lo <= m) h0 av) (hc : d2_ h0 av)
  (hx : Ext nof h0 h) (hy : a8_ es (λm => h0.length <= m) h ys) (hlo : lo <= h0.length) (hb : (ds.length + es.length) * bytes <= 2 ^ 46) :
  ∃ av' h', d3_ h sz bytes av ys = some (av', h') /\ Own (.sl sz (ds ++ es)) (λm => lo <= m) h' av' /\ d2_ h' av' /\ Ext (λm => lo <= m) h h' := by
 have hyl := k1_ hy
 have new : ∀ (hh : a0_) (es' : List (List AV)), v4_ (λm => lo <= m /\ m ≠ hh.length) hh (hh ++ [some (.arr sz es' true)]) := λhh es' m hm x hx => by
  rw [J_1 (J_w.1 hx).1]; exact hx
 have fresh : ∀ (hh : a0_) (dd : List (List D)) (es' : List (List AV)), lo <= hh.length -> a8_ dd (λm => lo <= m) hh es' ->
   Own (.sl sz dd) (λm => lo <= m) (c0_ hh sz es').2 (c0_ hh sz es').1 /\ d2_ (c0_ hh sz es').2 (c0_ hh sz es').1 := by
  intro hh dd es' hl hd
  have hlen := k1_ hd
  refine ⟨?_, ⟨es', true, by simp [c0_], (λ_ => rfl), (λc hc => by cases hc)⟩⟩
  simp only [Own, c0_]
  refine .inr (.inr ⟨hh.length, 0, none, es', true, by rw [hlen], hl, by simp, by omega, (λc hc => by cases hc), ?_⟩)
  have : (es'.drop 0).take dd.length = es' := by rw [L_d, K_r (by omega)]
  rw [this]
  refine a8_.mono dd (λm hm => ⟨hm.1, by have := hm.2; omega⟩) ?_ _ (a8_.lt dd _ hd)
  intro m hm x hx
  rw [J_1 hm.2]; exact hx
 simp only [Own] at ho
 rcases ho with ⟨rfl, rfl⟩ | ⟨t, c, rfl, rfl⟩ | ⟨n, off, cap, row, g, rfl, hn, hrow, hle, hcl, hd⟩
 · -- nothing yet
  have hy' : a8_ es (λm => lo <= m) h ys := a8_.mono es (λm hm => K_e hlo hm) (λ_ _ _ x => x) _ hy
  obtain ⟨a, b⟩ := fresh h es ys (K_e hlo hx.1) hy'
  refine ⟨_, _, ?_, by simpa using a, b, ?_⟩
  ·simp only [d3_]; rw [if_pos (by rw [hyl]; simpa using hb)]
  ·exact Ext.app _ _ _
 ·have hc1 : c = true := hc
  subst hc1
  have hy' : a8_ es (λm => lo <= m) h ys := a8_.mono es (λm hm => K_e hlo hm) (λ_ _ _ x => x) _ hy
  simp only [d3_]
  rw [if_pos ⟨trivial, by rw [hyl]; simpa using hb⟩]
  by_cases hy0 : ys.length = 0
  ·rw [if_pos hy0]
   have hes : es = [] := J_3 (by omega)
   subst hes
   refine ⟨_, _, rfl, ?_, rfl, Ext.refl _ _⟩
   simp only [Own]
   exact .inr (.inl ⟨t, true, rfl, rfl⟩)
  ·rw [if_neg hy0, if_pos trivial]
   obtain ⟨a, b⟩ := fresh h es ys (K_e hlo hx.1) hy'
   exact ⟨_, _, rfl, by simpa [c0_] using a, b, Ext.app _ _ _⟩
 ·obtain ⟨row', g', hrow', hcn, hcs⟩ := hc
  rw [hrow] at hrow'
  obtain ⟨rfl, rfl⟩ : row = row' /\ g = g' := by simpa using hrow'
  have hnlt := (J_w.1 hrow).1
  have hrow1 : h[n]? = some (some (.arr sz row g)) := hx.get hrow
  have hnlt1 := (J_w.1 hrow1).1
  have hd1 : a8_ ds (λm => lo <= m /\ m ≠ n) h ((row.drop off).take ds.length) := a8_.mono ds (λm hm => hm) (hx.keep _) _ hd
  have hy1 : a8_ es (λm => lo <= m /\ m ≠ n) h ys := a8_.mono es (λm hm => ⟨K_e hlo hm, by omega⟩) (λ_ _ _ x => x) _ hy
  have both : a8_ (ds ++ es) (λm => lo <= m) h ((row.drop off).take ds.length ++ ys) := a8_.mono _ (λm hm => hm.1) (λ_ _ _ x => x) _ (q3_ hd1 hy1)
  simp only [d3_, hrow1]
  rw [if_pos ⟨trivial, trivial, hle, by rw [hyl]; exact hb⟩]
  cases cap with
  | none =>
   obtain rfl := hcn rfl
   simp only [if_true]
   have both' : a8_ (ds ++ es) (λm => lo <= m) (h.set n none) (row.take ds.length ++ ys) := by
    have := q3_ hd1 hy1
    rw [L_d] at this
    exact a8_.mono _ (λm hm => hm.1) (λm hm x hx => by rw [J_x (λe => hm.2 e.symm)]; exact hx) _ this
   obtain ⟨a, b⟩ := fresh (h.set n none) (ds ++ es) (row.take ds.length ++ ys) (by simp; omega) both'
   exact ⟨_, _, rfl, a, b, (Ext.set none (λ_ => hn)).trans (Ext.app (λm => lo <= m) _ _) (λ_ _ x => x) (λ_ _ x => x)⟩
  | some c =>
   have hc1 := hcl c rfl
   have hc2 := hcs c rfl
   cases c with
   | zero =>
    have h0 : ds.length = 0 := by omega
    have hds : ds = [] := J_3 h0
    subst hds
    simp only [K_d, if_true]
    by_cases hy0 : ys.length = 0
    ·rw [if_pos hy0]
     have hes : es = [] := J_3 (by omega)
     subst hes
     refine ⟨_, _, rfl, ?_, ⟨row, g, hrow1, (λe => by cases e), (λc hc => by cases hc; omega)⟩, Ext.refl _ _⟩
     simp only [Own]
     exact .inr (.inr ⟨n, off, some 0, row, g, rfl, hn, hrow1, by simpa using hle, (λc hc => by cases hc; simp), by simp [a8_]⟩)
    ·rw [if_neg hy0]
     have hy2 : a8_ es (λm => lo <= m) h ys := a8_.mono es (λm hm => hm.1) (λ_ _ _ x => x) _ hy1
     obtain ⟨a, b⟩ := fresh h es ys (by omega) hy2
     exact ⟨_, _, rfl, by simpa [c0_] using a, b, Ext.app _ _ _⟩
   | succ c =>
    simp only
    by_cases hcap : c + 1 < ds.length + ys.length
    ·rw [if_pos hcap]
     obtain ⟨a, b⟩ := fresh h (ds ++ es) _ (by omega) both
     exact ⟨_, _, rfl, a, b, Ext.app _ _ _⟩
    ·rw [if_neg hcap, if_pos (by omega)]
     have hsl : (e1_ row (off + ds.length) ys).length = row.length := by simp [e1_]; omega
     refine ⟨_, _, rfl, ?_, ⟨_, g, by rw [J_0 hnlt1], (λe => by cases e), (λc' hc' => by cases hc'; rw [hsl]; exact hc2)⟩, Ext.set _ (λ_ => hn)⟩
     simp only [Own]
     refine .inr (.inr ⟨n, off, some (c + 1), e1_ row (off + ds.length) ys, g, by rw [J_z, hyl], hn, by rw [J_0 hnlt1], by rw [hsl, J_z]; omega,
      (λc' hc' => by cases hc'; rw [J_z]; omega), ?_⟩)
     have e : ((e1_ row (off + ds.length) ys).drop off).take (ds ++ es).length = (row.drop off).take ds.length ++ ys := by
      apply K_0
      intro i
      simp only [K_7, K_m, J_z, e1_, K_q, K_i, J_z, K_o]
      rw [show min (off + ds.length) row.length = off + ds.length by omega, show min ds.length (row.length - off) = ds.length by omega]
      by_cases h1 : i < ds.length
      ·rw [if_pos (by omega), if_pos (by omega), if_pos (by omega), if_pos (by omega), if_pos h1]
       simp [h1]
      ·by_cases h2 : i < ds.length + es.length
       ·rw [if_pos h2, if_pos (by omega), if_neg (by omega), if_neg h1]
        congr 1; omega
       ·rw [if_neg h2, if_neg h1, K_3 (by omega)]
     rw [e]
     refine a8_.mono _ (λm hm => hm) ?_ _ (q3_ hd1 hy1)
     intro m hm x hx
     rw [J_x (λe => hm.2 e.symm)]; exact hx
theorem P5_ {F:Nat->Prop}{sz:Nat}{ds:List (List D)}{h:a0_}{av:AV}(ho:Own (.sl sz ds) F h av){k:Int}(h0:0<=k)(hk:k<=ds.length):
  ∃av',j9_ sz av none (some k) (some k)=some av'/\Own (.sl sz (ds.take k.toNat)) F h av'/\d2_ h av':=by
 simp only[Own]at ho
 rcases ho with⟨rfl,rfl⟩ | ⟨t,c,rfl,rfl⟩ | ⟨n,off,cap,row,g,rfl,hn,hrow,hle,hcl,hd⟩
 ·have:k=0:=by simpa using (by simp at hk;omega:k=0)
  subst this
  exact⟨.nils,by simp[j9_],Own.nils sz,trivial⟩
 ·have:k=0:=by simpa using (by simp at hk;omega:k=0)
  subst this
  refine⟨.vals t true sz [],by simp[j9_,y5_],?_,rfl⟩
  simp only[Own]
  exact .inr (.inl ⟨t,true,rfl,by simp⟩)
 ·have hcl':(ds.length:Int)<=((cap.getD ds.length:Nat):Int):=by
   cases cap with
   | none=>simp
   | some c=>have:=hcl c rfl;simp;omega
  have hl:(ds.take k.toNat).length=k.toNat:=by simp;omega
  refine⟨.ref n sz off k.toNat (some k.toNat),?_,?_,⟨row,g,hrow,(λe=>by cases e),(λc hc=>by cases hc;omega)⟩⟩
  ·simp only[j9_,L_r,K_v]
   rw[if_pos ⟨trivial,by omega,by omega,.inl (by omega),by omega,by omega⟩,if_pos trivial]
   simp[g3_]
  ·simp only[Own]
   refine .inr (.inr ⟨n,off,some k.toNat,row,g,by rw[hl],hn,hrow,by omega,(λc hc=>by cases hc;omega),?_⟩)
   rw[hl]
   have:=q_w hd k.toNat
   rw[M_o,M_b (by omega)]at this
   exact this
def f_u (lo:Nat)(h:a0_)(sz:Nat)(av:AV)(es:List (List AV)):Prop:=
 (av=.nils/\es=[])\/∃n off cap row g,av=.ref n sz off es.length cap/\lo<=n/\h[n]?=some (some (.arr sz row g))/\off+es.length<=row.length/\u_k cap es.length /\
  (cap=none->off=0)/\(∀c,cap=some c->off+c<=row.length)/\(row.drop off).take es.length=es
theorem u_2 {lo sz bytes:Nat}{h0 h:a0_}{av:AV}{es ys:List (List AV)}(ho:f_u lo h0 sz av es)(hx:Ext nof h0 h)(hlo:lo<=h0.length)
  (hb:(es.length+ys.length)*bytes<=2^46):∃av' h',d3_ h sz bytes av ys=some (av',h')/\f_u lo h' sz av' (es++ys)/\Ext (λm=>lo<=m) h h':=by
 have fresh:∀(hh:a0_) (es':List (List AV)),lo<=hh.length->f_u lo (c0_ hh sz es').2 sz (c0_ hh sz es').1 es':=by
  intro hh es' hl
  exact .inr ⟨hh.length,0,none,es',true,rfl,hl,by simp[c0_],by omega,(λc hc=>by cases hc),(λ_=>rfl),(λc hc=>by cases hc),by simp⟩
 rcases ho with⟨rfl,rfl⟩ | ⟨n,off,cap,row,g,rfl,hn,hrow,hle,hcl,hcn,hcs,he⟩
 ·refine⟨(c0_ h sz ys).1,(c0_ h sz ys).2,?_,fresh h ys (K_e hlo hx.1),Ext.app _ _ _⟩
  simp only[d3_];rw[if_pos (by simpa using hb)]
 ·have hnlt:=(J_w.1 hrow).1
  have hrow1:h[n]?=some (some (.arr sz row g)):=hx.get hrow
  have hnlt1:=(J_w.1 hrow1).1
  simp only[d3_,hrow1]
  rw[if_pos ⟨trivial,trivial,hle,hb⟩]
  cases cap with
  | none=>
   obtain rfl:=hcn rfl
   simp only[if_true]
   rw[L_d]at he
   refine⟨_,_,rfl,?_,(Ext.set none (λ_=>hn)).trans (Ext.app (λm=>lo<=m) _ _) (λ_ _ x=>x) (λ_ _ x=>x)⟩
   rw[he]
   exact fresh _ _ (by simp;omega)
  | some c=>
   have hc1:=hcl c rfl
   have hc2:=hcs c rfl
   cases c with
   | zero=>
    have hes:es=[]:=J_3 (by omega)
    subst hes
    simp only[K_d,if_true]
    by_cases hy0:ys.length=0
    ·rw[if_pos hy0]
     have hys:ys=[]:=J_3 hy0
     subst hys
     exact⟨_,_,rfl,.inr ⟨n,off,some 0,row,g,rfl,hn,hrow1,hle,hcl,hcn,hcs,he⟩,Ext.refl _ _⟩
    ·rw[if_neg hy0]
     exact⟨(c0_ h sz ys).1,(c0_ h sz ys).2,rfl,fresh h ys (by omega),Ext.app _ _ _⟩
   | succ c=>
    simp only
    by_cases hcap:c+1<es.length+ys.length
    ·rw[if_pos hcap,he]
     exact⟨_,_,rfl,fresh _ _ (by omega),Ext.app _ _ _⟩
    ·rw[if_neg hcap,if_pos (by omega)]
     have hsl:(e1_ row (off+es.length) ys).length=row.length:=by simp[e1_];omega
     refine⟨_,_,rfl,.inr ⟨n,off,some (c+1),e1_ row (off+es.length) ys,g,by rw[J_z],hn,by rw[J_0 hnlt1],by rw[hsl,J_z];omega,
      (λc' hc'=>by cases hc';rw[J_z];omega),(λe=>by cases e),(λc' hc'=>by cases hc';rw[hsl];exact hc2),?_⟩,Ext.set _ (λ_=>hn)⟩
     apply K_0
     intro i
     have hei:∀i,i<es.length->row[off+i]?=es[i]?:=λi hi=>by
      have:es[i]?=((row.drop off).take es.length)[i]?:=by rw[he]
      rw[this,L_c hi,K_m]
     simp only[K_7,K_m,J_z,e1_,K_q,K_i,J_z]
     rw[show min (off+es.length) row.length=off+es.length by omega]
     by_cases h1:i<es.length
     ·rw[if_pos (by omega),if_pos (by omega),if_pos (by omega),if_pos (by omega),if_pos h1]
      exact hei i h1
     ·by_cases h2:i<es.length+ys.length
      ·rw[if_pos h2,if_pos (by omega),if_neg (by omega),if_neg h1]
       congr 1;omega
      ·rw[if_neg h2,if_neg h1,K_3 (by omega)]
mutual
theorem Rd.lt:∀(d:D){F:Nat->Prop}{h:a0_}(av:AV),Rd F h d av->Rd (λm=>F m/\m<h.length) h d av
 | .int _ _,_,_,_,hh=>hh
 | .bool _,_,_,_,hh=>hh
 | .str _,_,_,_,hh=>hh
 | .sl sz ds,F,h,_,hh=>by
  simp only[Rd]at hh ⊢
  obtain⟨es,h1,h2⟩:=hh
  refine⟨es,?_,E4_.lt ds es h2⟩
  rcases h1 with h1 | h1 | ⟨n,off,len,cap,row,g,h1,h2,h3,h4⟩
  ·exact .inl h1
  ·exact .inr (.inl h1)
  ·exact .inr (.inr ⟨n,off,len,cap,row,g,h1,⟨h2,(J_w.1 h3).1⟩,h3,h4⟩)
theorem RdL.lt:∀(ds:List D){F:Nat->Prop}{h:a0_}(l:List AV),RdL F h ds l->RdL (λm=>F m/\m<h.length) h ds l
 | [],_,_,_,hh=>hh
 | d :: ds,_,_,_,hh=>by
  simp only[RdL]at hh ⊢
  obtain⟨a,r,h1,h2,h3⟩:=hh
  exact⟨a,r,h1,Rd.lt d a h2,RdL.lt ds r h3⟩
theorem E4_.lt:∀(ds:List (List D)) {F:Nat->Prop} {h:a0_} (l:List (List AV)),E4_ F h ds l->E4_ (λm=>F m/\m<h.length) h ds l
 | [],_,_,_,hh=>hh
 | d :: ds,_,_,_,hh=>by
  simp only[E4_]at hh ⊢
  obtain⟨a,r,h1,h2,h3⟩:=hh
  exact⟨a,r,h1,RdL.lt d a h2,E4_.lt ds r h3⟩
end
theorem z_4 (g:Opd->AV)(h:a0_)(x:Opd):rev g h (.mov x)=some (g x):=Eq.trans rfl rfl
theorem w_l (g:Opd->AV)(h:a0_)(agg:Bool)(n:Nat)(x:Opd):rev g h (.load agg n x)=o5_ h agg n (g x):=Eq.trans rfl rfl
theorem A_a (g:Opd->AV)(h:a0_)(op:BinOp)(x y:Opd):rev g h (.bin op x y)=V2_ op (g x) (g y):=Eq.trans rfl rfl
theorem z_5 (g:Opd->AV)(h:a0_)(x:Opd):rev g h (.len x)=M5_ (g x):=Eq.trans rfl rfl
theorem z_1 (g:Opd->AV)(h:a0_)(o:Nat)(x:Opd):rev g h (.off o x)=f_q o (g x):=Eq.trans rfl rfl
theorem z_6 (g:Opd->AV)(h:a0_)(sz:Nat)(x i:Opd):rev g h (.idx sz x i)=q9_ sz (g x) (g i):=Eq.trans rfl rfl
def D_b (c a b:AV):Option AV:=match c with
 | .bool t=>some (if t then a else b)
 | _=>none
theorem w_j (g:Opd->AV)(h:a0_)(c a b:Opd):rev g h (.pick c a b)=D_b (g c) (g a) (g b):=Eq.trans rfl rfl
theorem q_n (t:Bool)(a b:AV):D_b (.bool t) a b=some (if t then a else b):=Eq.trans rfl rfl
def G_1:AV->Option AV
 | .bool b=>some (.bool !b)
 | _=>none
theorem z_2 (g:Opd->AV)(h:a0_)(x:Opd):rev g h (.not x)=G_1 (g x):=Eq.trans rfl rfl
theorem u_w (b:Bool):G_1 (.bool b)=some (.bool !b):=Eq.trans rfl rfl
def G_3 (i:Nat):AV->Option AV
 | .tup cs=>cs[i]?
 | _=>none
theorem z_8 (g:Opd->AV)(h:a0_)(x:Opd)(i:Nat):rev g h (.ext x i)=G_3 i (g x):=Eq.trans rfl rfl
theorem x_y (i:Nat)(cs:List AV):G_3 i (.tup cs)=cs[i]?:=Eq.trans rfl rfl
def E_i (op:BinOp):AV->AV->Option AV
 | .bool a,.bool b=>D_v op a b
 | _,_=>none
theorem A_b (g:Opd->AV)(h:a0_)(op:BinOp)(x y:Opd):rev g h (.beq op x y)=E_i op (g x) (g y):=Eq.trans rfl rfl
theorem x_1 (a b:Bool):E_i .eql (.bool a) (.bool b)=some (.bool (a == b)):=Eq.trans rfl rfl
theorem x_0 (a b:Bool):E_i .neq (.bool a) (.bool b)=some (.bool (!(a == b))):=Eq.trans rfl rfl
def G_4:AV->Option AV
 | .ptr n sz i o=>some (.ptr n sz i o)
 | .vptr t cs=>some (.vptr t cs)
 | .iface t v=>some (.iface t v)
 | .clo f fs cs=>some (.clo f fs cs)
 | _=>none
theorem z_9 (g:Opd->AV)(h:a0_)(x:Opd):rev g h (.chk x)=G_4 (g x):=by
 simp only[rev];generalize g x=v;cases v<;>rfl
def D_d (k:IntKind):AV->Option AV
 | .int _ n=>some (.int k (k.wrap n))
 | _=>none
theorem w_m (g:Opd->AV)(h:a0_)(k:IntKind)(x:Opd):rev g h (.conv k x)=D_d k (g x):=Eq.trans rfl rfl
theorem k_o (k k':IntKind)(n:Int):D_d k (.int k' n)=some (.int k (k.wrap n)):=Eq.trans rfl rfl
def G_2:AV->Option AV
 | .int k n=>some (.int k (k.wrap (0-n)))
 | _=>none
theorem z_3 (g:Opd->AV)(h:a0_)(x:Opd):rev g h (.neg x)=G_2 (g x):=Eq.trans rfl rfl
theorem x_v (k:IntKind)(n:Int):G_2 (.int k n)=some (.int k (k.wrap (0-n))):=Eq.trans rfl rfl
def r_b (sz:Nat)(x:AV):Option (Option Int)->Option (Option Int)->Option (Option Int)->Option AV
 | some lo,some hi,some mx=>j9_ sz x lo hi mx
 | _,_,_=>none
theorem s_a (g:Opd->AV)(h:a0_)(sz:Nat)(x:Opd)(lo hi mx:Option Opd):rev g h (.slc sz x lo hi mx)=r_b sz (g x) (A7_ g lo) (A7_ g hi) (A7_ g mx):=by
 simp only[rev,r_b];generalize A7_ g lo=a;generalize A7_ g hi=b;generalize A7_ g mx=c;cases a<;>cases b<;>cases c<;>rfl
theorem u_t (sz:Nat)(x:AV)(lo hi mx:Option Int):r_b sz x (some lo) (some hi) (some mx)=j9_ sz x lo hi mx:=Eq.trans rfl rfl
def l_z:AV->Option (Option Int)
 | .int _ n=>some (some n)
 | _=>none
theorem p_m (g:Opd->AV)(x:Opd):A7_ g (some x)=l_z (g x):=by simp only[A7_,l_z];generalize g x=v;cases v<;>rfl
theorem l_y (k:IntKind)(n:Int):l_z (.int k n)=some (some n):=Eq.trans rfl rfl
theorem l_x (g:Opd->AV):A7_ g none=some none:=Eq.trans rfl rfl
theorem E_h (a b:Int):V2_ .add (.int .i64 a) (.int .i64 b)=some (.int .i64 (IntKind.i64.wrap (a+b))):=Eq.trans rfl rfl
theorem D_5 (a b:Int):V2_ .sub (.int .i64 a) (.int .i64 b)=some (.int .i64 (IntKind.i64.wrap (a-b))):=Eq.trans rfl rfl
theorem D_9 (a b:Int):V2_ .mul (.int .i64 a) (.int .i64 b)=some (.int .i64 (IntKind.i64.wrap (a*b))):=Eq.trans rfl rfl
theorem B_e (k:IntKind)(a b:Int):V2_ .lss (.int k a) (.int k b)=some (.bool (decide (a<b))):=by simp[V2_,x_a]
theorem B_f (k:IntKind)(a b:Int):V2_ .leq (.int k a) (.int k b)=some (.bool (decide (a<=b))):=by simp[V2_,x_a]
theorem B_g (k:IntKind)(a b:Int):V2_ .gtr (.int k a) (.int k b)=some (.bool (decide (b<a))):=by simp[V2_,x_a]
theorem B_h (k:IntKind)(a b:Int):V2_ .geq (.int k a) (.int k b)=some (.bool (decide (b<=a))):=by simp[V2_,x_a]
theorem B_i (k:IntKind)(a b:Int):V2_ .eql (.int k a) (.int k b)=some (.bool (decide (a=b))):=by simp[V2_,x_a];rfl
theorem B_d (k:IntKind)(a b:Int):V2_ .neq (.int k a) (.int k b)=some (.bool (!decide (a=b))):=by simp[V2_,x_a,bne];rfl
theorem a7_ {x:Int}(h:-9223372036854775808<=x/\x<=9223372036854775807):IntKind.i64.wrap x=x:=by
 simp only[IntKind.wrap,IntKind.bits,IntKind.signed]
 simp
 split<;>omega
theorem V5_ (n:Nat)(cs:List AV):w0_ true n cs=if n<=cs.length then some (.agg (cs.take n)) else none:=Eq.trans rfl rfl
theorem take_one (n:Nat)(c:AV)(cs:List AV):w0_ false n (c :: cs)=some c:=Eq.trans rfl rfl
theorem l_j (st:St):q5_ st []=some []:=Eq.trans rfl rfl
theorem l_i (st:St)(x:Opd)(r:List h_u):q5_ st (.tmp x :: r)=(q5_ st r).map (st.get x :: ·):=Eq.trans rfl rfl
theorem i_7 (x:AV):B3_ [x]=x:=Eq.trans rfl rfl
theorem i_8:B3_ []=.tup []:=Eq.trans rfl rfl
theorem i_6 (x y:AV)(l:List AV):B3_ (x :: y :: l)=.tup (x :: y :: l):=Eq.trans rfl rfl
theorem u_h (k:IntKind)(n:Int):(AV.int k n).cells?=some [.int k n]:=Eq.trans rfl rfl
theorem q_c (b:Bool):(AV.bool b).cells?=some [.bool b]:=Eq.trans rfl rfl
theorem u_e (s:ByteArray):(AV.str s).cells?=some [.str s]:=Eq.trans rfl rfl
theorem q_b:AV.nils.cells?=some [.nils]:=Eq.trans rfl rfl
theorem u_i (cs:List AV):(AV.agg cs).cells?=some cs:=Eq.trans rfl rfl
theorem u_f (n sz off len:Nat)(cap:Option Nat):(AV.ref n sz off len cap).cells?=some [.ref n sz off len cap]:=Eq.trans rfl rfl
theorem q_a (t:Nat)(c:Bool)(sz:Nat)(es:List (List AV)):(AV.vals t c sz es).cells?=some [.vals t c sz es]:=Eq.trans rfl rfl
theorem u_g (n sz i o:Nat):(AV.ptr n sz i o).cells?=some [.ptr n sz i o]:=Eq.trans rfl rfl
theorem b5_ {a:AV}(h:a.scalar=true):a.cells?=some [a]:=by
 cases a<;>first | rfl | simp_all[AV.cells?,AV.scalar]
theorem o_4 (k:IntKind)(n:Int):(AV.int k n).scalar=true:=Eq.trans rfl rfl
theorem l_d (b:Bool):(AV.bool b).scalar=true:=Eq.trans rfl rfl
theorem o_1 (s:ByteArray):(AV.str s).scalar=true:=Eq.trans rfl rfl
theorem l_c:AV.nils.scalar=true:=Eq.trans rfl rfl
theorem o_2 (n sz off len:Nat)(cap:Option Nat):(AV.ref n sz off len cap).scalar=true:=Eq.trans rfl rfl
theorem l_b (t:Nat)(c:Bool)(sz:Nat)(es:List (List AV)):(AV.vals t c sz es).scalar=true:=Eq.trans rfl rfl
theorem o_3 (n sz i o:Nat):(AV.ptr n sz i o).scalar=true:=Eq.trans rfl rfl
theorem u_0 (cs:List AV):e_x cs []=some cs:=Eq.trans rfl rfl
theorem q_t (cs:List AV)(o n:Nat)(x:AV)(r:List (Nat×Nat×AV)):
  e_x cs ((o,n,x) :: r)=x.cells?.bind λl=>if l.length=n/\o+n<=cs.length then e_x (setMany cs o l) r else none:=by
 simp only[e_x];generalize x.cells?=q;cases q<;>rfl
theorem k_9 (cs:List AV)(o:Nat):setMany cs o []=cs:=Eq.trans rfl rfl
theorem i_n (cs:List AV)(o:Nat)(c:AV)(r:List AV):setMany cs o (c :: r)=setMany (cs.set o c) (o+1) r:=Eq.trans rfl rfl
theorem s_c (g:Opd->AV)(h:a0_)(z:List AV)(ps:List (Nat×Nat×Opd)):rev g h (.build z ps)=(e_x z (ps.map λp=>(p.1,p.2.1,g p.2.2))).map .agg:=Eq.trans rfl rfl
theorem k_e (sz:Nat):n4_ sz []=some []:=Eq.trans rfl rfl
theorem g_7 (sz:Nat)(x:AV)(r:List AV):
  n4_ sz (x :: r)=x.cells?.bind λcs=>(n4_ sz r).bind λes=>if cs.length=sz/\cs.all AV.scalar=true then some (cs :: es) else none:=by
 simp only[n4_];cases x.cells?<;>cases n4_ sz r<;>rfl
theorem p_s (g:Opd->AV)(nm:Nat)(cs:List AV):f7_ g nm (.mk cs)=some (.ptr nm cs.length 0 0,.arr cs.length [cs] false):=Eq.trans rfl rfl
theorem l_5 (g:Opd->AV)(nm:Nat)(x:Opd):
  f7_ g nm (.box x)=(g x).cells?.bind λcs=>if cs.all AV.scalar=true then some (.ptr nm cs.length 0 0,.arr cs.length [cs] false) else none:=by
 simp only[f7_];cases (g x).cells?<;>rfl
theorem l_4 (g:Opd->AV)(nm sz:Nat)(xs:List Opd):
  f7_ g nm (.bsl sz xs)=(n4_ sz (xs.map g)).map λes=>(.ref nm sz 0 xs.length (some xs.length),.arr sz es false):=by
 simp only[f7_];cases n4_ sz (xs.map g)<;>rfl
theorem C_z (g:Opd->AV)(h:a0_)(cs:List AV):hev g h (.mk cs)=some (.ptr h.length cs.length 0 0,h++[some (.arr cs.length [cs] false)]):=Eq.trans rfl rfl
theorem A_2 (g:Opd->AV)(h:a0_)(x:Opd):
  hev g h (.box x)=(g x).cells?.bind λcs=>if cs.all AV.scalar=true then some (.ptr h.length cs.length 0 0,h++[some (.arr cs.length [cs] false)]) else none:=by
 simp only[hev,f7_];generalize (g x).cells?=q;cases q with
 | none=>rfl
 | some cs=>simp only[L_i];by_cases e:cs.all AV.scalar=true<;>simp[e]
theorem A_1 (g:Opd->AV)(h:a0_)(sz:Nat)(xs:List Opd):
  hev g h (.bsl sz xs)=(n4_ sz (xs.map g)).map λes=>(.ref h.length sz 0 xs.length (some xs.length),h++[some (.arr sz es false)]):=by
 simp only[hev,f7_];generalize n4_ sz (xs.map g)=q;cases q<;>rfl
theorem t_s (g:Opd->AV)(h:a0_)(n:Nat)(a x:Opd):hev g h (.store n a x)=(Y8_ h n (g a) (g x)).map λh'=>(.top,h'):=Eq.trans rfl rfl
theorem A_3 (g:Opd->AV)(h:a0_)(sz bytes:Nat)(x y:Opd):hev g h (.app sz bytes x y)=V0_ h sz bytes (g x) (g y):=Eq.trans rfl rfl
theorem c6_ {h:a0_}{sz:Nat}{y:AV}{ys:List (List AV)}(hy:q2_ h sz y=some ys)(bytes:Nat)(x:AV):V0_ h sz bytes x y=d3_ h sz bytes x ys:=by
 simp only[V0_,hy]
theorem l4_ (h:a0_)(sz:Nat)(es:List (List AV))(g:Bool)(cap:Option Nat){len:Nat}(hl:len=es.length):q2_ (h++[some (.arr sz es g)]) sz (.ref h.length sz 0 len cap)=some es:=by
 subst hl;simp[q2_]
theorem c_o:∀(r a:List AV)(cs:List AV),cs.length=r.length->setMany (a++cs) a.length r=a++r:=by
 intro r
 induction r with
 | nil=>intro a cs h;simp at h;subst h;rfl
 | cons c r ih=>
  intro a cs h
  cases cs with
  | nil=>simp at h
  | cons d cs=>
   simp only[setMany]
   have:(a++d :: cs).set a.length c=(a++[c])++cs:=by simp
   rw[this]
   have:=ih (a++[c]) cs (by simpa using h)
   simpa using this
theorem K8_ {h:a0_}{n sz j:Nat}{row:List (List AV)}{g:Bool}{cs cs':List AV}{x:AV} (h7:h[n]?=some (some (.arr sz row g))) (h8:row[j]?=some cs)
  (hc:x.cells?=some cs') (hl:cs.length=cs'.length) (hsz:cs'.length=sz) (hs:cs'.all AV.scalar=true):
  Y8_ h sz (.ptr n sz j 0) x=some (h.set n (some (.arr sz (row.set j cs') g))):=by
 have hj:=(J_w.1 h8).1
 simp only[Y8_,h7,hc]
 rw[if_pos ⟨trivial,hsz,by omega,hj,hs⟩]
 have:row.modify j (λx=>setMany x 0 cs')=row.set j cs':=by
  apply K_0
  intro i
  rw[M_j,L_t]
  by_cases e:j=i
  ·subst e
   have:=c_o cs' [] cs hl
   simp only[List.nil_append,K_d]at this
   obtain⟨_,rfl⟩:=J_w.1 h8
   simp[hj,this]
  ·simp[e]
 rw[this]
def E_n (k:IntKind)(a b:Int):Int:=k.wrap (BitVec.ofInt k.bits a ^^^ BitVec.ofInt k.bits b).toNat
theorem B_l (k:IntKind)(a b:Int):V2_ .xor (.int k a) (.int k b)=some (.int k (E_n k a b)):=by simp[V2_,x_a,E_n]
def n_k (b:Option (Option a5_))(sz i:Nat):Option (List AV):=
 match b with
 | some (some (.arr sz' es _))=>if sz=sz' then es[i]? else none
 | _=>none
theorem e_4 (sz i:Nat)(es:List (List AV))(g:Bool):n_k (some (some (.arr sz es g))) sz i=es[i]?:=by simp[n_k]
theorem k_l (h:a0_)(agg:Bool)(n m sz i o:Nat):o5_ h agg n (.ptr m sz i o)=(n_k h[m]? sz i).bind λe=>w0_ agg n (e.drop o):=by
 simp only[o5_,n_k]
 split
 ·rename_i sz' es g hm
  simp only[hm]
  split<;>rfl
 ·rename_i hm
  split
  ·rename_i sz' es g hm';exact absurd hm' (hm _ _ _)
  ·rfl
theorem q_u (o m sz i o':Nat):f_q o (.ptr m sz i o')=some (.ptr m sz i (o'+o)):=Eq.trans rfl rfl
theorem x_z (m sz i o:Nat):G_4 (.ptr m sz i o)=some (.ptr m sz i o):=Eq.trans rfl rfl
def z_q (h:a0_)(m n sz i o:Nat)(cs:List AV)(b:Option (Option a5_)):Option a0_:=
 match b with
 | some (some (.arr sz' es g))=>if sz=sz'/\cs.length=n/\o+n<=sz/\i<es.length/\cs.all AV.scalar=true then some (h.set m (some (.arr sz (es.modify i (setMany · o cs)) g))) else none
 | _=>none
theorem q_k (h:a0_)(n m sz i o:Nat)(x:AV):Y8_ h n (.ptr m sz i o) x=x.cells?.bind λcs=>z_q h m n sz i o cs h[m]?:=by
 simp only[Y8_]
 generalize hb:h[m]?=b
 generalize hc:x.cells?=c
 cases c with
 | none=>cases b with
  | none=>rfl
  | some b=>cases b with
   | none=>rfl
   | some b=>cases b<;>rfl
 | some cs=>cases b with
  | none=>rfl
  | some b=>cases b with
   | none=>rfl
   | some b=>cases b<;>rfl
theorem r_y (h:a0_)(m n sz i o:Nat)(cs:List AV)(es:List (List AV))(g:Bool):
  z_q h m n sz i o cs (some (some (.arr sz es g)))=if cs.length=n/\o+n<=sz/\i<es.length/\cs.all AV.scalar=true then some (h.set m (some (.arr sz (es.modify i (setMany · o cs)) g))) else none:=by
 simp[z_q]
theorem p_q (e:List AV)(f:List AV->List AV):[e].modify 0 f=[f e]:=Eq.trans rfl rfl
theorem x3_ (h:a0_)(x:Option a5_):(h++[x])[h.length]?=some x:=by
 rw[show h++[x]=h++[x] by simp,show h.length=h.length+0 from rfl,K_a (K_j _ _),J_9];rfl
theorem F_w (h:a0_)(x x':Option a5_):(h++[x]).set (h.length) x'=h++[x']:=by
 rw[show h++[x]=h++[x] by simp,show h.length=h.length+0 from rfl,K_n _ _ (K_j _ _),J_9];simp
theorem b_z (h:a0_)(x y:Option a5_):(h++[x]++[y])[h.length]?=some x:=by
 rw[show h++[x]++[y]=h++[x,y] by simp,show h.length=h.length+0 from rfl,K_a (K_j _ _),J_9];rfl
theorem F_v (h:a0_)(x y x':Option a5_):(h++[x]++[y]).set (h.length) x'=h++[x']++[y]:=by
 rw[show h++[x]++[y]=h++[x,y] by simp,show h.length=h.length+0 from rfl,K_n _ _ (K_j _ _),J_9];simp
theorem O1_ (h:a0_)(x y:Option a5_):(h++[x]++[y])[h.length+1]?=some y:=by
 rw[show h++[x]++[y]=h++[x,y] by simp,show h.length+1=h.length+1 from rfl,K_a (K_j _ _),J_9];rfl
theorem F_u (h:a0_)(x y y':Option a5_):(h++[x]++[y]).set (h.length+1) y'=h++[x]++[y']:=by
 rw[show h++[x]++[y]=h++[x,y] by simp,show h.length+1=h.length+1 from rfl,K_n _ _ (K_j _ _),J_9];simp
theorem v_s (h:a0_)(x y z:Option a5_):(h++[x]++[y]++[z])[h.length]?=some x:=by
 rw[show h++[x]++[y]++[z]=h++[x,y,z] by simp,show h.length=h.length+0 from rfl,K_a (K_j _ _),J_9];rfl
theorem F_t (h:a0_)(x y z x':Option a5_):(h++[x]++[y]++[z]).set (h.length) x'=h++[x']++[y]++[z]:=by
 rw[show h++[x]++[y]++[z]=h++[x,y,z] by simp,show h.length=h.length+0 from rfl,K_n _ _ (K_j _ _),J_9];simp
theorem x_q (h:a0_)(x y z:Option a5_):(h++[x]++[y]++[z])[h.length+1]?=some y:=by
 rw[show h++[x]++[y]++[z]=h++[x,y,z] by simp,show h.length+1=h.length+1 from rfl,K_a (K_j _ _),J_9];rfl
theorem F_s (h:a0_)(x y z y':Option a5_):(h++[x]++[y]++[z]).set (h.length+1) y'=h++[x]++[y']++[z]:=by
 rw[show h++[x]++[y]++[z]=h++[x,y,z] by simp,show h.length+1=h.length+1 from rfl,K_n _ _ (K_j _ _),J_9];simp
theorem B_k (h:a0_)(x y z:Option a5_):(h++[x]++[y]++[z])[h.length+1+1]?=some z:=by
 rw[show h++[x]++[y]++[z]=h++[x,y,z] by simp,show h.length+1+1=h.length+2 from rfl,K_a (K_j _ _),J_9];rfl
theorem F_r (h:a0_)(x y z z':Option a5_):(h++[x]++[y]++[z]).set (h.length+1+1) z'=h++[x]++[y]++[z']:=by
 rw[show h++[x]++[y]++[z]=h++[x,y,z] by simp,show h.length+1+1=h.length+2 from rfl,K_n _ _ (K_j _ _),J_9];simp
theorem G_0 (h:a0_)(x y z u:Option a5_):(h++[x]++[y]++[z]++[u])[h.length]?=some x:=by
 rw[show h++[x]++[y]++[z]++[u]=h++[x,y,z,u] by simp,show h.length=h.length+0 from rfl,K_a (K_j _ _),J_9];rfl
theorem F_q (h:a0_)(x y z u x':Option a5_):(h++[x]++[y]++[z]++[u]).set (h.length) x'=h++[x']++[y]++[z]++[u]:=by
 rw[show h++[x]++[y]++[z]++[u]=h++[x,y,z,u] by simp,show h.length=h.length+0 from rfl,K_n _ _ (K_j _ _),J_9];simp
theorem G_z (h:a0_)(x y z u:Option a5_):(h++[x]++[y]++[z]++[u])[h.length+1]?=some y:=by
 rw[show h++[x]++[y]++[z]++[u]=h++[x,y,z,u] by simp,show h.length+1=h.length+1 from rfl,K_a (K_j _ _),J_9];rfl
theorem F_p (h:a0_)(x y z u y':Option a5_):(h++[x]++[y]++[z]++[u]).set (h.length+1) y'=h++[x]++[y']++[z]++[u]:=by
 rw[show h++[x]++[y]++[z]++[u]=h++[x,y,z,u] by simp,show h.length+1=h.length+1 from rfl,K_n _ _ (K_j _ _),J_9];simp
theorem G_y (h:a0_)(x y z u:Option a5_):(h++[x]++[y]++[z]++[u])[h.length+1+1]?=some z:=by
 rw[show h++[x]++[y]++[z]++[u]=h++[x,y,z,u] by simp,show h.length+1+1=h.length+2 from rfl,K_a (K_j _ _),J_9];rfl
theorem F_o (h:a0_)(x y z u z':Option a5_):(h++[x]++[y]++[z]++[u]).set (h.length+1+1) z'=h++[x]++[y]++[z']++[u]:=by
 rw[show h++[x]++[y]++[z]++[u]=h++[x,y,z,u] by simp,show h.length+1+1=h.length+2 from rfl,K_n _ _ (K_j _ _),J_9];simp
theorem G_x (h:a0_)(x y z u:Option a5_):(h++[x]++[y]++[z]++[u])[h.length+1+1+1]?=some u:=by
 rw[show h++[x]++[y]++[z]++[u]=h++[x,y,z,u] by simp,show h.length+1+1+1=h.length+3 from rfl,K_a (K_j _ _),J_9];rfl
theorem F_n (h:a0_)(x y z u u':Option a5_):(h++[x]++[y]++[z]++[u]).set (h.length+1+1+1) u'=h++[x]++[y]++[z]++[u']:=by
 rw[show h++[x]++[y]++[z]++[u]=h++[x,y,z,u] by simp,show h.length+1+1+1=h.length+3 from rfl,K_n _ _ (K_j _ _),J_9];simp
theorem G_w (h:a0_)(x y z u v:Option a5_):(h++[x]++[y]++[z]++[u]++[v])[h.length]?=some x:=by
 rw[show h++[x]++[y]++[z]++[u]++[v]=h++[x,y,z,u,v] by simp,show h.length=h.length+0 from rfl,K_a (K_j _ _),J_9];rfl
theorem F_m (h:a0_)(x y z u v x':Option a5_):(h++[x]++[y]++[z]++[u]++[v]).set (h.length) x'=h++[x']++[y]++[z]++[u]++[v]:=by
 rw[show h++[x]++[y]++[z]++[u]++[v]=h++[x,y,z,u,v] by simp,show h.length=h.length+0 from rfl,K_n _ _ (K_j _ _),J_9];simp
theorem G_v (h:a0_)(x y z u v:Option a5_):(h++[x]++[y]++[z]++[u]++[v])[h.length+1]?=some y:=by
 rw[show h++[x]++[y]++[z]++[u]++[v]=h++[x,y,z,u,v] by simp,show h.length+1=h.length+1 from rfl,K_a (K_j _ _),J_9];rfl
theorem F_l (h:a0_)(x y z u v y':Option a5_):(h++[x]++[y]++[z]++[u]++[v]).set (h.length+1) y'=h++[x]++[y']++[z]++[u]++[v]:=by
 rw[show h++[x]++[y]++[z]++[u]++[v]=h++[x,y,z,u,v] by simp,show h.length+1=h.length+1 from rfl,K_n _ _ (K_j _ _),J_9];simp
theorem G_u (h:a0_)(x y z u v:Option a5_):(h++[x]++[y]++[z]++[u]++[v])[h.length+1+1]?=some z:=by
 rw[show h++[x]++[y]++[z]++[u]++[v]=h++[x,y,z,u,v] by simp,show h.length+1+1=h.length+2 from rfl,K_a (K_j _ _),J_9];rfl
theorem F_k (h:a0_)(x y z u v z':Option a5_):(h++[x]++[y]++[z]++[u]++[v]).set (h.length+1+1) z'=h++[x]++[y]++[z']++[u]++[v]:=by
 rw[show h++[x]++[y]++[z]++[u]++[v]=h++[x,y,z,u,v] by simp,show h.length+1+1=h.length+2 from rfl,K_n _ _ (K_j _ _),J_9];simp
theorem G_t (h:a0_)(x y z u v:Option a5_):(h++[x]++[y]++[z]++[u]++[v])[h.length+1+1+1]?=some u:=by
 rw[show h++[x]++[y]++[z]++[u]++[v]=h++[x,y,z,u,v] by simp,show h.length+1+1+1=h.length+3 from rfl,K_a (K_j _ _),J_9];rfl
theorem F_j (h:a0_)(x y z u v u':Option a5_):(h++[x]++[y]++[z]++[u]++[v]).set (h.length+1+1+1) u'=h++[x]++[y]++[z]++[u']++[v]:=by
 rw[show h++[x]++[y]++[z]++[u]++[v]=h++[x,y,z,u,v] by simp,show h.length+1+1+1=h.length+3 from rfl,K_n _ _ (K_j _ _),J_9];simp
theorem G_s (h:a0_)(x y z u v:Option a5_):(h++[x]++[y]++[z]++[u]++[v])[h.length+1+1+1+1]?=some v:=by
 rw[show h++[x]++[y]++[z]++[u]++[v]=h++[x,y,z,u,v] by simp,show h.length+1+1+1+1=h.length+4 from rfl,K_a (K_j _ _),J_9];rfl
theorem F_i (h:a0_)(x y z u v v':Option a5_):(h++[x]++[y]++[z]++[u]++[v]).set (h.length+1+1+1+1) v'=h++[x]++[y]++[z]++[u]++[v']:=by
 rw[show h++[x]++[y]++[z]++[u]++[v]=h++[x,y,z,u,v] by simp,show h.length+1+1+1+1=h.length+4 from rfl,K_n _ _ (K_j _ _),J_9];simp
theorem b_7 (h:a0_)(x:Option a5_):(h++[x]).length=h.length+1:=by simp
theorem i_s (st:St)(x:Opd)(agg:Bool)(n:Nat)(r:List h_u):q5_ st (.cell x agg n :: r)=(o5_ st.h agg n (st.get x)).bind λv=>(q5_ st r).map (v :: ·):=by
 simp only[q5_];cases o5_ st.h agg n (st.get x)<;>cases q5_ st r<;>rfl
theorem Ext.b1 {h:a0_}(x:Option a5_):Ext nof h (h++[x]):=Ext.app _ _ _
theorem Ext.b2 {h:a0_}(x y:Option a5_):Ext nof h (h++[x]++[y]):=(Ext.app nof h [x]).tr (Ext.app _ _ _)
theorem Ext.b3 {h:a0_}(x y z:Option a5_):Ext nof h (h++[x]++[y]++[z]):=(Ext.b2 x y).tr (Ext.app _ _ _)
theorem Ext.b4 {h:a0_}(x y z u:Option a5_):Ext nof h (h++[x]++[y]++[z]++[u]):=(Ext.b3 x y z).tr (Ext.app _ _ _)
theorem Ext.box {h h':a0_}(e:Ext nof h h')(x:Option a5_):Ext nof h (h'++[x]):=e.tr (Ext.app _ _ _)
theorem Rd.scalar {F h}:∀{d:D}{a:AV},Rd F h d a->a.scalar=true:=by
 intro d a hh
 cases d with
 | int k n=>simp only[Rd]at hh;subst hh;rfl
 | bool b=>simp only[Rd]at hh;subst hh;rfl
 | str s=>simp only[Rd]at hh;subst hh;rfl
 | sl sz ds=>
  simp only[Rd]at hh
  obtain⟨es,(⟨rfl,_⟩ | ⟨t,c,rfl⟩ | ⟨n,off,len,cap,row,g,rfl,_⟩),_⟩:=hh<;>rfl
theorem I_l (x:Option a5_):List.replicate 1 x=[x]:=Eq.trans rfl rfl
theorem I_k (h:a0_)(x:Option a5_):h++List.replicate 2 x=h++[x]++[x]:=by simp[List.replicate]
theorem I_j (h:a0_)(x:Option a5_):h++List.replicate 3 x=h++[x]++[x]++[x]:=by simp[List.replicate]
theorem I_i (h:a0_)(x:Option a5_):h++List.replicate 4 x=h++[x]++[x]++[x]++[x]:=by simp[List.replicate]
theorem s_5 (dep:Nat->Nat->Bool)(i j n:Nat)(b:a5_):y7_ dep i [(j,n,b)]=if dep i j=true then [] else [(j,n,b)]:=by
 simp only[y7_,List.filter_cons,List.filter_nil];cases dep i j<;>rfl
theorem i3_ (dep:Nat->Nat->Bool)(i j n:Nat)(b:a5_)(r:List (Nat×Nat×a5_)):y7_ dep i ((j,n,b) :: r)=if dep i j=true then y7_ dep i r else (j,n,b) :: y7_ dep i r:=by
 simp only[y7_,List.filter_cons];cases dep i j<;>rfl
theorem s_3 (masks:List Nat)(i j:Nat):E_a masks i j=decide (masks.getD i 0 / 2^j % 2=1):=by
 simp only[E_a,Nat.testBit_eq_decide_div_mod_eq]
theorem t_y (dep:Nat->Nat->Bool)(lo i:Nat)(l:List (Nat×Nat×a5_))(h:a0_):
  Y1_ dep lo 1 i l h=((l.any λx=>dep i x.1 && x.2.1 == lo) || I2_ h[lo]?):=by simp[Y1_]
theorem d_m (dep:Nat->Nat->Bool)(lo i:Nat)(l:List (Nat×Nat×a5_))(h:a0_):
  Y1_ dep lo 2 i l h=(((l.any λx=>dep i x.1 && x.2.1 == lo) || I2_ h[lo]?) && ((l.any λx=>dep i x.1 && x.2.1 == lo+1) || I2_ h[lo+1]?)):=by
 simp[Y1_,List.range_succ]
theorem p_1 (dep:Nat->Nat->Bool)(lo i:Nat)(l:List (Nat×Nat×a5_))(h:a0_):Y1_ dep lo 0 i l h=true:=by simp[Y1_]
theorem m_c:I2_ (some none)=true:=Eq.trans rfl rfl
theorem pup {h h':a0_}{p:AV}{cs:List AV}(hp:n3_ h p=some cs)(e:Ext nof h h'):n3_ h' p=some cs:=by
 cases p with
 | ptr m sz i o=>exact l_t (F:=λ_=>True) (e.keep _) trivial hp
 | vptr t cs'=>exact hp
 | _=>simp[n3_]at hp
theorem s_z {h:a0_}{p:AV}{cs:List AV}(hp:n3_ h p=some cs)(k o:Nat):f0_ h.length k (A_k o p)=true:=by
 cases p with
 | ptr m sz i o'=>
  simp only[n3_]at hp
  split at hp
  ·rename_i hm
   have:=(J_w.1 hm).1
   simp[A_k,f0_,this]
  ·cases hp
 | vptr t cs'=>rfl
 | _=>simp[n3_]at hp
theorem p_p {h:a0_}{p:AV}{cs:List AV}(hp:n3_ h p=some cs)(k:Nat):f0_ h.length k p=true:=by
 have:=s_z hp k 0
 cases p<;>simp_all[A_k,f0_]
theorem Ext.then {F:Nat->Prop}{h h1 h2:a0_}(e:Ext nof h h1)(e':Ext F h1 h2)(hF:∀m,m<h.length->¬F m):Ext nof h h2:=e.trans e' (λ_ _ x=>x) (λm hm hm'=>hF m hm hm')
theorem w_w {F F':Nat->Prop}{h h':a0_}{k:IntKind}:∀{l:List Int} {ys:List (List AV)},E4_ F h (l.map λn=>[.int k n]) ys->a8_ (l.map λn=>[.int k n]) F' h' ys:=by
 intro l
 induction l with
 | nil=>intro ys hh;exact hh
 | cons n l ih=>
  intro ys hh
  simp only[K_t,E4_,RdL,Rd]at hh
  obtain⟨_,r,rfl,⟨_,_,rfl,rfl,rfl⟩,h2⟩:=hh
  simp only[K_t,a8_,g2_,Own]
  exact⟨_,_,rfl,⟨_,_,rfl,rfl,rfl⟩,ih h2⟩
theorem Ext.setNew {h h2:a0_}{n:Nat}(e:Ext nof h h2)(hn:h.length<=n)(x:Option a5_):Ext nof h (h2.set n x):=
 e.trans (Ext.set (F:=λm=>h.length<=m) x (λ_=>hn)) (λ_ _ x=>x) (λm hm hm'=>by omega)
theorem Rd.up {F h h' d a}(hh:Rd F h d a)(e:Ext nof h h'):Rd F h' d a:=Rd.mono (λ_ x=>x) (e.keep F) _ _ hh
theorem RdL.up {F h h' d a}(hh:RdL F h d a)(e:Ext nof h h'):RdL F h' d a:=RdL.mono (λ_ x=>x) (e.keep F) _ _ hh
theorem Own.scalar {F h}{d:D}{a:AV}(hh:Own d F h a):a.scalar=true:=(Own.rd d (F':=F) (λ_ x=>x) a hh).scalar
attribute [go_sem] List.replicate_zero K_2 K_t K_9 L_m List.nil_append y_z B_7 y_0 B_8 B_6 v_x y_2 y_1 l_6 t_g w_5 l_7 t_m w_9 A_y E_d j_l p_w t_k r_m y_3 y_4 o_t k_7 k_6 A_n A_p t_h w_7 w_6 p_u t_j t_i A_6 A_5 A_7 C_l c9_ a3_ k_1 h_0 r_g r_h o_n w_u A_j A_i o_q k_3 o_r u_q k_i C_s x_g t_4 z_a z_c v_z r_r z_h z_i z_j r_n y_9 z_b v_3 y_7 y_8 z_e z_f z_d v_y v_1 z_g y_6 v_2 r_o D_2 v_4 r_q r_p A_o C_q C_r C_t l_0 x_l x_k x_m B_9 u_z q_s h_1 f_z o_o o_p k_2 z_4 s_a u_t l_x p_m l_y w_l A_a z_5 z_1 z_6 w_j q_n z_2 u_w z_8 x_y A_b x_1 x_0 z_9 w_m k_o z_3 x_v E_h D_5 D_9 B_e B_f B_g B_h B_i B_d take_one l_j l_i i_7 i_8 i_6 u_h q_c u_e q_b u_i u_f q_a u_g o_4 l_d o_1 l_c o_2 l_b o_3 u_0 q_t k_9 i_n s_c k_e g_7 p_s l_5 l_4 C_z A_2 A_1 t_s A_3 B_l e_4 k_l q_u x_z q_k r_y p_q x3_ b_z O1_ v_s x_q B_k G_0 G_z G_y G_x G_w G_v G_u G_t G_s F_w F_v F_u F_t F_s F_r F_q F_p F_o F_n F_m F_l F_k F_j F_i b_7 i_s L_t Nat.left_eq_add Nat.zero_lt_one Nat.lt_add_one Nat.add_eq_left Nat.add_left_cancel_iff Nat.add_right_cancel_iff I_l I_k I_j I_i s_5 s_3 t_y d_m m_c s_6 t_r r_0 C_u M_a List.getD_cons_zero List.getD_cons_succ List.any_nil List.any_cons Bool.false_or Bool.or_false M_q Bool.and_true Bool.true_or beq_self_eq_true true_or or_true p_1 V5_ List.drop_succ_cons L_d List.take_succ_cons List.take_zero List.length_cons K_d List.set_cons_zero List.set_cons_succ K_k K_5 L_i and_true true_and and_self if_true List.all_cons List.all_nil Bool.and_true Bool.and_self K_b if_false K_l K_u
inductive Ty where
 | int (k:IntKind)
 | bool
 | str
 | sl (sz:Nat) (ts:List Ty)
mutual
def E_m:D->Ty->Prop
 | .int k _,t=>t=.int k
 | .bool _,t=>t=.bool
 | .str _,t=>t=.str
 | .sl sz ds,t=>∃ts,t=.sl sz ts/\ds.length<=2^40/\v_e ds ts
def y_p:List D->List Ty->Prop
 | [],ts=>ts=[]
 | d :: ds,l=>∃t ts,l=t :: ts/\E_m d t/\y_p ds ts
def v_e:List (List D)->List Ty->Prop
 | [],_=>True
 | e :: ds,ts=>y_p e ts/\v_e ds ts
end
section
variable {h:a0_} {n sz i:Nat} {row:List (List AV)} {g:Bool} {cs cs':List AV}
end
def slen:AV->Nat
 | .ref _ _ _ len _=>len
 | _=>0
mutual
def D.av:D->AV
 | .int k n=>.int k n
 | .bool b=>.bool b
 | .str s=>.str s
 | .sl sz es=>.vals 0 false sz (D.avLL es)
def D.avL:List D->List AV
 | []=>[]
 | d :: r=>D.av d :: D.avL r
def D.avLL:List (List D)->List (List AV)
 | []=>[]
 | e :: r=>D.avL e :: D.avLL r
end
theorem U8_:∀l:List D,D.avL l=l.map D.av
 | []=>rfl
 | d :: r=>by simp only[D.avL,K_t,U8_ r]
theorem P8_:∀l:List (List D),D.avLL l=l.map D.avL
 | []=>rfl
 | d :: r=>by simp only[D.avLL,K_t,P8_ r]
theorem j7_ (d:D):d.av.scalar=true:=by cases d<;>simp only[D.av]<;>rfl
mutual
theorem s_i (F:Nat->Prop)(h:a0_):∀d:D,Rd F h d d.av
 | .int k n=>by simp only[Rd,D.av]
 | .bool b=>by simp only[Rd,D.av]
 | .str s=>by simp only[Rd,D.av]
 | .sl sz es=>by
  simp only[Rd,D.av]
  exact⟨_,.inr (.inl ⟨0,false,rfl⟩),s_j F h es⟩
theorem e_8 (F:Nat->Prop)(h:a0_):∀l:List D,RdL F h l (D.avL l)
 | []=>by simp only[RdL,D.avL]
 | d :: r=>by simp only[RdL,D.avL];exact⟨_,_,rfl,s_i F h d,e_8 F h r⟩
theorem s_j (F:Nat->Prop)(h:a0_):∀l:List (List D),E4_ F h l (D.avLL l)
 | []=>by simp only[E4_,D.avLL]
 | d :: r=>by simp only[E4_,D.avLL];exact⟨_,_,rfl,e_8 F h d,s_j F h r⟩
end
def P2_ (P:Program)(g:TypeId->Option (List Ty)):List Field->Nat->Option (List Ty)
 | [],_=>some []
 | f :: r,o=>match g f.type with
  | some ts=>if f.offset=o/\P.cellsOf f.type=ts.length then (P2_ P g r (o+ts.length)).map (ts++·) else none
  | none=>none
def c_j (P:Program):Nat->TypeId->Option (List Ty)
 | 0,_=>none
 | n+1,t=>
  match P.underlying t with
  | some .bool=>some [.bool]
  | some (.int k)=>some [.int k]
  | some .string=>some [.str]
  | some (.slice e)=>match c_j P n e with
   | some (x :: ts)=>if P.cellsOf e=(x :: ts).length then some [.sl (P.cellsOf e) (x :: ts)] else none
   | _=>none
  | some (.struct fs)=>match P2_ P (c_j P n) fs.toList 0 with
   | some ts=>if P.cellsOf t=ts.length then some ts else none
   | none=>none
  | _=>none
mutual
def b_0:D->Ty->Prop
 | .int k n,t=>t=.int k/\(Lit.int k n).wf=true
 | .bool _,t=>t=.bool
 | .str _,t=>t=.str
 | .sl sz ds,t=>∃ts,t=.sl sz ts/\f_w ds ts
def s8_:List D->List Ty->Prop
 | [],ts=>ts=[]
 | d :: ds,l=>∃t ts,l=t :: ts/\b_0 d t/\s8_ ds ts
def f_w:List (List D)->List Ty->Prop
 | [],_=>True
 | e :: ds,ts=>s8_ e ts/\f_w ds ts
end
theorem b_d:∀{ds:List D}{ts:List Ty},s8_ ds ts->ds.length=ts.length:=by
 intro ds
 induction ds with
 | nil=>intro ts h;simp only[s8_]at h;subst h;rfl
 | cons d ds ih=>intro ts h;simp only[s8_]at h;obtain⟨t,ts',rfl,_,h⟩:=h;simp[ih h]
theorem v_h:∀{ds ds':List D}{ts ts':List Ty},s8_ ds ts->s8_ ds' ts'->s8_ (ds++ds') (ts++ts'):=by
 intro ds
 induction ds with
 | nil=>intro ds' ts ts' h h';simp only[s8_]at h;subst h;exact h'
 | cons d ds ih=>intro ds' ts ts' h h';simp only[s8_]at h;obtain⟨t,ts1,rfl,h1,h2⟩:=h;simp only[List.cons_append,s8_];exact⟨t,_,rfl,h1,ih h2 h'⟩
theorem v_i:∀{ds:List (List D)} {ts:List Ty},(∀d∈ds,s8_ d ts)->f_w ds ts:=by
 intro ds
 induction ds with
 | nil=>intro ts _;trivial
 | cons e ds ih=>intro ts h;exact⟨h e (by simp),ih λd hd=>h d (by simp[hd])⟩
def Gh.all (w:World):Gh:={N:=0,loc:=λ_=>none,nil:=λ_=>False,live:=λ_=>False,tag:=λ_ _=>False,S:=λb=>b<w.heap.size}
theorem Gam.all (w:World):Gam (Gh.all w) w [] where
 len:=rfl
 live n:=⟨λh=>h.elim,λ⟨⟨_,h,_⟩,_⟩=>by simp at h⟩
 tag _ _ h:=h.elim
 inj _ _ _ h:=h.elim
 liveTag _ _ _ h:=h.elim
 liveS _ _ h:=h.elim
 tagInj _ _ _ h:=h.elim
 tagS _ _ h:=h.elim
 tagLt _ _ h:=h.elim
 sLt _ h:=h
 arr _ _ _ _ _ h:=by simp at h
 nil _ _ _ _ h:=by simp at h
 nilLoc _ h:=h.elim
 map _ _ _ h:=by simp at h
theorem k_f {w:World}{a:Addr}{v:Value}(h:w.cell? a=some v):a.block<w.heap.size:=by
 simp only[World.cell?]at h
 split at h
 ·rename_i hh;exact (K_4.1 hh).1
 ·cases h
theorem u_j {w:World}{a:Addr}{v:Value}(h:w.cell? a=some v):a.spot=none:=by
 simp only[World.cell?]at h
 split at h
 ·split at h
  ·cases h
  ·rename_i hs;simpa using hs
 ·cases h
section
variable {H:Type} {enc:TypeId×Value->H} {P:Program} {w:World} {held:Bool}
theorem Y6_ {a:Addr}{n:Nat}{cs:List Value}(h:w.cells? 0 a n=some cs):cs.length=n/\∀j,j<n->w.cell? (a.add j)=cs[j]?:=by
 simp only[World.cells?,L_f,if_true]at h
 have hl:=mapM_some_length h
 refine⟨by simpa using hl,λj hj=>?_⟩
 exact mapM_some_get h j j (by simp[hj])
theorem r_v:∀(fuel n:Nat)(t:TypeId)(cs:List Value)(x:DataW H×List MemPlace)(ts:List Ty),DataW.trod enc P w 0 (λ_=>true) held fuel t cs=some x->c_j P n t=some ts->
  ∃ds:List D,s8_ ds ts/\ds.length=cs.length/\∀(j:Nat)(d:D)(v:Value),ds[j]?=some d->cs[j]?=some v->V (Gh.all w) w d.av v:=by
 intro fuel
 induction fuel with
 | zero=>intro n t cs x ts h _;simp[DataW.trod]at h
 | succ m ih=>
  intro n t cs x ts h ht
  cases n with
  | zero=>simp[c_j]at ht
  | succ n=>
   simp only[c_j]at ht
   split at ht
   ·rename_i hu
    cases ht
    unfold DataW.trod at h
    rw[hu]at h
    split at h<;>simp_all
    rename_i b
    refine⟨[.bool b],by simp[s8_,b_0],rfl,λj d v hd hv=>?_⟩
    cases j<;>simp at hd hv
    subst hd hv;simp only[D.av];exact .bool b
   ·rename_i k hu
    cases ht
    unfold DataW.trod at h
    rw[hu]at h
    split at h<;>simp_all
    rename_i z heq
    obtain⟨⟨hk,hw⟩,_⟩:=h
    subst heq
    subst hk
    refine⟨[.int _ z],by simp only[s8_,b_0];exact⟨_,_,rfl,⟨rfl,hw⟩,rfl⟩,rfl,λj d v hd hv=>?_⟩
    cases j<;>simp at hd hv
    subst hd hv;simp only[D.av];exact .int _ _
   ·rename_i hu
    cases ht
    unfold DataW.trod at h
    rw[hu]at h
    split at h<;>simp_all
    rename_i s
    refine⟨[.str s],by simp[s8_,b_0],rfl,λj d v hd hv=>?_⟩
    cases j<;>simp at hd hv
    subst hd hv;simp only[D.av];exact .str s
   ·rename_i e hu
    split at ht
    ·rename_i x0 ts0 hte
     split at ht
     ·rename_i hsz
      cases ht
      rcases DataW.trod_slice hu h with⟨rfl,_⟩ | ⟨a,len,cap,elems,rest,n',hfe,rfl,_,_,hlc,_,hel,hget,hrest,_⟩
      ·refine⟨[.sl (P.cellsOf e) []],by simp only[s8_,b_0];exact⟨_,_,rfl,⟨_,rfl,trivial⟩,rfl⟩,rfl,λj d v hd hv=>?_⟩
       cases j<;>simp at hd hv
       subst hd hv;simp only[D.av,D.avLL];exact .valsNil _ _ _
      ·have hn':n'=m:=by omega
       subst hn'
       generalize hq:P.cellsOf e=q at *
       have hq0:0<q:=by rw[hsz];simp
       have one:∀i,i<len->∃ds:List D,s8_ ds (x0 :: ts0)/\∃cs':List Value,w.cells? 0 (a.add (i*q)) q=some cs'/\ds.length=cs'.length /\
         ∀(j:Nat)(d:D)(v:Value),ds[j]?=some d->cs'[j]?=some v->V (Gh.all w) w d.av v:=by
        intro i hi
        have:=hget i hi
        have he:elems[i]?=some (elems[i]'(by omega)):=by rw[J_5]
        rw[he]at this
        obtain⟨cs',hcs,htr⟩:=Option.bind_eq_some_iff.1 this
        obtain⟨ds,h1,h2,h3⟩:=ih n e cs' _ _ htr hte
        exact⟨ds,h1,cs',hcs,h2,h3⟩
       let f:Nat->List D:=λi=>if hi:i<len then Classical.choose (one i hi) else []
       have hf:∀i (hi:i<len),s8_ (f i) (x0 :: ts0)/\∃cs':List Value,w.cells? 0 (a.add (i*q)) q=some cs'/\(f i).length=cs'.length /\
         ∀(j:Nat)(d:D)(v:Value),(f i)[j]?=some d->cs'[j]?=some v->V (Gh.all w) w d.av v:=by
        intro i hi
        have:=Classical.choose_spec (one i hi)
        simp only[f,dif_pos hi];exact this
       have hspot:cap≠0->a.spot=none:=by
        intro hc
        have some0:∃cs',w.cells? 0 (a.add (0*q)) q=some cs':=by
         rcases Nat.eq_zero_or_pos len with h0 | h0
         ·obtain⟨hr1,hr2⟩:=hrest rfl
          have:=hr2 0 (by omega)
          rw[h0,M_f]at this
          have he:rest[0]?=some (rest[0]'(by omega)):=by rw[J_5]
          rw[he]at this
          obtain⟨cs',hcs,_⟩:=Option.bind_eq_some_iff.1 this
          exact⟨cs',hcs⟩
         ·obtain⟨_,cs',hcs,_⟩:=hf 0 h0
          exact⟨cs',hcs⟩
        obtain⟨cs',hcs⟩:=some0
        obtain⟨hl,hg⟩:=Y6_ hcs
        have:=hg 0 hq0
        rw[J_5 (by omega)]at this
        have:=u_j this
        simpa [Addr.add] using this
       have hgc:∀i j c,l1_ (D.avLL ((List.range len).map f)) i j=some c->i<len/\∃d,(f i)[j]?=some d/\c=d.av:=by
        intro i j c hc
        simp only[l1_,P8_,K_s,List.map_map]at hc
        rcases L_3 i len with hi | hi
        ·rw[List.getElem?_range hi]at hc
         simp only[L_m,L_i,Function.comp,U8_,K_s,J_7]at hc
         obtain⟨d,h1,h2⟩:=hc
         exact⟨hi,d,h1,h2.symm⟩
        ·rw[K_3 (by simpa using hi)]at hc;simp at hc
       have hcell:∀i j c,l1_ (D.avLL ((List.range len).map f)) i j=some c->∃v,w.cell? ⟨a.block,a.off+(i*q+j),none⟩=some v/\V (Gh.all w) w c v:=by
        intro i j c hc
        obtain⟨hi,d,hd,rfl⟩:=hgc i j c hc
        obtain⟨_,cs',hcs,hl,hV⟩:=hf i hi
        obtain⟨hl',hg⟩:=Y6_ hcs
        have hj:j<q:=by have:=(J_w.1 hd).1;omega
        have hcj:cs'[j]?=some (cs'[j]'(by omega)):=by rw[J_5]
        have hv:=hg j hj
        rw[hcj]at hv
        have hs:=hspot (by omega)
        rw[O2_ (a:=a.add (i*q)) (by rw[O2_ hs]),O2_ hs]at hv
        refine⟨_,?_,hV j d _ hd hcj⟩
        rw[<-hv];simp[J_8]
       refine⟨[.sl q ((List.range len).map f)],?_,rfl,λj d v hd hv=>?_⟩
       ·simp only[s8_,b_0]
        refine⟨_,_,rfl,⟨_,rfl,v_i λd hd=>?_⟩,rfl⟩
        obtain⟨i,hi,rfl⟩:=L_v.1 hd
        exact (hf i (by simpa using hi)).1
       ·cases j<;>simp at hd hv
        subst hd hv
        simp only[D.av]
        have hlen:(D.avLL ((List.range len).map f)).length=len:=by simp[P8_]
        have:=V.vals (G:=Gh.all w) (w:=w) 0 false q (D.avLL ((List.range len).map f)) a cap
         (λi j=>(w.cell? ⟨a.block,a.off+(i*q+j),none⟩).getD undef) (by omega) (by simp) hspot ?_ ?_ ?_ ?_
        ·rw[hlen]at this;exact this
        ·intro hne
         have h0:0<len:=by
          rcases Nat.eq_zero_or_pos len with h0 | h0
          ·exact absurd (J_3 (by omega)) hne
          ·exact h0
         obtain⟨_,cs',hcs,hl,hV⟩:=hf 0 h0
         obtain⟨hl',hg⟩:=Y6_ hcs
         have:=hg 0 hq0
         rw[J_5 (by omega)]at this
         have:=k_f this
         simpa [Addr.add,Gh.prot,Gh.all] using this
        ·intro e' he'
         rw[P8_]at he'
         simp only[List.map_map,L_v]at he'
         obtain⟨i,hi,rfl⟩:=he'
         have hi':i<len:=by simpa using hi
         obtain⟨h1,cs',hcs,hl,_⟩:=hf i hi'
         obtain⟨hl',_⟩:=Y6_ hcs
         simp only[Function.comp,U8_]
         refine⟨by simp;omega,?_⟩
         rw[L_h]
         intro z hz
         obtain⟨d,_,rfl⟩:=L_v.1 hz
         exact j7_ d
        ·intro i j c hc
         obtain⟨v,hv,_⟩:=hcell i j c hc
         simp[hv]
        ·intro i j c hc
         obtain⟨v,hv,hV⟩:=hcell i j c hc
         simp[hv,hV]
     ·cases ht
    ·cases ht
   ·rename_i fs hu
    obtain⟨hts1,hcl⟩:P2_ P (c_j P n) fs.toList 0=some ts/\P.cellsOf t=ts.length:=by
     split at ht
     ·split at ht
      ·rename_i h1 h2;cases ht;exact⟨h1,h2⟩
      ·cases ht
     ·cases ht
    obtain⟨xs,n',hfe,_,hlen,hxl,hfd⟩:=DataW.trod_struct hu h
    have hn':n'=m:=by omega
    subst hn'
    have key:∀(k:Nat)(r:List Field)(o:Nat)(ts:List Ty),fs.toList.drop k=r->P2_ P (c_j P n) r o=some ts->o<=cs.length->
      ∃ds:List D,s8_ ds ts/\o+ds.length<=cs.length/\∀(j:Nat)(d:D)(v:Value),ds[j]?=some d->cs[o+j]?=some v->V (Gh.all w) w d.av v:=by
     intro k r
     induction r generalizing k with
     | nil=>
      intro o ts _ hts ho
      simp only[P2_,Option.some.injEq]at hts
      subst hts
      exact⟨[],by simp[s8_],by simpa using ho,λj d v hd=>by simp at hd⟩
     | cons f r ihr=>
      intro o ts hk hts ho
      simp only[P2_]at hts
      split at hts
      ·rename_i tf htf
       split at hts
       ·rename_i hoff
        obtain⟨h1,h2⟩:=hoff
        simp only[J_7]at hts
        obtain⟨tr,htr,rfl⟩:=hts
        have hfk:fs[k]?=some f:=by
         have:(fs.toList.drop k)[0]?=some f:=by rw[hk];rfl
         simpa using this
        have hklt:k<fs.size:=(K_4.1 hfk).1
        have:=hfd k f hfk
        have hxk:xs[k]?=some (xs[k]'(by omega)):=by rw[J_5]
        rw[hxk]at this
        obtain⟨d1,g1,g2,g3⟩:=ih n f.type _ _ _ this htf
        have hd1:=b_d g1
        simp only[K_i,K_o,h1,h2]at g2
        have ho':o+tf.length<=cs.length:=by omega
        have hk':fs.toList.drop (k+1)=r:=by
         rw[<-List.drop_drop,hk];rfl
        obtain⟨d2,q1,q2,q3⟩:=ihr (k+1) (o+tf.length) tr hk' htr ho'
        refine⟨d1++d2,v_h g1 q1,by simp;omega,λj d v hd hv=>?_⟩
        rw[K_q]at hd
        split at hd
        ·rename_i hj
         refine g3 j d v hd ?_
         rw[L_c (by rw[h2];omega),K_m,h1];exact hv
        ·rename_i hj
         refine q3 (j-d1.length) d v hd ?_
         rw[show o+tf.length+(j-d1.length)=o+j by omega];exact hv
       ·cases hts
      ·cases hts
    obtain⟨ds,g1,g2,g3⟩:=key 0 fs.toList 0 ts rfl hts1 (L_f _)
    exact⟨ds,g1,by rw[b_d g1,<-hcl,hlen],λj d v hd hv=>g3 j d v hd (by rw[M_f];exact hv)⟩
   ·cases ht
def I1_ (P:Program)(t:TypeId):Bool:=
 match P.underlying t with
 | some (.struct _)=>true
 | _=>false
def shapes (P:Program)(n:Nat):List TypeId->Option (List (Bool×List Ty))
 | []=>some []
 | t :: r=>match c_j P n t,shapes P n r with
  | some ts,some l=>some ((I1_ P t,ts) :: l)
  | _,_=>none
def D_a (b:Bool)(ds:List D):AV:=if b then .agg (D.avL ds) else match ds with
 | [d]=>d.av
 | _=>.top
def H3_:List (List D)->List (Bool×List Ty)->Prop
 | [],l=>l=[]
 | d :: ds,l=>∃s r,l=s :: r/\s8_ d s.2/\H3_ ds r
def n_3:List (List D)->List (Bool×List Ty)->List AV
 | d :: ds,s :: r=>D_a s.1 d :: n_3 ds r
 | _,_=>[]
theorem g_h {r:Reach}{b0:Nat}{t:TypeId}{v:Value}(hs:I1_ P t=true)(hv:Value.okWide P w r b0 t v):∃cs,v=.agg cs:=by
 unfold I1_ at hs
 unfold Value.okWide at hv
 split at hs
 ·rename_i fs hu
  rw[hu]at hv
  obtain⟨cs,rfl,_⟩:=hv
  exact⟨cs,rfl⟩
 ·cases hs
theorem p_o {r:Reach}{b0:Nat}{t:TypeId}{v:Value}{n:Nat}{ts:List Ty}(ht:c_j P n t=some ts)(hs:I1_ P t=false)(hv:Value.okWide P w r b0 t v):v.cells=#[v]:=by
 unfold I1_ at hs
 cases n with
 | zero=>simp[c_j]at ht
 | succ n=>
  simp only[c_j]at ht
  unfold Value.okWide Cell.okWide Cell.ok at hv
  split at ht
  ·rename_i hu;rw[hu]at hv;simp only at hv;split at hv<;>simp_all[Value.cells]
  ·rename_i k hu;rw[hu]at hv;simp only at hv;split at hv<;>simp_all[Value.cells]
  ·rename_i hu;rw[hu]at hv;simp only at hv;split at hv<;>simp_all[Value.cells]
  ·rename_i e hu;rw[hu]at hv;simp only at hv;split at hv<;>simp_all[Value.cells]
  ·rename_i fs hu;rw[hu]at hs;cases hs
  ·cases ht
theorem u_v {r:Reach}{b0 n:Nat}:∀(tts:List TypeId)(vs:List Value) (ds:List (DataW H)) (ps:List MemPlace) (sh:List (Bool×List Ty)),
  DataW.TrodAll enc P w 0 (λ_=>true) held tts vs ds ps->(∀(j:Nat)(t:TypeId)(v:Value),tts[j]?=some t->vs[j]?=some v->Value.okWide P w r b0 t v)->shapes P n tts=some sh->
  ∃dss,H3_ dss sh/\VL (Gh.all w) w (n_3 dss sh) vs.toArray:=by
 intro tts
 induction tts with
 | nil=>
  intro vs ds ps sh h _ hs
  simp only[shapes,Option.some.injEq]at hs
  subst hs
  cases vs with
  | nil=>exact⟨[],rfl,VL.nil _ _⟩
  | cons v vs=>cases ds<;>simp[DataW.TrodAll]at h
 | cons t tts ih=>
  intro vs ds ps sh h hok hs
  simp only[shapes]at hs
  split at hs
  ·rename_i ts l ht hl
   cases hs
   cases vs with
   | nil=>cases ds<;>simp[DataW.TrodAll]at h
   | cons v vs=>
    cases ds with
    | nil=>simp[DataW.TrodAll]at h
    | cons d ds=>
     obtain⟨p,q,⟨fuel,hd⟩,hrest,_⟩:=h
     obtain⟨dss,h1,h2⟩:=ih vs ds q l hrest (λj t v a b=>hok (j+1) t v (by simpa using a) (by simpa using b)) hl
     obtain⟨d1,g1,g2,g3⟩:=r_v fuel n t _ _ ts hd ht
     refine⟨d1 :: dss,⟨_,_,rfl,g1,h1⟩,?_⟩
     refine VL.cons ?_ h2
     simp only[D_a]
     cases hst:I1_ P t with
     | true=>
      obtain⟨cs,rfl⟩:=g_h hst (hok 0 t v rfl rfl)
      simp only[if_true]
      simp only[Value.cells,Array.length_toList]at g2 g3
      refine .agg _ _ (by rw[U8_];simpa using g2) (λj c v hc hv=>?_)
      rw[U8_,K_s]at hc
      cases hj:d1[j]? with
      | none=>rw[hj]at hc;cases hc
      | some x=>
       rw[hj]at hc
       simp only[L_m,Option.some.injEq]at hc
       subst hc
       exact g3 j x v hj (by simpa using hv)
     | false=>
      have hc1:=p_o ht hst (hok 0 t v rfl rfl)
      rw[hc1]at g2 g3
      simp only[List.length_cons,K_d]at g2
      match d1,g2 with
      | [x],_=>
       simp only[K_b,if_false]
       exact g3 0 x v rfl rfl
  ·cases hs
theorem law_calls {f:FuncId}{sh:List (Bool×List Ty)}{r:Reach}{b0 n:Nat}{tts:List TypeId}{args:Array Value}{ds:List (DataW H)}{ps:List MemPlace}(hs:shapes P n tts=some sh)
  (hlaw:∀dss,H3_ dss sh->a6_ P f (n_3 dss sh) [] λr _=>r=.bool true) (h:DataW.TrodAll enc P w 0 (λ_=>true) held tts args.toList ds ps)
  (hok:∀(j:Nat)(t:TypeId)(v:Value),tts[j]?=some t->args[j]?=some v->Value.okWide P w r b0 t v):
  Calls P f args w λe w'=>e=.returned (.bool true)/\o_e w w'/\∀b,b<w.heap.size->w'.heap[b]?=w.heap[b]?:=by
 obtain⟨dss,h1,h2⟩:=u_v tts args.toList ds ps sh h (λj t v a b=>hok j t v a (by simpa using b)) hs
 refine (hlaw dss h1 (Gh.all w) w args (Gam.all w) (by simpa using h2)).mono ?_
 rintro e w' ⟨v,q,h'',G',rfl,rfl,_,hV,hst⟩
 cases hV
 have hno:∀b,¬(Gh.all w).owned b:=λb hb=>by rcases hb with⟨n,hn,_⟩ | ⟨n,hn⟩<;>exact hn.elim
 exact⟨rfl,hst.grown hno,λb hb=>hst.frame b hb (hno b)⟩
theorem trodAll_stays (hl:laidOutB P=true){W W':World}{sp:Nat->Bool} (hsame:∀b,b<W.heap.size->W'.heap[b]?=W.heap[b]?):∀(tts:List TypeId)(vs:List Value) (ds:List (DataW H)) (ps:List MemPlace),
  (tts.all λt=>P.readableRec t && decide (t<P.types.size))=true->DataW.TrodAll enc P W 0 (λ_=>true) true tts vs ds ps->(∀p∈ps,p.block<W.heap.size)->(∀p∈ps,sp p.block=true)->
  DataW.TrodAll enc P W' 0 sp true tts vs ds ps:=by
 intro tts
 induction tts with
 | nil=>intro vs ds ps _ h _ _;cases vs<;>cases ds<;>first | exact h | simp[DataW.TrodAll]at h
 | cons t tts ih=>
  intro vs ds ps hall h hlt hsp
  simp only[List.all_cons,K_g,decide_eq_true_eq]at hall
  cases vs with
  | nil=>cases ds<;>simp[DataW.TrodAll]at h
  | cons v vs=>
   cases ds with
   | nil=>simp[DataW.TrodAll]at h
   | cons d ds=>
    obtain⟨p,q,h1,h2,rfl⟩:=h
    refine⟨p,q,?_,ih vs ds q (by simpa using hall.2) h2 (λx hx=>hlt x (List.mem_append_right _ hx)) (λx hx=>hsp x (List.mem_append_right _ hx)),rfl⟩
    refine WideElems.Trod_stays hl hall.1.1 hall.1.2 h1 (λx hx=>?_) (λx hx=>hsp x (List.mem_append_left _ hx))
    have:=hsame x.block (hlt x (List.mem_append_left _ hx))
    cases x with
    | cell b o=>exact World.cell?_of_block (w:=W) this
    | map b=>exact this
end
end Glb
