/-
  A library of its own.
-/
import Derived.Test.YtdeiamnhnfmilaaGreatGlbLibA
import Derived.Scope
set_option linter.unusedSimpArgs false
set_option linter.unusedVariables false
namespace Glb
open Go
structure DO where
 i:Nat
 nm:Nat
 hv:Bool
 op:AOp
 guard:Option (Opd×Bool)
structure DS where
 L:Env
 R:Env
 h:a0_
 pend:List (Nat×AV×Bool×Nat×AV)
 lts:List (Nat×Nat×a5_)
def DS.get (d:DS):Opd->AV
 | .loc s=>lk s d.L
 | .tmp s=>lk s d.R
 | .cst v=>v
def DS.val (d:DS)(i:Nat)(v:AV):DS:={d with R:=(i,v) :: d.R}
def f0_ (lo k:Nat):AV->Bool
 | .ptr m _ _ _=>decide (m<lo) || decide (lo+k<=m)
 | _=>true
def E9_:List (Nat×Nat×a5_)->a0_->a0_
 | [],h=>h
 | x :: r,h=>E9_ r (h.set x.2.1 none)
def C5_:List (Nat×Nat×a5_)->a0_->a0_
 | [],h=>h
 | x :: r,h=>(C5_ r h).set x.2.1 (some x.2.2)
def I2_:Option (Option a5_)->Bool
 | some none=>true
 | _=>false
def Y1_ (dep:Nat->Nat->Bool)(lo k i:Nat)(lts:List (Nat×Nat×a5_))(h:a0_):Bool:=
 (List.range k).all λq=>(lts.any λx=>dep i x.1 && x.2.1 == lo+q) || I2_ h[lo+q]?
def d_0 (dep:Nat->Nat->Bool)(i:Nat)(h:a0_):List (Nat×AV×Bool×Nat×AV)->Prop
 | []=>True
 | p :: r=>(dep i p.1=true\/o5_ h p.2.2.1 p.2.2.2.1 p.2.1=some p.2.2.2.2)/\d_0 dep i h r
def e_1 (dep:Nat->Nat->Bool)(lo k i:Nat)(d:DS)(xs:List (Nat×Nat×a5_))(v:AV)(h':a0_)(next:DS->Prop):Prop:=
 Y1_ dep lo k i d.lts h'=true/\d_0 dep i (C5_ xs h') d.pend/\next {d.val i v with h:=C5_ xs h'}
def h_v (P:Program)(dep:Nat->Nat->Bool)(lo k:Nat)(o:DO)(d:DS)(next:DS->Prop):Prop:=
 match o.hv,o.op with
 | false,.r (.load agg n x)=>match o5_ d.h agg n (d.get x) with
  | some v=>f0_ lo k (d.get x)=true/\next {d.val o.i v with pend:=(o.i,d.get x,agg,n,v) :: d.pend}
  | none=>False
 | false,.r ro=>match rev d.get [] ro with
  | some v=>next (d.val o.i v)
  | none=>False
 | false,.h ho=>match f7_ d.get (lo+o.nm) ho with
  | some (v,b)=>next {d.val o.i v with h:=d.h.set (lo+o.nm) (some b),lts:=(o.i,lo+o.nm,b) :: d.lts}
  | none=>False
 | true,.h ho=>
  let xs:=d.lts.filter λx=>!dep o.i x.1
  match hev d.get (E9_ xs d.h) ho with
  | some (v,h')=>e_1 dep lo k o.i d xs v h' next
  | none=>False
 | true,.call f args=>
  let xs:=d.lts.filter λx=>!dep o.i x.1
  f2_ P f=true/\a6_ P f (args.map d.get) (E9_ xs d.h) λv h'=>e_1 dep lo k o.i d xs v h' next
 | true,.callv x args=>
  let xs:=d.lts.filter λx=>!dep o.i x.1
  match d.get x with
  | .clo f fs cs=>f2_ P f=true/\a6_ P f (fs++args.map d.get++cs) (E9_ xs d.h) λv h'=>e_1 dep lo k o.i d xs v h' next
  | _=>False
 | _,_=>False
def vcD (P:Program)(dep:Nat->Nat->Bool)(lo k:Nat):List DO->DS->(DS->Prop)->Prop
 | [],d,K=>K d
 | o :: r,d,K=>
  match o.guard with
  | none=>h_v P dep lo k o d λd'=>vcD P dep lo k r d' K
  | some (x,want)=>match d.get x with
   | .bool b=>(b=want->h_v P dep lo k o d λd'=>vcD P dep lo k r d' K)/\(b=(!want)->vcD P dep lo k r (d.val o.i (.tup [])) K)
   | .tup _=>vcD P dep lo k r (d.val o.i (.tup [])) K
   | _=>False
def r_a (R:Env):List (Nat×Nat)->Env->Env
 | [],L=>L
 | (t,i) :: r,L=>r_a R r (ins t (lk i R) L)
structure DR where
 masks:List Nat
 k:Nat
 items:List DO
 fin:List (Nat×Nat)
def DR.dep (r:DR)(i j:Nat):Bool:=(r.masks.getD i 0).testBit j
def D_n (P:Program)(r:DR)(st:St)(K:St->Prop):Prop:=
 vcD P r.dep st.h.length r.k r.items ⟨st.L,[],st.h++List.replicate r.k none,[],[]⟩ λd=>K ⟨r_a d.R r.fin st.L,[],d.h⟩
def j_f (acc:List Nat)(o:Oper):Nat:=
 o.after.toList.foldl (λs e=>if Region.binds .any e then s ||| 2^e.on ||| acc.getD e.on 0 else s) 0
def j8_:List Oper->List Nat->List Nat
 | [],acc=>acc
 | o :: r,acc=>j8_ r (acc++[j_f acc o])
def h_x (t:Tmp):List Oper->Nat->Option Nat
 | [],_=>none
 | o :: r,i=>if o.dst=some t then some i else h_x t r (i+1)
def trD (keep:Nat->Bool)(ops:List Oper)(masks:List Nat)(i:Nat):Operand->Opd
 | .tmp t=>match h_x t ops 0 with
  | some j=>if (masks.getD i 0).testBit j then .tmp j else if (masks.getD j 0).testBit i && keep t then .loc t else .cst .top
  | none=>if keep t then .loc t else .cst .top
 | .const v=>.cst (ofV v)
 | .global g=>.cst (.raw (.pointer (some ⟨g,0,none⟩)))
 | .func f=>.cst (.clo f [] [])
def AOp.lightQ:AOp->Bool
 | .h (.mk _) | .h (.box _) | .h (.bsl _ _) | .h (.mks _ _ _ _ _)=>true
 | _=>false
def AOp.heavyQ:AOp->Bool
 | .r _=>false
 | a=>!a.lightQ
def U7_ (tr:Operand->Opd)(ops:List Oper):Option (Nat×Bool)->Option (Option (Opd×Bool))
 | none=>some none
 | some (j,want)=>match (ops[j]?).bind (·.dst) with
  | some t=>some (some (tr (.tmp t),want))
  | none=>none
def C_7 (P:Program)(keep:Nat->Bool)(ops:List Oper)(masks:List Nat):List Oper->Nat->Nat->Option (List DO)
 | [],_,_=>some []
 | o :: r,i,c=>
  match cOp P (trD keep ops masks i) o,U7_ (trD keep ops masks i) ops o.guard with
  | some op,some g=>(C_7 P keep ops masks r (i+1) (if op.lightQ then c+1 else c)).map (⟨i,c,op.heavyQ,op,g⟩ :: ·)
  | _,_=>none
def E_b (masks:List Nat)(all:List DO)(o:DO):Nat:=(all.filter λx=>x.hv && (masks.getD o.i 0).testBit x.i).length
def n_u (i f:Nat):List (Nat×Nat)->List (Nat×Nat)
 | []=>[(i,f)]
 | x :: r=>if f<x.2 then (i,f) :: x :: r else x :: n_u i f r
def A_m (masks:List Nat)(all:List DO):List Nat:=
 (all.foldl (λacc o=>n_u o.i (2*E_b masks all o+(if o.hv then 1 else 0)) acc) []).map (·.1)
def K0_ (dep:Nat->Nat->Bool)(k:Nat):List DO->Bool
 | []=>true
 | o :: r=>r.all (λx=>!(x.i == o.i) && !dep o.i x.i && (!o.hv || dep x.i o.i) && (!o.op.lightQ || !x.op.lightQ || !(x.nm == o.nm))) && (!o.op.lightQ || decide (o.nm<k)) && K0_ dep k r
def n_v:List Oper->Bool
 | []=>true
 | o :: r=>(match o.dst with | some t=>r.all λx=>!(x.dst == some t) | none=>true) && n_v r
def g_2:List Oper->Nat->Bool
 | [],_=>true
 | o :: r,i=>o.after.toList.all (λe=>!Region.binds .any e || decide (e.on<i)) && g_2 r (i+1)
def d_n (keep:Nat->Bool):List Oper->Nat->List (Nat×Nat)
 | [],_=>[]
 | o :: r,i=>match o.dst with
  | some t=>if keep t then (t,i) :: d_n keep r (i+1) else d_n keep r (i+1)
  | none=>d_n keep r (i+1)
def cDR (P:Program)(n:Nat)(keep:Nat->Bool)(ops:List Oper):Option DR:=
 let masks:=j8_ ops []
 match C_7 P keep ops masks ops 0 0 with
 | some all=>
  let items:=(A_m masks all).filterMap (all[·]?)
  let k:=(all.filter (·.op.lightQ)).length
  if K0_ (λi j=>(masks.getD i 0).testBit j) k items && n_v ops && g_2 ops 0 && (List.range ops.length).all (λi=>items.any λo=>o.i == i)
    && ops.all (λo=>match o.dst with | some t=>decide (t<n) | none=>true) then
   some ⟨masks,k,items,d_n keep ops 0⟩
  else none
 | none=>none
theorem i_c (acc:List Nat)(j:Nat):∀(l:List Edge)(s:Nat),
  (l.foldl (λs e=>if Region.binds .any e then s ||| 2^e.on ||| acc.getD e.on 0 else s) s).testBit j=true->
  s.testBit j=true\/∃e∈l,Region.binds .any e=true/\(e.on=j\/(acc.getD e.on 0).testBit j=true):=by
 intro l
 induction l with
 | nil=>intro s h;exact .inl h
 | cons e l ih=>
  intro s h
  simp only[M_g]at h
  rcases ih _ h with h1 | ⟨e',he',h1⟩
  ·split at h1
   ·rename_i hb
    simp only[Nat.testBit_or,L_w,Nat.testBit_two_pow,decide_eq_true_eq]at h1
    rcases h1 with (h1 | h1) | h1
    ·exact .inl h1
    ·exact .inr ⟨e,by simp,hb,.inl h1⟩
    ·exact .inr ⟨e,by simp,hb,.inr h1⟩
   ·exact .inl h1
  ·exact .inr ⟨e',by simp[he'],h1⟩
theorem l_3:∀(ops:List Oper)(acc:List Nat),(j8_ ops acc).length=acc.length+ops.length:=by
 intro ops
 induction ops with
 | nil=>intro acc;simp[j8_]
 | cons o r ih=>intro acc;simp only[j8_,ih];simp;omega
theorem Q8_:∀(ops:List Oper)(acc:List Nat)(j:Nat),j<acc.length->(j8_ ops acc).getD j 0=acc.getD j 0:=by
 intro ops
 induction ops with
 | nil=>intro acc j _;rfl
 | cons o r ih=>
  intro acc j hj
  simp only[j8_]
  rw[ih _ j (by simp;omega)]
  simp[J_1 hj]
theorem a_4:∀(ops:List Oper)(acc:List Nat)(i:Nat)(o:Oper),ops[i]?=some o->
  ∃acc':List Nat,(j8_ ops acc).getD (acc.length+i) 0=j_f acc' o/\acc'.length=acc.length+i/\∀j,j<acc.length+i->acc'.getD j 0=(j8_ ops acc).getD j 0:=by
 intro ops
 induction ops with
 | nil=>intro acc i o h;simp at h
 | cons x r ih=>
  intro acc i o h
  cases i with
  | zero=>
   simp at h
   subst h
   refine⟨acc,?_,by simp,λj hj=>?_⟩
   ·simp only[j8_]
    rw[Q8_ _ _ _ (by simp)]
    simp
   ·simp only[j8_]
    rw[Q8_ _ _ _ (by simp;omega)]
    simp at hj
    simp[J_1 hj]
  | succ i=>
   simp only[j8_]
   obtain⟨acc',h1,h2,h3⟩:=ih (acc++[j_f acc x]) i o (by simpa using h)
   simp only[J_z,List.length_cons,K_d]at h1 h2 h3
   exact⟨acc',by rw[<-h1];congr 1;omega,by omega,λj hj=>h3 j (by omega)⟩
theorem g_3 {ops:List Oper} (he:∀(i:Nat)(o:Oper),ops[i]?=some o->∀e∈o.after.toList,Region.binds .any e=true->e.on<i) {i j:Nat} {o:Oper} (ho:ops[i]?=some o)
  (hd:((j8_ ops []).getD i 0).testBit j=true):∃e∈o.after.toList,Region.binds .any e=true/\(e.on=j\/((j8_ ops []).getD e.on 0).testBit j=true):=by
 obtain⟨acc',h1,h2,h3⟩:=a_4 ops [] i o ho
 simp only[K_d,M_f]at h1 h2 h3
 rw[h1]at hd
 unfold j_f at hd
 rcases i_c acc' j _ _ hd with h | ⟨e,hm,hb,h⟩
 ·simp at h
 ·refine⟨e,hm,hb,?_⟩
  rcases h with h | h
  ·exact .inl h
  ·rw[h3 _ (he i o ho e hm hb)]at h
   exact .inr h
theorem j_8:∀(ops:List Oper)(k:Nat),g_2 ops k=true->∀(i:Nat)(o:Oper),ops[i]?=some o->∀e∈o.after.toList,Region.binds .any e=true->e.on<k+i:=by
 intro ops
 induction ops with
 | nil=>intro k _ i o h;simp at h
 | cons x r ih=>
  intro k hk i o h e he hb
  simp only[g_2,K_g]at hk
  cases i with
  | zero=>
   simp at h;subst h
   have:=L_h.1 hk.1 e he
   simp[hb]at this
   omega
  | succ i=>
   have:=ih (k+1) hk.2 i o (by simpa using h) e he hb
   omega
theorem m_o:∀(ops:List Oper),n_v ops=true->∀(i j:Nat)(o p:Oper)(t:Tmp),ops[i]?=some o->ops[j]?=some p->o.dst=some t->p.dst=some t->i=j:=by
 intro ops
 induction ops with
 | nil=>intro _ i j o p t h;simp at h
 | cons x r ih=>
  intro hk i j o p t hi hj ho hp
  simp only[n_v,K_g]at hk
  have aux:∀(q:Oper)(m:Nat),r[m]?=some q->q.dst=some t->x.dst=some t->False:=by
   intro q m hm hq hx
   have h1:=hk.1
   rw[hx]at h1
   have:=L_h.1 h1 q (M_e hm)
   simp[hq]at this
  cases i with
  | zero=>
   simp at hi;subst hi
   cases j with
   | zero=>rfl
   | succ j=>exact (aux p j (by simpa using hj) hp ho).elim
  | succ i=>
   cases j with
   | zero=>simp at hj;subst hj;exact (aux o i (by simpa using hi) ho hp).elim
   | succ j=>rw[ih hk.2 i j o p t (by simpa using hi) (by simpa using hj) ho hp]
theorem k_y (t:Tmp):∀(ops:List Oper)(k:Nat),match h_x t ops k with
  | some j=>k<=j/\∃o,ops[j-k]?=some o/\o.dst=some t
  | none=>∀(i:Nat)(o:Oper),ops[i]?=some o->o.dst≠some t:=by
 intro ops
 induction ops with
 | nil=>intro k;simp[h_x]
 | cons x r ih=>
  intro k
  simp only[h_x]
  by_cases h:x.dst=some t
  ·rw[if_pos h];exact⟨J_4 _,x,by simp,h⟩
  ·rw[if_neg h]
   have:=ih (k+1)
   split at this
   ·rename_i j hj
    obtain⟨h1,o,h2,h3⟩:=this
    exact⟨by omega,o,by rw[show j-k=(j-(k+1))+1 by omega];simpa using h2,h3⟩
   ·rename_i hj
    intro i o hi
    cases i with
    | zero=>simp at hi;subst hi;exact h
    | succ i=>exact this i o (by simpa using hi)
theorem u_m {P:Program}{keep:Nat->Bool}{ops:List Oper}{masks:List Nat}:∀(l:List Oper)(i c:Nat)(all:List DO),C_7 P keep ops masks l i c=some all->
  all.length=l.length/\∀(j:Nat)(d:DO),all[j]?=some d->d.i=i+j/\d.hv=d.op.heavyQ/\∃o,l[j]?=some o/\cOp P (trD keep ops masks (i+j)) o=some d.op/\U7_ (trD keep ops masks (i+j)) ops o.guard=some d.guard:=by
 intro l
 induction l with
 | nil=>intro i c all h;simp only[C_7,Option.some.injEq]at h;subst h;exact⟨rfl,λj d h=>by simp at h⟩
 | cons o r ih=>
  intro i c all h
  simp only[C_7]at h
  split at h
  ·rename_i op g hop hg
   simp only[J_7]at h
   obtain⟨all',hall,rfl⟩:=h
   obtain⟨h1,h2⟩:=ih _ _ _ hall
   refine⟨by simp[h1],λj d hd=>?_⟩
   cases j with
   | zero=>
    simp at hd;subst hd
    exact⟨rfl,rfl,o,rfl,hop,hg⟩
   | succ j=>
    obtain⟨a,b,o',c',e,f⟩:=h2 j d (by simpa using hd)
    have:i+1+j=i+(j+1):=by omega
    rw[this]at a e f
    exact⟨a,b,o',by simpa using c',e,f⟩
  ·cases h
theorem V3_ (acc:List Nat)(j:Nat):∀(l:List Edge)(s:Nat),(s.testBit j=true\/∃e∈l,Region.binds .any e=true/\(e.on=j\/(acc.getD e.on 0).testBit j=true))->
  (l.foldl (λs e=>if Region.binds .any e then s ||| 2^e.on ||| acc.getD e.on 0 else s) s).testBit j=true:=by
 intro l
 induction l with
 | nil=>
  intro s h
  rcases h with h | ⟨e,he,_⟩
  ·exact h
  ·simp at he
 | cons e l ih=>
  intro s h
  simp only[M_g]
  apply ih
  rcases h with h | ⟨e',he',hb,h⟩
  ·left
   split
   ·simp[Nat.testBit_or,h]
   ·exact h
  ·rcases List.mem_cons.1 he' with rfl | he'
   ·left
    rw[if_pos hb]
    rcases h with h | h
    ·simp[Nat.testBit_or,h]
    ·rw[Nat.testBit_or,h,Bool.or_true]
   ·exact .inr ⟨e',he',hb,h⟩
theorem k_a {ops:List Oper} (he:∀(i:Nat)(o:Oper),ops[i]?=some o->∀e∈o.after.toList,Region.binds .any e=true->e.on<i) {i j:Nat} {o:Oper} (ho:ops[i]?=some o)
  {e:Edge} (hm:e∈o.after.toList) (hb:Region.binds .any e=true) (h:e.on=j\/((j8_ ops []).getD e.on 0).testBit j=true):((j8_ ops []).getD i 0).testBit j=true:=by
 obtain⟨acc',h1,h2,h3⟩:=a_4 ops [] i o ho
 simp only[K_d,M_f]at h1 h2 h3
 rw[h1]
 unfold j_f
 refine V3_ acc' j _ _ (.inr ⟨e,hm,hb,?_⟩)
 rcases h with h | h
 ·exact .inl h
 ·rw[h3 _ (he i o ho e hm hb)];exact .inr h
theorem f_f {ops:List Oper}{i:Nat} (h:ops[i]?=none):(j8_ ops []).getD i 0=0:=by
 have hl:(j8_ ops []).length<=i:=by
  rw[l_3]
  simpa using (List.getElem?_eq_none_iff.1 h)
 simp[K_3 hl]
theorem u_c {ops:List Oper} (he:∀(i:Nat)(o:Oper),ops[i]?=some o->∀e∈o.after.toList,Region.binds .any e=true->e.on<i):∀(i j k:Nat),
  ((j8_ ops []).getD i 0).testBit j=true->((j8_ ops []).getD j 0).testBit k=true->((j8_ ops []).getD i 0).testBit k=true:=by
 intro i
 induction i using Nat.strongRecOn with
 | _ i ih=>
  intro j k h1 h2
  cases ho:ops[i]? with
  | none=>rw[f_f ho]at h1;simp at h1
  | some o=>
   obtain⟨e,hm,hb,h⟩:=g_3 he ho h1
   rcases h with h | h
   ·subst h;exact k_a he ho hm hb (.inr h2)
   ·exact k_a he ho hm hb (.inr (ih e.on (he i o ho e hm hb) j k h h2))
theorem C_3 {ops:List Oper} (he:∀(i:Nat)(o:Oper),ops[i]?=some o->∀e∈o.after.toList,Region.binds .any e=true->e.on<i):∀(i j:Nat),
  ((j8_ ops []).getD i 0).testBit j=true->j<i:=by
 intro i
 induction i using Nat.strongRecOn with
 | _ i ih=>
  intro j h1
  cases ho:ops[i]? with
  | none=>rw[f_f ho]at h1;simp at h1
  | some o=>
   obtain⟨e,hm,hb,h⟩:=g_3 he ho h1
   have hlt:=he i o ho e hm hb
   rcases h with h | h
   ·omega
   ·have:=ih e.on hlt j h;omega
structure DF (P:Program)(n:Nat)(keep:Nat->Bool)(ops:List Oper)(r:DR):Prop where
 masks:r.masks=j8_ ops []
 item:∀o∈r.items,o.hv=o.op.heavyQ/\∃op,ops[o.i]?=some op/\cOp P (trD keep ops r.masks o.i) op=some o.op/\U7_ (trD keep ops r.masks o.i) ops op.guard=some o.guard
 ord:K0_ r.dep r.k r.items=true
 dsts:∀(i j:Nat)(o p:Oper)(t:Tmp),ops[i]?=some o->ops[j]?=some p->o.dst=some t->p.dst=some t->i=j
 edges:∀(i:Nat)(o:Oper),ops[i]?=some o->∀e∈o.after.toList,Region.binds .any e=true->e.on<i
 cover:∀i,i<ops.length->∃o∈r.items,o.i=i
 lt:∀op∈ops,∀t,op.dst=some t->t<n
 fin:r.fin=d_n keep ops 0
theorem n_0 {P:Program}{n:Nat}{keep:Nat->Bool}{ops:List Oper}{r:DR}(h:cDR P n keep ops=some r):DF P n keep ops r:=by
 unfold cDR at h
 simp only at h
 split at h
 ·rename_i all hall
  split at h
  ·rename_i hc
   cases h
   simp only[K_g]at hc
   obtain⟨⟨⟨⟨h1,h2⟩,h3⟩,h4⟩,h5⟩:=hc
   refine⟨rfl,λo ho=>?_,h1,m_o ops h2,λi o hi e he hb=>by have:=j_8 ops 0 h3 i o hi e he hb;omega,λi hi=>?_,λop hop t ht=>?_,rfl⟩
   ·simp only[List.mem_filterMap]at ho
    obtain⟨j,_,hj⟩:=ho
    obtain⟨_,hspec⟩:=u_m ops 0 0 all hall
    obtain⟨e1,e2,op,e3,e4,e5⟩:=hspec j o hj
    simp only[M_f]at e1 e4 e5
    subst e1
    exact⟨e2,op,e3,e4,e5⟩
   ·have:=L_h.1 h4 i (by simpa using hi)
    rw[M_m]at this
    obtain⟨o,ho,he⟩:=this
    exact⟨o,ho,by simpa using he⟩
   ·have:=L_h.1 h5 op hop
    rw[ht]at this
    simpa using this
  ·cases h
 ·cases h
theorem h4_ {dep:Nat->Nat->Bool}{k:Nat}:∀{l:List DO},K0_ dep k l=true->∀o∈l,o.op.lightQ=true->o.nm<k:=by
 intro l
 induction l with
 | nil=>intro _ o h;simp at h
 | cons x r ih=>
  intro h o ho hl
  simp only[K0_,K_g]at h
  rcases List.mem_cons.1 ho with rfl | ho
  ·have:=h.1.2;simp[hl]at this;exact this
  ·exact ih h.2 o ho hl
theorem o8_ {dep:Nat->Nat->Bool}{k:Nat}:∀{pre rest:List DO},K0_ dep k (pre++rest)=true->∀o∈pre,∀x∈rest,
  x.i≠o.i/\dep o.i x.i=false/\(o.hv=true->dep x.i o.i=true)/\(o.op.lightQ=true->x.op.lightQ=true->x.nm≠o.nm):=by
 intro pre
 induction pre with
 | nil=>intro rest _ o h;simp at h
 | cons y pre ih=>
  intro rest h o ho x hx
  simp only[List.cons_append,K0_,K_g]at h
  rcases List.mem_cons.1 ho with rfl | ho
  ·have:=L_h.1 h.1.1 x (by simp[hx])
   simp only[K_g,Bool.not_eq_true',L_w,beq_eq_false_iff_ne]at this
   obtain⟨⟨⟨a,b⟩,c⟩,d⟩:=this
   refine⟨a,b,λhv=>?_,λh1 h2=>?_⟩
   ·rcases c with c | c
    ·rw[hv]at c;cases c
    ·exact c
   ·rcases d with (d | d) | d
    ·rw[h1]at d;cases d
    ·rw[h2]at d;cases d
    ·exact d
  ·exact ih h.2 o ho x hx
theorem getElem?_hideL:∀(xs:List (Nat×Nat×a5_)) (h:a0_) (m:Nat),(E9_ xs h).length=h.length /\
  ((∃x∈xs,x.2.1=m)->m<h.length->(E9_ xs h)[m]?=some none)/\((∀x∈xs,x.2.1≠m)->(E9_ xs h)[m]?=h[m]?):=by
 intro xs
 induction xs with
 | nil=>intro h m;exact⟨rfl,λ⟨x,hx,_⟩=>by simp at hx,λ_=>rfl⟩
 | cons x r ih=>
  intro h m
  obtain⟨a,b,c⟩:=ih (h.set x.2.1 none) m
  refine⟨by simpa [E9_] using a,?_,?_⟩
  ·rintro⟨y,hy,hm⟩ hlt
   by_cases hr:∃z∈r,z.2.1=m
   ·exact b hr (by simpa using hlt)
   ·have hr':∀z∈r,z.2.1≠m:=λz hz e=>hr ⟨z,hz,e⟩
    rcases List.mem_cons.1 hy with rfl | hy
    ·simp only[E9_];rw[c hr',hm,J_0 hlt]
    ·exact absurd hm (hr' y hy)
  ·intro hn
   simp only[E9_]
   rw[c (λz hz=>hn z (by simp[hz])),J_x (hn x (by simp))]
theorem getElem?_showL:∀(xs:List (Nat×Nat×a5_)) (h:a0_) (m:Nat),(C5_ xs h).length=h.length/\((∀x∈xs,x.2.1≠m)->(C5_ xs h)[m]?=h[m]?):=by
 intro xs
 induction xs with
 | nil=>intro h m;exact⟨rfl,λ_=>rfl⟩
 | cons x r ih=>
  intro h m
  obtain⟨a,b⟩:=ih h m
  refine⟨by simpa [C5_] using a,λhn=>?_⟩
  simp only[C5_]
  rw[J_x (hn x (by simp)),b (λz hz=>hn z (by simp[hz]))]
theorem n_j:∀(xs:List (Nat×Nat×a5_)) (h:a0_),(xs.map (·.2.1)).Nodup->∀x∈xs,x.2.1<h.length->(C5_ xs h)[x.2.1]?=some (some x.2.2):=by
 intro xs
 induction xs with
 | nil=>intro h _ x hx;simp at hx
 | cons y r ih=>
  intro h hn x hx hlt
  simp only[K_t,M_k,L_v,not_exists,not_and]at hn
  simp only[C5_]
  rcases List.mem_cons.1 hx with rfl | hx
  ·rw[J_0 (by rw[(getElem?_showL r h 0).1];exact hlt)]
  ·rw[J_x (λe=>hn.1 x hx e.symm)]
   exact ih h hn.2 x hx hlt
theorem q_l:∀(E:List (Nat×Nat×a5_)) {G:Gh} {w:World} {h:a0_},Gam G w h->(E.map (·.2.1)).Nodup->
  (∀x∈E,h[x.2.1]?=some (some x.2.2)/\(∃sz es gr,x.2.2=.arr sz es gr)/\∃b,G.loc x.2.1=some b)->
  ∃Gk,Gam Gk w (E9_ E h)/\h3_ G w Gk w/\(∀n,Gk.loc n=G.loc n)/\(∀n,Gk.nil n↔G.nil n) /\
   ∀{G' w' h'},Stp Gk w G' w'->Gam G' w' h'->(∀x∈E,h'[x.2.1]?=some none)->
    ∃G'',Gam G'' w' (C5_ E h')/\Stp G w G'' w'/\h3_ G' w' G'' w'/\(∀n,G''.loc n=G'.loc n)/\(∀n,G''.nil n↔G'.nil n):=by
 intro E
 induction E with
 | nil=>
  intro G w h g _ _
  exact⟨G,g,h3_.refl G w,λ_=>rfl,λ_=>Iff.rfl,fun {G' w' h'} s g' _=>⟨G',g',s,h3_.refl G' w',λ_=>rfl,λ_=>Iff.rfl⟩⟩
 | cons x r ih=>
  intro G w h g hn hE
  simp only[K_t,M_k,L_v,not_exists,not_and]at hn
  obtain⟨hx,⟨sz,es,gr,hb⟩,b,hloc⟩:=hE x (by simp)
  rw[hb]at hx
  have g1:=g.drop hx
  obtain⟨Gk,h1,h2,h3,h4,h5⟩:=ih g1 hn.2 (λy hy=>by
   obtain⟨p,q,s⟩:=hE y (by simp[hy])
   exact⟨by rw[J_x (λe=>hn.1 y hy e.symm)];exact p,q,s⟩)
  refine⟨Gk,h1,(G.keepsKill w x.2.1).trans h2,h3,h4,fun {G' w' h'} s g' hfree=>?_⟩
  obtain⟨G1,a1,a2,a3,a4,a5⟩:=h5 s g' (λy hy=>hfree y (by simp[hy]))
  have hfr:(C5_ r h')[x.2.1]?=some none:=by
   rw[(getElem?_showL r h' x.2.1).2 (λz hz e=>hn.1 z hz e)];exact hfree x (by simp)
  obtain⟨b1,b2⟩:=g.aside hx hloc a2 a1 hfr
  refine⟨G1.revive x.2.1,?_,b2,?_,λn=>a4 n,λn=>a5 n⟩
  ·simp only[C5_,hb];exact b1
  ·exact a3.trans ⟨J_4 _,λ_ _ _ h=>h,λ_ _ h=>h,λt b h=>by cases t<;>exact h,λ_ _ _=>rfl,λ_ _=>rfl⟩
section
variable {P:Program} {n:Nat} {keep:Nat->Bool} {ops:List Oper} {r:DR} {L0:Env} {lo:Nat} {G0:Gh} {w0:World}
def G_5 (P:Program)(r:DR)(L0:Env)(lo:Nat)(d:DS)(o:DO):Prop:=
 ∃γ:Opd->AV,(∀j,r.dep o.i j=true->γ (.tmp j)=lk j d.R)/\(∀t,γ (.loc t)=lk t L0)/\(∀v,γ (.cst v)=v) /\
  ((∃x want,o.guard=some (x,want)/\((γ x=.bool (!want))\/∃cs,γ x=.tup cs)/\lk o.i d.R=.tup []/\(o.op.lightQ=true->d.h[lo+o.nm]?=some none)) \/
   ((o.guard=none\/∃x want,o.guard=some (x,want)/\γ x=.bool want) /\
   ((∃agg nn x,o.op=.r (.load agg nn x)/\f0_ lo r.k (γ x)=true/\o5_ d.h agg nn (γ x)=some (lk o.i d.R)/\(o.i,γ x,agg,nn,lk o.i d.R)∈d.pend) \/
    (∃ro,o.op=.r ro/\(∀h,rev γ h ro=some (lk o.i d.R))) \/
    (∃ho b,o.op=.h ho/\o.op.lightQ=true/\f7_ γ (lo+o.nm) ho=some (lk o.i d.R,b)/\d.h[lo+o.nm]?=some (some b)))))
structure HS (r:DR)(lo:Nat)(listed:Array Bool)(d:DS)(G:Gh)(hS:a0_):Prop where
 len:hS.length=d.h.length
 lok:lo+r.k<=hS.length
 other:∀m,(∀o∈r.items,o.op.lightQ=true->listed.getD o.i false=false->m≠lo+o.nm)->hS[m]?=d.h[m]?
 free:∀o∈r.items,o.op.lightQ=true->listed.getD o.i false=false->hS[lo+o.nm]?=some none/\G.loc (lo+o.nm)=none/\¬G.nil (lo+o.nm)
abbrev G_6 (r:DR)(lo:Nat)(listed:Array Bool)(pre:List DO)(h:a0_)(R:Env)(G:Gh)(x:Nat×Nat×a5_):Prop:=
 ∃o∈pre,o.op.lightQ=true/\x.1=o.i/\x.2.1=lo+o.nm/\(∃sz es gr,x.2.2=.arr sz es gr) /\
  ((∀q∈pre,q.hv=true->listed.getD q.i false=true->r.dep q.i x.1=false)->h[x.2.1]?=some (some x.2.2)) /\
  (listed.getD o.i false=true->∃b,G.loc x.2.1=some b)/\lk x.1 R≠.tup []
structure J (P:Program)(n:Nat)(keep:Nat->Bool)(ops:List Oper)(r:DR)(L0:Env)(lo:Nat)(G0:Gh)(w0:World)(listed:Array Bool)(pre rest:List DO)(d:DS)(G:Gh)(w:World)(a:Act):Prop where
 items:r.items=pre++rest
 lsize:listed.size=ops.length
 clos:∀i j,listed.getD i false=true->r.dep i j=true->listed.getD j false=true
 sub:∀o∈rest,listed.getD o.i false=false
 L:d.L=L0
 A:∀(i:Nat)(op:Oper)(t:Tmp),listed.getD i false=true->ops[i]?=some op->op.dst=some t->V G w (lk i d.R) (a.tmps.getD t undef)
 B:∀t,keep t=true->(∀(i:Nat)(op:Oper),listed.getD i false=true->ops[i]?=some op->op.dst≠some t)->V G w (lk t L0) (a.tmps.getD t undef)
 will:∀o∈pre,listed.getD o.i false=false->G_5 P r L0 lo d o
 heap:∃hS,Gam G w hS/\HS r lo listed d G hS
 ltsN:(d.lts.map (·.2.1)).Nodup
 lts:∀x∈d.lts,G_6 r lo listed pre d.h d.R G x
 ltsC:∀o∈pre,o.op.lightQ=true->(∃x∈d.lts,x.1=o.i)\/d.h[lo+o.nm]?=some none
 later:∀o∈rest,o.op.lightQ=true->d.h[lo+o.nm]?=some none
 size:a.tmps.size=n
 defers:a.defers=[]
 stp:Stp G0 w0 G w
 lo:G0.N<=lo
theorem DF.dep_of (F:DF P n keep ops r):∀i j,r.dep i j=((j8_ ops []).getD i 0).testBit j:=λi j=>by simp only[DR.dep,F.masks]
theorem DF.trans (F:DF P n keep ops r){i j k:Nat}(h1:r.dep i j=true)(h2:r.dep j k=true):r.dep i k=true:=by
 rw[F.dep_of]at *;exact u_c F.edges i j k h1 h2
theorem J.ready {listed:Array Bool}{pre rest:List DO}{d:DS}{G:Gh}{w:World}{a:Act}(F:DF P n keep ops r)(j:J P n keep ops r L0 lo G0 w0 listed pre rest d G w a){i:Nat}
  (hr:i∈Region.ready .any ops.toArray listed):listed.getD i false=false/\i<ops.length/\(∃op,ops[i]?=some op)/\∀q,r.dep i q=true->listed.getD q false=true:=by
 rw[mem_ready]at hr
 obtain⟨h0,o,ho,hall⟩:=hr
 have ho':ops[i]?=some o:=by simpa using ho
 have hlt:i<ops.length:=(J_w.1 ho').1
 refine⟨?_,hlt,⟨o,ho'⟩,λq hq=>?_⟩
 ·have:i<listed.size:=by rw[j.lsize];exact hlt
  simp[this]at h0 ⊢
  exact h0
 ·rw[F.dep_of]at hq
  obtain⟨e,hm,hb,h⟩:=g_3 F.edges ho' hq
  have he:=hall e (by simpa using hm) hb
  rcases h with h | h
  ·rw[<-h];exact he
  ·exact j.clos _ _ he (by rw[F.dep_of];exact h)
theorem J.stands {listed:Array Bool}{pre rest:List DO}{d:DS}{G:Gh}{w:World}{a:Act}(F:DF P n keep ops r)(j:J P n keep ops r L0 lo G0 w0 listed pre rest d G w a){i:Nat}
  (hi:listed.getD i false=false) (hd:∀q,r.dep i q=true->listed.getD q false=true) {γ:Opd->AV}
  (h1:∀q,r.dep i q=true->γ (.tmp q)=lk q d.R) (h2:∀t,γ (.loc t)=lk t L0) (h3:∀v,γ (.cst v)=v):G0_ G w (trD keep ops r.masks i) γ a:=by
 intro x
 cases x with
 | const v=>simp only[trD,h3];exact V.ofV G w v
 | global g=>simp only[trD,h3];exact .raw _
 | func f=>simp only[trD,h3];exact .clo f [] #[] [] #[] rfl (λj c v h=>by simp at h) rfl (λj c v h=>by simp at h)
 | tmp t=>
  have hw:=k_y t ops 0
  simp only[trD]
  split at hw
  ·rename_i q hq
   obtain⟨_,op,hop,hdst⟩:=hw
   simp only[Nat.sub_zero]at hop
   split
   ·rename_i hb
    have hdq:r.dep i q=true:=hb
    rw[h1 q hdq]
    exact j.A q op t (hd q hdq) hop hdst
   ·split
    ·rename_i hb
     simp only[K_g]at hb
     rw[h2]
     refine j.B t hb.2 (λp op' hp hop' hdst'=>?_)
     have:q=p:=F.dsts q p op op' t hop hop' hdst hdst'
     subst this
     have:=j.clos q i hp hb.1
     rw[hi]at this;cases this
    ·rw[h3];exact .top _
  ·rename_i hq
   split
   ·rename_i hk
    rw[h2]
    exact j.B t hk (λp op' _ hop'=>hw p op' hop')
   ·rw[h3];exact .top _
theorem f6_ {listed:Array Bool}{i q:Nat}(hi:i<listed.size):(listed.setIfInBounds i true).getD q false=(decide (q=i) || listed.getD q false):=by
 by_cases h:q=i
 ·subst h;simp[hi]
 ·simp[h,L_s (λe=>h e.symm)]
theorem J.clos' {listed:Array Bool}{pre rest:List DO}{d:DS}{G:Gh}{w:World}{a:Act}(j:J P n keep ops r L0 lo G0 w0 listed pre rest d G w a){i:Nat}(hi:i<ops.length)
  (hd:∀q,r.dep i q=true->listed.getD q false=true):∀x q,(listed.setIfInBounds i true).getD x false=true->r.dep x q=true->(listed.setIfInBounds i true).getD q false=true:=by
 have hs:i<listed.size:=by rw[j.lsize];exact hi
 intro x q hx hdx
 rw[f6_ hs]at hx ⊢
 simp only[L_w,decide_eq_true_eq]at hx ⊢
 rcases hx with rfl | hx
 ·exact .inr (hd q hdx)
 ·exact .inr (j.clos x q hx hdx)
theorem J.AB (F:DF P n keep ops r){listed:Array Bool}{pre rest:List DO}{d:DS}{G:Gh}{w:World}{a:Act}(j:J P n keep ops r L0 lo G0 w0 listed pre rest d G w a){i:Nat}{op:Oper} (ho:ops[i]?=some op)
  {G':Gh} {w':World} (k:h3_ G w G' w') {R':Env} (hR:∀q,q≠i->listed.getD q false=true->lk q R'=lk q d.R) {v:Value} (hv:V G' w' (lk i R') v):
  (∀(q:Nat)(op':Oper)(t:Tmp),(listed.setIfInBounds i true).getD q false=true->ops[q]?=some op'->op'.dst=some t->V G' w' (lk q R') ((a.put op.dst v).tmps.getD t undef)) /\
  (∀t,keep t=true->(∀(q:Nat)(op':Oper),(listed.setIfInBounds i true).getD q false=true->ops[q]?=some op'->op'.dst≠some t)->V G' w' (lk t L0) ((a.put op.dst v).tmps.getD t undef)) /\
  (a.put op.dst v).tmps.size=n/\(a.put op.dst v).defers=[]:=by
 have hlt:i<ops.length:=(J_w.1 ho).1
 have hs:i<listed.size:=by rw[j.lsize];exact hlt
 have hput:∀t,(a.put op.dst v).tmps.getD t undef=if op.dst=some t then v else a.tmps.getD t undef:=by
  intro t
  cases hd:op.dst with
  | none=>simp[Act.put]
  | some s=>
   have hsn:s<a.tmps.size:=by rw[j.size];exact F.lt op (M_e ho) s hd
   simp only[Act.put]
   rw[P6_ hsn]
   by_cases e:t=s
   ·subst e;simp
   ·have:¬s=t:=λx=>e x.symm
    simp[e,this]
 refine⟨λq op' t hq hop' hdst=>?_,λt hk hno=>?_,?_,?_⟩
 ·rw[hput]
  by_cases e:q=i
  ·subst e
   rw[ho]at hop';cases hop'
   rw[if_pos hdst];exact hv
  ·rw[f6_ hs]at hq
   simp only[e,decide_false,Bool.false_or]at hq
   rw[if_neg (λh=>e (F.dsts q i op' op t hop' ho hdst h)),hR q e hq]
   exact (j.A q op' t hq hop' hdst).keep k
 ·rw[hput,if_neg (hno i op (by rw[f6_ hs];simp) ho)]
  exact (j.B t hk (λq op' hq hop'=>hno q op' (by rw[f6_ hs,hq];simp) hop')).keep k
 ·cases hd:op.dst<;>simp[Act.put,j.size]
 ·cases hd:op.dst<;>simp[Act.put,j.defers]
theorem J.nameLt (F:DF P n keep ops r){listed:Array Bool}{pre rest:List DO}{d:DS}{G:Gh}{w:World}{a:Act}(j:J P n keep ops r L0 lo G0 w0 listed pre rest d G w a){o:DO}(ho:o∈pre)(hl:o.op.lightQ=true){m:Nat}(hm:m=lo+o.nm):m<G.N:=by
 obtain⟨hS,g,hs⟩:=j.heap
 have:=h4_ F.ord o (by rw[j.items];simp[ho]) hl
 have:=hs.lok
 rw[<-g.len];omega
theorem J.did (F:DF P n keep ops r){listed:Array Bool}{pre rest:List DO}{d:DS}{G:Gh}{w:World}{a:Act}(j:J P n keep ops r L0 lo G0 w0 listed pre rest d G w a){i:Nat}{op:Oper} (ho:ops[i]?=some op)
    (hd:∀q,r.dep i q=true->listed.getD q false=true) (hrest:∀o∈rest,o.i≠i)
    {G':Gh} {w':World} (k:h3_ G w G' w') {v:Value} (hv:V G' w' (lk i d.R) v) (hst:Stp G0 w0 G' w')
    (hheap:∃hS,Gam G' w' hS/\HS r lo (listed.setIfInBounds i true) d G' hS) (hl:∀x∈d.lts,x.1=i->∃b,G'.loc x.2.1=some b):
    J P n keep ops r L0 lo G0 w0 (listed.setIfInBounds i true) pre rest d G' w' (a.put op.dst v):=by
  have hlt:i<ops.length:=(J_w.1 ho).1
  have hs:i<listed.size:=by rw[j.lsize];exact hlt
  obtain⟨hA,hB,hsz,hdf⟩:=j.AB F ho k (R':=d.R) (λ_ _ _=>rfl) hv
  have sub:∀q,(listed.setIfInBounds i true).getD q false=false->listed.getD q false=false:=by
    intro q hq
    rw[f6_ hs]at hq
    simp only[L_u]at hq
    exact hq.2
  refine {items:=j.items,lsize:=by simp[j.lsize],clos:=j.clos' hlt hd,sub:=λo h=>?_,L:=j.L,A:=hA,B:=hB,will:=λo h hq=>j.will o h (sub _ hq),heap:=hheap,ltsN:=j.ltsN,
           lts:=λx h=>?_,ltsC:=j.ltsC,later:=j.later,size:=hsz,defers:=hdf,stp:=hst,lo:=j.lo}
  · rw[f6_ hs,j.sub o h];simp[hrest o h]
  · obtain⟨o,h1,h2,h3,h4,h5,h6,h7⟩:=j.lts x h
    refine⟨o,h1,h2,h3,h4,h5,λhq=>h6 (λq hq1 hq2 hq3=>hq q hq1 hq2 (by rw[f6_ hs,hq3];simp)),λhli=>?_,h7.2⟩
    rw[f6_ hs]at hli
    simp only[L_w,decide_eq_true_eq]at hli
    rcases hli with e | hli
    · exact hl x h (by rw[h3,e])
    · obtain⟨b,hb⟩:=h7.1 hli
      exact⟨b,k.loc _ _ (j.nameLt F h1 h2 h4) hb⟩
theorem S2_ {dep:Nat->Nat->Bool}{k:Nat}:∀{l:List DO},K0_ dep k l=true->∀o∈l,∀x∈l,(o.i=x.i->o=x)/\(o.op.lightQ=true->x.op.lightQ=true->o.nm=x.nm->o=x):=by
 intro l
 induction l with
 | nil=>intro _ o h;simp at h
 | cons y r ih=>
  intro h o ho x hx
  have hsp:=λz hz=>o8_ (pre:=[y]) (rest:=r) (by simpa using h) y (by simp) z hz
  simp only[K0_,K_g]at h
  rcases List.mem_cons.1 ho with rfl | ho1<;>rcases List.mem_cons.1 hx with rfl | hx1
  ·exact⟨λ_=>rfl,λ_ _ _=>rfl⟩
  ·obtain⟨a,_,_,d⟩:=hsp x hx1
   exact⟨λe=>absurd e.symm a,λh1 h2 e=>absurd e.symm (d h1 h2)⟩
  ·obtain⟨a,_,_,d⟩:=hsp o ho1
   exact⟨λe=>absurd e a,λh1 h2 e=>absurd e (d h2 h1)⟩
  ·exact ih h.2 o ho1 x hx1
theorem E_e {tr:Operand->Opd}{o:Oper}{ro:ROp}(h:cOp P tr o=some (.r ro)):cR P tr o=some ro:=by
 unfold cOp at h
 split at h
 ·rename_i q hq;cases h;exact hq
 ·split at h
  ·cases h
  ·split at h<;>cases h
theorem C_6 {tr:Operand->Opd}{o:Oper}{ho:HOp}(h:cOp P tr o=some (.h ho)):cH P tr o=some ho:=by
 unfold cOp at h
 split at h
 ·cases h
 ·split at h
  ·rename_i q hq;cases h;exact hq
  ·split at h<;>cases h
theorem U3_ {G:Gh}{w:World}{a:Act}{ops:Array Oper}{o:Oper}{j:Nat}{want:Bool}{t:Tmp}{av:AV} (hv:V G w av (a.eval (.tmp t))) (hg:o.guard=some (j,want)) (ht:(ops[j]?).bind (·.dst)=some t):
  (∀b,av=.bool b->Region.wanted o (yielded ops a.tmps)=(b == want))/\(∀cs,av=.tup cs->Region.wanted o (yielded ops a.tmps)=false):=by
 have hy:yielded ops a.tmps j=match a.tmps[t]? with | some (.bool b)=>some b | _=>none:=by
  simp only[yielded,ht,L_i]
  rfl
 have hev:a.eval (.tmp t)=(a.tmps[t]?).getD undef:=by simp[Act.eval]
 rw[hev]at hv
 constructor
 ·rintro b rfl
  cases hq:a.tmps[t]? with
  | none=>rw[hq]at hv;cases hv
  | some v=>
   rw[hq]at hv
   simp only[K_v]at hv
   cases hv
   simp only[Region.wanted,hg,hy,hq]
   cases b<;>cases want<;>rfl
 ·rintro cs rfl
  cases hq:a.tmps[t]? with
  | none=>simp[Region.wanted,hg,hy,hq]
  | some v=>
   rw[hq]at hv
   simp only[K_v]at hv
   cases hv
   simp[Region.wanted,hg,hy,hq]
theorem J.doneWill (F:DF P n keep ops r){listed:Array Bool}{pre rest:List DO}{d:DS}{G:Gh}{w:World}{a:Act}(j:J P n keep ops r L0 lo G0 w0 listed pre rest d G w a){o:DO}(ho:o∈pre)
  (hi:listed.getD o.i false=false) (hd:∀q,r.dep o.i q=true->listed.getD q false=true) {Q:Exit->Act->World->Prop} {K:Act->World->Prop}
  (hK:∀G' w' a',J P n keep ops r L0 lo G0 w0 (listed.setIfInBounds o.i true) pre rest d G' w' a'->K a' w'):wpOp P ops.toArray Q o.i K a w:=by
 have hmem:o∈r.items:=by rw[j.items];simp[ho]
 obtain⟨hhv,op,hop,hcop,hcg⟩:=F.item o hmem
 have hlt:o.i<ops.length:=(J_w.1 hop).1
 have hls:o.i<listed.size:=by rw[j.lsize];exact hlt
 obtain⟨γ,g1,g2,g3,hcase⟩:=j.will o ho hi
 have hstands:=j.stands F hi hd g1 g2 g3
 have hrest:∀x∈rest,x.i≠o.i:=λx hx=>(o8_ (by rw[<-j.items];exact F.ord) o ho x hx).1
 obtain⟨hS,gam,hs⟩:=j.heap
 have same:∀o'∈r.items,o'.i=o.i->o'=o:=λo' h' e=>(S2_ F.ord o' h' o hmem).1 e
 have hopA:ops.toArray[o.i]?=some op:=by simpa using hop
 have hs':o.op.lightQ=false\/d.h[lo+o.nm]?=some none->HS r lo (listed.setIfInBounds o.i true) d G hS:=by
  intro hnl
  have sub:∀q,(listed.setIfInBounds o.i true).getD q false=false->listed.getD q false=false/\q≠o.i:=by
   intro q hq
   rw[f6_ hls]at hq
   simp only[L_u,decide_eq_false_iff_not]at hq
   exact⟨hq.2,hq.1⟩
  refine⟨hs.len,hs.lok,λm hm=>?_,λo' h1 h2 h3=>hs.free o' h1 h2 (sub _ h3).1⟩
  by_cases e:o.op.lightQ=true/\m=lo+o.nm
  ·rcases hnl with hnl | hnl
   ·rw[hnl]at e;cases e.1
   ·rw[e.2,hnl];exact (hs.free o hmem e.1 hi).1
  ·refine hs.other m (λo' h1 h2 h3=>?_)
   by_cases e':o'.i=o.i
   ·have:=same o' h1 e';subst this;exact λx=>e ⟨h2,x⟩
   ·exact hm o' h1 h2 (by rw[f6_ hls,h3];simp[e'])
 unfold wpOp
 simp only[hopA]
 have guardX:∀x want,o.guard=some (x,want)->∃jj t,op.guard=some (jj,want)/\(ops.toArray[jj]?).bind (·.dst)=some t/\x=trD keep ops r.masks o.i (.tmp t):=by
  intro x want hg
  rw[hg]at hcg
  unfold U7_ at hcg
  split at hcg
  ·cases hcg
  ·rename_i jj want' hgo
   split at hcg
   ·rename_i t ht
    cases hcg
    exact⟨jj,t,hgo,by simpa using ht,rfl⟩
   ·cases hcg
 rcases hcase with⟨x,want,hg,hx,hval,hnone⟩ | ⟨hgd,hbody⟩
 · -- it is passed over
  obtain⟨jj,t,hgo,ht,rfl⟩:=guardX x want hg
  obtain⟨s1,s2⟩:=U3_ (hstands (.tmp t)) hgo ht
  have hw:Region.wanted op (yielded ops.toArray a.tmps)=false:=by
   rcases hx with hx | ⟨cs,hx⟩
   ·rw[s1 _ hx];cases want<;>rfl
   ·exact s2 cs hx
  rw[hw]
  simp only[K_b,if_false]
  refine hK G w _ (j.did F hop hd hrest (h3_.refl G w) (by rw[hval];exact .tup [] #[] rfl (λj c v h=>by simp at h)) j.stp ⟨hS,gam,hs' ?_⟩ ?_)
  ·cases hlq:o.op.lightQ with
   | false=>exact .inl rfl
   | true=>exact .inr (hnone hlq)
  ·intro y hy e
   obtain⟨o',h1,h2,h3,h4,h5,h6,h7,h8⟩:=j.lts y hy
   rw[e,hval]at h8
   exact absurd rfl h8
 ·have hw:Region.wanted op (yielded ops.toArray a.tmps)=true:=by
   rcases hgd with hg | ⟨x,want,hg,hx⟩
   ·rw[hg]at hcg
    unfold U7_ at hcg
    split at hcg
    ·rename_i hgo;simp[Region.wanted,hgo]
    ·split at hcg<;>cases hcg
   ·obtain⟨jj,t,hgo,ht,rfl⟩:=guardX x want hg
    rw[(U3_ (hstands (.tmp t)) hgo ht).1 _ hx];simp
  rw[hw]
  simp only[if_true]
  left
  have reads:∀ro,o.op=.r ro->rev γ hS ro=some (lk o.i d.R)->op.wp P a w K Q:=by
   intro ro hro hrev
   rw[hro]at hcop
   obtain⟨u,hu,hV⟩:=c_w (P:=P) gam hstands (E_e hcop) hrev
   unfold Oper.wp
   rw[hu,Oper.upon_value]
   refine hK G w _ (j.did F hop hd hrest (h3_.refl G w) hV j.stp ⟨hS,gam,hs' (.inl (by rw[hro];rfl))⟩ ?_)
   intro y hy e
   obtain⟨o',h1,h2,h3,_⟩:=j.lts y hy
   have:=same o' (by rw[j.items];simp[h1]) (by rw[<-h3,e])
   subst this
   rw[hro]at h2;cases h2
  rcases hbody with⟨agg,nn,x,hro,hres,hld,_⟩ | ⟨ro,hro,hrev⟩ | ⟨ho',b,hro,hlq,hlight,hblk⟩
  ·refine reads _ hro ?_
   simp only[rev]
   rw[<-hld]
   cases hγ:γ x with
   | ptr m sz i' o'=>
    rw[hγ]at hres
    simp only[f0_,L_w,decide_eq_true_eq]at hres
    have hm:hS[m]?=d.h[m]?:=hs.other m (λo' h1 h2 _ e=>by
     have:=h4_ F.ord o' h1 h2
     omega)
    simp only[o5_,hm]
   | _=>rfl
  ·exact reads _ hro (hrev hS)
  ·rw[hro]at hcop
   obtain⟨sz,es,gr,rfl⟩:=S4_ hlight
   obtain⟨s,mkv,he,hm,cells,ty,u,hrun,l1,l2,l3,l4,l5⟩:=S3_ (P:=P) hstands (C_6 hcop) hlight
   obtain⟨f1,f2,f3⟩:=hs.free o hmem hlq hi
   have hN:lo+o.nm<G.N:=j.nameLt F ho hlq rfl
   have kp:=gam.keepsPut f2 f3 (.cells cells ty)
   have gp:=gam.gamPut hN f1 f2 f3 (cells:=cells) (ty:=ty) l1 l2 l3 l4
   have hvv:=l5 (G.put (lo+o.nm) w.heap.size) (lo+o.nm) hN (by simp[Gh.put])
   rw[hm]at hvv
   unfold Oper.wp
   rw[he]
   simp only[Sem.run_bind,hrun,Result.andThen_ok,Sem.run_pure,Oper.upon_value]
   refine hK _ _ _ (j.did F hop hd hrest kp hvv (j.stp.put gam (by have:=j.lo;omega) f2 f3 _ _) ⟨_,gp,?_⟩ ?_)
   ·have hltS:lo+o.nm<hS.length:=by rw[gam.len];exact hN
    refine⟨by simp[hs.len],by simpa using hs.lok,λm hmm=>?_,λo' h1 h2 h3=>?_⟩
    ·by_cases e:m=lo+o.nm
     ·subst e;rw[J_0 hltS,hblk]
     ·rw[J_x (λx=>e x.symm)]
      refine hs.other m (λo' h1 h2 h3=>?_)
      by_cases e':o'.i=o.i
      ·have:=same o' h1 e';subst this;exact e
      ·exact hmm o' h1 h2 (by rw[f6_ hls,h3];simp[e'])
    ·rw[f6_ hls]at h3
     simp only[L_u,decide_eq_false_iff_not]at h3
     have hne:lo+o'.nm≠lo+o.nm:=by
      intro e
      have:=(S2_ F.ord o' h1 o hmem).2 h2 hlq (by omega)
      exact h3.1 (by rw[this])
     obtain⟨a1,a2,a3⟩:=hs.free o' h1 h2 h3.2
     refine⟨by rw[J_x (λx=>hne x.symm)];exact a1,?_,a3⟩
     simp only[Gh.put,hne,if_false];exact a2
   ·intro y hy e
    obtain⟨o',h1,h2,h3,h4,_⟩:=j.lts y hy
    have:=same o' (by rw[j.items];simp[h1]) (by rw[<-h3,e])
    subst this
    exact⟨w.heap.size,by rw[h4];simp[Gh.put]⟩
end
section
variable {P:Program} {n:Nat} {keep:Nat->Bool} {ops:List Oper} {r:DR} {L0:Env} {lo:Nat} {G0:Gh} {w0:World}
theorem t1_ {i q:Nat}{v:AV}{R:Env}(h:q≠i):lk q ((i,v) :: R)=lk q R:=by
 simp only[lk];rw[if_neg (λe=>h e.symm)]
theorem x5_ {i:Nat}{v:AV}{R:Env}:lk i ((i,v) :: R)=v:=by simp[lk]
theorem J.consume (F:DF P n keep ops r){listed:Array Bool}{pre rest:List DO}{d d':DS}{o:DO}{G:Gh}{w:World}{a:Act}(j:J P n keep ops r L0 lo G0 w0 listed pre (o :: rest) d G w a){v:AV}
    (hL:d'.L=d.L) (hR:d'.R=(o.i,v) :: d.R) (hlen:d'.h.length=d.h.length) (hh:∀m,(o.op.lightQ=true->m≠lo+o.nm)->d'.h[m]?=d.h[m]?) (hp:∀p∈d.pend,p∈d'.pend)
    (hw:G_5 P r L0 lo d' o)
    (hlts:(d'.lts=d.lts/\(o.op.lightQ=true->d'.h[lo+o.nm]?=some none))\/(o.op.lightQ=true/\v≠.tup []/\∃sz es gr,d'.lts=(o.i,lo+o.nm,.arr sz es gr) :: d.lts/\d'.h[lo+o.nm]?=some (some (.arr sz es gr)))):
    J P n keep ops r L0 lo G0 w0 listed (pre++[o]) rest d' G w a:=by
  have hitems:r.items=(pre++[o])++rest:=by rw[j.items];simp
  have ho:o∈r.items:=by rw[j.items];simp
  have hi:=j.sub o (by simp)
  have split:=λx hx y hy=>o8_ (pre:=pre) (rest:=o :: rest) (by rw[<-j.items];exact F.ord) x hx y hy
  have preNe:∀x∈pre,o.i≠x.i:=λx hx=>(split x hx o (by simp)).1
  have preNm:∀x∈pre,o.op.lightQ=true->x.op.lightQ=true->lo+x.nm≠lo+o.nm:=λx hx h1 h2 e=>(split x hx o (by simp)).2.2.2 h2 h1 (by omega)
  refine {items:=hitems,lsize:=j.lsize,clos:=j.clos,sub:=λx hx=>j.sub x (by simp[hx]),L:=by rw[hL,j.L],A:=λi op t h1 h2 h3=>?_,B:=j.B,will:=λx hx hxl=>?_,heap:=?_,
           ltsN:=?_,lts:=λx hx=>?_,ltsC:=λx hx hxl=>?_,later:=λx hx hxl=>?_,size:=j.size,defers:=j.defers,stp:=j.stp,lo:=j.lo}
  · rw[hR,t1_ (by rintro rfl;rw[hi]at h1;cases h1)]
    exact j.A i op t h1 h2 h3
  · rcases K_6.1 hx with hx | hx
    · have hne:=preNe x hx
      have hlk:lk x.i d'.R=lk x.i d.R:=by rw[hR,t1_ (λe=>hne e.symm)]
      have hnd:r.dep x.i o.i=false:=(split x hx o (by simp)).2.1
      obtain⟨γ,g1,g2,g3,hc⟩:=j.will x hx hxl
      refine⟨γ,λq hq=>?_,g2,g3,?_⟩
      · rw[hR,t1_ (by rintro rfl;rw[hnd]at hq;cases hq)];exact g1 q hq
      · rw[hlk]
        rcases hc with⟨y,want,h1,h2,h3,h4⟩ | ⟨h1,h2⟩
        · exact .inl ⟨y,want,h1,h2,h3,λhl=>by rw[hh _ (λh'=>preNm x hx h' hl)];exact h4 hl⟩
        · refine .inr ⟨h1,?_⟩
          rcases h2 with⟨agg,nn,y,e1,e2,e3,e4⟩ | ⟨ro,e1,e2⟩ | ⟨hop,b,e1,e2,e3,e4⟩
          · refine .inl ⟨agg,nn,y,e1,e2,?_,hp _ e4⟩
            rw[<-e3]
            cases hγ:γ y with
            | ptr m sz i' o'=>
              rw[hγ]at e2
              simp only[f0_,L_w,decide_eq_true_eq]at e2
              have:d'.h[m]?=d.h[m]?:=hh m (λhl e=>by have:=h4_ F.ord o ho hl;omega)
              simp only[o5_,this]
            | _=>rfl
          · exact .inr (.inl ⟨ro,e1,e2⟩)
          · exact .inr (.inr ⟨hop,b,e1,e2,e3,by rw[hh _ (λh'=>preNm x hx h' e2)];exact e4⟩)
    · have:x=o:=by simpa using hx
      subst this;exact hw
  · obtain⟨hS,g,hs⟩:=j.heap
    refine⟨hS,g,by rw[hlen];exact hs.len,hs.lok,λm hm=>?_,hs.free⟩
    rw[hs.other m hm,hh m (λhl=>hm o ho hl hi)]
  · rcases hlts with⟨e,_⟩ | ⟨hl,_,sz,es,gr,e,_⟩
    · rw[e];exact j.ltsN
    · rw[e]
      simp only[K_t,M_k,L_v,not_exists,not_and]
      refine⟨λx hx e'=>?_,j.ltsN⟩
      obtain⟨q,q1,q2,q3,q4,_⟩:=j.lts x hx
      exact preNm q q1 hl q2 (by rw[<-q4,e'])
  · have old:∀x∈d.lts,G_6 r lo listed (pre++[o]) d'.h d'.R G x:=by
      intro x hx
      obtain⟨q,q1,q2,q3,q4,q5,q6,q7,q8⟩:=j.lts x hx
      refine⟨q,by simp[q1],q2,q3,q4,q5,λhq=>?_,q7,?_⟩
      · rw[hh _ (λhl e=>preNm q q1 hl q2 (by rw[<-q4,e]))]
        exact q6 (λz hz=>hq z (by simp[hz]))
      · rw[hR,q3,t1_ (λe=>preNe q q1 e.symm),<-q3];exact q8
    rcases hlts with⟨e,_⟩ | ⟨hl,hv,sz,es,gr,e,hb⟩
    · rw[e]at hx;exact old x hx
    · rw[e]at hx
      rcases List.mem_cons.1 hx with rfl | hx
      · exact⟨o,by simp,hl,rfl,rfl,⟨sz,es,gr,rfl⟩,λ_=>hb,(λh=>by rw[hi]at h;cases h),by rw[hR,x5_];exact hv⟩
      · exact old x hx
  · rcases K_6.1 hx with hx | hx
    · rcases j.ltsC x hx hxl with⟨y,hy,e⟩ | h
      · left
        rcases hlts with⟨e',_⟩ | ⟨_,_,_,_,_,e',_⟩
        · exact⟨y,by rw[e'];exact hy,e⟩
        · exact⟨y,by rw[e'];simp[hy],e⟩
      · right;rw[hh _ (λhl=>preNm x hx hl hxl)];exact h
    · have:x=o:=by simpa using hx
      subst this
      rcases hlts with⟨_,h⟩ | ⟨_,_,sz,es,gr,e,_⟩
      · exact .inr (h hxl)
      · exact .inl ⟨(x.i,lo+x.nm,.arr sz es gr),by rw[e];simp,rfl⟩
  · have:=(o8_ (pre:=pre++[o]) (rest:=rest) (by rw[<-hitems];exact F.ord) o (by simp) x hx).2.2.2
    rw[hh _ (λhl e=>this hl hxl (by omega))]
    exact j.later x (by simp[hx]) hxl
def B_4 (d:DS)(o:DO):Prop:=o.guard=none\/∃x want,o.guard=some (x,want)/\d.get x=.bool want
theorem A_c {γ:Opd->AV}{ro:ROp}{v:AV}(hne:∀agg nn x,ro≠.load agg nn x) (h:rev γ [] ro=some v):∀h',rev γ h' ro=some v:=by
 intro h'
 rw[<-h]
 cases ro<;>first | rfl | exact absurd rfl (hne _ _ _)
theorem J.advance (F:DF P n keep ops r){K:DS->Prop}{listed:Array Bool}{G:Gh}{w:World}{a:Act}:∀(rest pre:List DO)(d:DS),J P n keep ops r L0 lo G0 w0 listed pre rest d G w a->vcD P r.dep lo r.k rest d K->
  ∃pre' rest' d',J P n keep ops r L0 lo G0 w0 listed pre' rest' d' G w a /\
   ((rest'=[]/\K d')\/∃o q,rest'=o :: q/\o.hv=true/\B_4 d' o/\h_v P r.dep lo r.k o d' λd''=>vcD P r.dep lo r.k q d'' K):=by
 intro rest
 induction rest with
 | nil=>intro pre d j h;exact⟨pre,[],d,j,.inl ⟨rfl,h⟩⟩
 | cons o rest ih=>
  intro pre d j h
  have ho:o∈r.items:=by rw[j.items];simp
  have hL:∀t,d.get (.loc t)=lk t L0:=λt=>by simp only[DS.get,j.L]
  obtain⟨hhv,op,hop,hcop,hcg⟩:=F.item o ho
  have irr:∀{q v},r.dep o.i q=true->lk q ((o.i,v) :: d.R)=lk q d.R:=by
   intro q v hq
   have:=C_3 F.edges o.i q (by rw[<-F.dep_of];exact hq)
   exact t1_ (by omega)
  have skip:∀x want,o.guard=some (x,want)->(d.get x=.bool (!want)\/∃cs,d.get x=.tup cs)->vcD P r.dep lo r.k rest (d.val o.i (.tup [])) K->
    ∃pre' rest' d',J P n keep ops r L0 lo G0 w0 listed pre' rest' d' G w a /\
    ((rest'=[]/\K d')\/∃o q,rest'=o :: q/\o.hv=true/\B_4 d' o/\h_v P r.dep lo r.k o d' λd''=>vcD P r.dep lo r.k q d'' K):=by
   intro x want hg hx hv
   refine ih (pre++[o]) (d.val o.i (.tup [])) (j.consume F (d':=d.val o.i (.tup [])) (v:=.tup []) rfl rfl rfl (λ_ _=>rfl) (λ_ h=>h) ?_ (.inl ⟨rfl,λhl=>j.later o (by simp) hl⟩)) hv
   exact⟨d.get,λq hq=>(irr hq).symm,hL,λ_=>rfl,.inl ⟨x,want,hg,hx,x5_,λhl=>j.later o (by simp) hl⟩⟩
  have go:B_4 d o->h_v P r.dep lo r.k o d (λd''=>vcD P r.dep lo r.k rest d'' K)->
    ∃pre' rest' d',J P n keep ops r L0 lo G0 w0 listed pre' rest' d' G w a /\
    ((rest'=[]/\K d')\/∃o q,rest'=o :: q/\o.hv=true/\B_4 d' o/\h_v P r.dep lo r.k o d' λd''=>vcD P r.dep lo r.k q d'' K):=by
   intro hgo hv
   cases hh:o.hv with
   | true=>exact⟨pre,o :: rest,d,j,.inr ⟨o,rest,rfl,hh,hgo,hv⟩⟩
   | false=>
    have gd:o.guard=none\/∃x want,o.guard=some (x,want)/\d.get x=.bool want:=hgo
    simp only[h_v,hh]at hv
    split at hv
    ·rename_i agg nn x _ hop'
     split at hv
     ·rename_i u hu
      obtain⟨hres,hv⟩:=hv
      have hnl:o.op.lightQ=false:=by rw[hop'];rfl
      refine ih (pre++[o]) _ (j.consume F (d':={d.val o.i u with pend:=(o.i,d.get x,agg,nn,u) :: d.pend}) (v:=u) rfl rfl rfl (λ_ _=>rfl) (λp hp=>List.mem_cons_of_mem _ hp) ?_ (.inl ⟨rfl,λhl=>by rw[hnl]at hl;cases hl⟩)) hv
      refine⟨d.get,λq hq=>(irr hq).symm,hL,λ_=>rfl,.inr ⟨gd,.inl ⟨agg,nn,x,hop',hres,?_,?_⟩⟩⟩
      ·simp only[DS.val,x5_];exact hu
      ·simp only[DS.val,x5_];simp
     ·exact hv.elim
    ·rename_i ro hne _ hop'
     split at hv
     ·rename_i u hu
      have hnl:o.op.lightQ=false:=by rw[hop'];rfl
      refine ih (pre++[o]) _ (j.consume F (d':=d.val o.i u) (v:=u) rfl rfl rfl (λ_ _=>rfl) (λp hp=>hp) ?_ (.inl ⟨rfl,λhl=>by rw[hnl]at hl;cases hl⟩)) hv
      refine⟨d.get,λq hq=>(irr hq).symm,hL,λ_=>rfl,.inr ⟨gd,.inr (.inl ⟨ro,hop',?_⟩)⟩⟩
      simp only[DS.val,x5_]
      exact A_c (λagg nn x e=>hne agg nn x e) hu
     ·exact hv.elim
    ·rename_i ho' _ hop'
     split at hv
     ·rename_i u b hu
      obtain⟨sz,es,gr,rfl⟩:=S4_ hu
      have hlq:o.op.lightQ=true:=by rw[hop'];cases ho'<;>first | rfl | (simp[f7_]at hu)
      have hlen:lo+o.nm<d.h.length:=by
       obtain⟨hS,g,hs⟩:=j.heap
       have:=h4_ F.ord o ho hlq
       have:=hs.lok
       have:=hs.len
       omega
      have hne:u≠.tup []:=by
       rintro rfl
       cases ho'<;>simp only[f7_]at hu<;>(repeat' split at hu)<;>simp at hu
      refine ih (pre++[o]) _ (j.consume F (d':={d.val o.i u with h:=d.h.set (lo+o.nm) (some (.arr sz es gr)),lts:=(o.i,lo+o.nm,.arr sz es gr) :: d.lts}) (v:=u) rfl rfl (by simp) (λm hm=>J_x (λe=>hm hlq e.symm)) (λp hp=>hp) ?_ (.inr ⟨hlq,hne,sz,es,gr,rfl,J_0 hlen⟩)) hv
      refine⟨d.get,λq hq=>(irr hq).symm,hL,λ_=>rfl,.inr ⟨gd,.inr (.inr ⟨ho',.arr sz es gr,hop',hlq,?_,J_0 hlen⟩)⟩⟩
      simp only[DS.val,x5_];exact hu
     ·exact hv.elim
    all_goals first | exact hv.elim | contradiction
  simp only[vcD]at h
  split at h
  ·rename_i hg;exact go (.inl hg) h
  ·rename_i x want hg
   split at h
   ·rename_i b hb
    by_cases e:b=want
    ·subst e;exact go (.inr ⟨x,b,hg,hb⟩) (h.1 rfl)
    ·have e':b=(!want):=by cases b<;>cases want<;>simp_all
     subst e'
     exact skip x want hg (.inl hb) (h.2 rfl)
   ·rename_i cs hb;exact skip x want hg (.inr ⟨cs,hb⟩) h
   ·exact h.elim
end
theorem a_3 {α β:Type}(f:α->β)(p:α->Bool):∀(l:List α),(l.map f).Nodup->((l.filter p).map f).Nodup:=by
 intro l
 induction l with
 | nil=>intro h;exact h
 | cons x r ih=>
  intro h
  simp only[K_t,M_k]at h
  simp only[List.filter_cons]
  split
  ·simp only[K_t,M_k]
   exact⟨λhm=>h.1 (by
    obtain⟨y,hy,e⟩:=L_v.1 hm
    exact L_v.2 ⟨y,(M_p.1 hy).1,e⟩),ih h.2⟩
  ·exact ih h.2
theorem d_o {α β:Type}(f:α->β):∀(l:List α),(l.map f).Nodup->∀x∈l,∀y∈l,f x=f y->x=y:=by
 intro l
 induction l with
 | nil=>intro _ x h;simp at h
 | cons z r ih=>
  intro h x hx y hy e
  simp only[K_t,M_k,L_v,not_exists,not_and]at h
  rcases List.mem_cons.1 hx with rfl | hx1<;>rcases List.mem_cons.1 hy with rfl | hy1
  ·rfl
  ·exact absurd e.symm (h.1 y hy1)
  ·exact absurd e (h.1 x hx1)
  ·exact ih h.2 x hx1 y hy1 e
theorem q_r {dep:Nat->Nat->Bool}{i:Nat}{h:a0_}:∀{l:List (Nat×AV×Bool×Nat×AV)},d_0 dep i h l->∀p∈l,dep i p.1=true\/o5_ h p.2.2.1 p.2.2.2.1 p.2.1=some p.2.2.2.2:=by
 intro l
 induction l with
 | nil=>intro _ p hp;simp at hp
 | cons x r ih=>
  intro h p hp
  rcases List.mem_cons.1 hp with rfl | hp
  ·exact h.1
  ·exact ih h.2 p hp
section
variable {P:Program} {n:Nat} {keep:Nat->Bool} {ops:List Oper} {r:DR} {L0:Env} {lo:Nat} {G0:Gh} {w0:World}
def x2_ (r:DR)(d:DS)(o:DO):List (Nat×Nat×a5_):=d.lts.filter λx=>!r.dep o.i x.1
theorem J.heavyDone (F:DF P n keep ops r){listed:Array Bool}{pre rest:List DO}{d:DS}{G:Gh}{w:World}{a:Act}{o:DO}(j:J P n keep ops r L0 lo G0 w0 listed pre (o :: rest) d G w a)(hv:o.hv=true)
    (hd:∀q,r.dep o.i q=true->listed.getD q false=true) {op:Oper} (hop:ops[o.i]?=some op):
    ∃Gk,Gam Gk w (E9_ (x2_ r d o) d.h)/\h3_ G w Gk w /\
      ∀{G' w' h' v u}{next:DS->Prop},Stp Gk w G' w'->Gam G' w' h'->V G' w' v u->e_1 r.dep lo r.k o.i d (x2_ r d o) v h' next->
        ∃G'',J P n keep ops r L0 lo G0 w0 (listed.setIfInBounds o.i true) (pre++[o]) rest {d.val o.i v with h:=C5_ (x2_ r d o) h'} G'' w' (a.put op.dst u) /\
          next {d.val o.i v with h:=C5_ (x2_ r d o) h'}:=by
  have hitems:r.items=(pre++[o])++rest:=by rw[j.items];simp
  have ho:o∈r.items:=by rw[j.items];simp
  have hi:=j.sub o (by simp)
  have hlt:o.i<ops.length:=(J_w.1 hop).1
  have hls:o.i<listed.size:=by rw[j.lsize];exact hlt
  have split:=λx hx y hy=>o8_ (pre:=pre) (rest:=o :: rest) (by rw[<-j.items];exact F.ord) x hx y hy
  have hnl:o.op.lightQ=false:=by
    have:=(F.item o ho).1
    rw[hv]at this
    cases h:o.op with
    | r ro=>rfl
    | h ho=>rw[h]at this;simpa [AOp.heavyQ] using this.symm
    | call f as=>rfl
    | callv x as=>rfl
  have mem:∀x∈pre,x∈r.items:=λx hx=>by rw[j.items];simp[hx]
  have inj:=λx hx y hy=>S2_ F.ord x hx y hy
  obtain⟨hS,gam,hs⟩:=j.heap
  have kept:∀x∈x2_ r d o,d.h[x.2.1]?=some (some x.2.2):=by
    intro x hx
    obtain⟨hx1,hx2⟩:=M_p.1 hx
    obtain⟨q,q1,q2,q3,q4,q5,q6,q7,q8⟩:=j.lts x hx1
    refine q6 (λz hz hzv hzl=>?_)
    cases hdz:r.dep z.i x.1 with
    | false=>rfl
    | true=>
      have:=F.trans ((split z hz o (by simp)).2.2.1 hzv) hdz
      rw[this]at hx2;simp at hx2
  generalize hE:(x2_ r d o).filter (λx=>listed.getD x.1 false)=E
  have memE:∀x,x∈E↔x∈x2_ r d o/\listed.getD x.1 false=true:=by intro x;rw[<-hE,M_p]
  have memL:∀x,x∈x2_ r d o↔x∈d.lts/\r.dep o.i x.1=false:=by intro x;simp[x2_]
  have nodL:((x2_ r d o).map (·.2.1)).Nodup:=a_3 _ _ _ j.ltsN
  have nodE:(E.map (·.2.1)).Nodup:=by rw[<-hE];exact a_3 _ _ _ nodL
  have inS:∀x∈d.lts,listed.getD x.1 false=true->hS[x.2.1]?=d.h[x.2.1]?:=by
    intro x hx hxl
    obtain⟨q,q1,q2,q3,q4,_⟩:=j.lts x hx
    refine hs.other _ (λo' h1 h2 h3 e=>?_)
    have:=(inj o' h1 q (mem q q1)).2 h2 q2 (by omega)
    subst this
    rw[q3,h3]at hxl;cases hxl
  obtain⟨Gk,gk,kk,lk',nk',back⟩:=q_l E gam nodE (λx hx=>by
    obtain⟨hx1,hx2⟩:=(memE x).1 hx
    obtain⟨hx3,hx4⟩:=(memL x).1 hx1
    obtain⟨q,q1,q2,q3,q4,q5,q6,q7,q8⟩:=j.lts x hx3
    exact⟨by rw[inS x hx3 hx2];exact kept x hx1,q5,q7 (by rw[<-q3];exact hx2)⟩)
  have hid:E9_ E hS=E9_ (x2_ r d o) d.h:=by
    apply K_0
    intro m
    have lE:=(getElem?_hideL E hS m).1
    have lX:=(getElem?_hideL (x2_ r d o) d.h m).1
    rcases L_3 m hS.length with hm | hm
    rotate_left
    · rw[K_3 (by omega),K_3 (by rw[lX,<-hs.len];exact hm)]
    have hm':m<d.h.length:=by rw[<-hs.len];exact hm
    by_cases hx:∃x∈x2_ r d o,x.2.1=m
    · rw[(getElem?_hideL (x2_ r d o) d.h m).2.1 hx hm']
      obtain⟨x,hx1,hx2⟩:=hx
      by_cases hxl:listed.getD x.1 false=true
      · exact (getElem?_hideL E hS m).2.1 ⟨x,(memE x).2 ⟨hx1,hxl⟩,hx2⟩ hm
      · rw[(getElem?_hideL E hS m).2.2 (λy hy e=>by
          have hy':=(memE y).1 hy
          have:=d_o (·.2.1) _ nodL y hy'.1 x hx1 (by simp only[e,hx2])
          subst this;exact hxl hy'.2)]
        obtain⟨q,q1,q2,q3,q4,_⟩:=j.lts x ((memL x).1 hx1).1
        rw[<-hx2,q4]
        exact (hs.free q (mem q q1) q2 (by rw[<-q3];simpa using hxl)).1
    · have hx':∀x∈x2_ r d o,x.2.1≠m:=λx h1 h2=>hx ⟨x,h1,h2⟩
      rw[(getElem?_hideL (x2_ r d o) d.h m).2.2 hx',(getElem?_hideL E hS m).2.2 (λy hy=>hx' y ((memE y).1 hy).1)]
      by_cases hu:∃o'∈r.items,o'.op.lightQ=true/\listed.getD o'.i false=false/\m=lo+o'.nm
      · obtain⟨o',h1,h2,h3,rfl⟩:=hu
        rw[(hs.free o' h1 h2 h3).1]
        rw[j.items]at h1
        rcases K_6.1 h1 with h1 | h1
        · rcases j.ltsC o' h1 h2 with⟨y,hy,e⟩ | h
          · exfalso
            obtain⟨q,q1,q2,q3,q4,_⟩:=j.lts y hy
            have:q=o':=(inj q (mem q q1) o' (mem o' h1)).1 (by rw[<-q3,e])
            subst this
            refine hx' y ((memL y).2 ⟨hy,?_⟩) q4
            cases hdy:r.dep o.i y.1 with
            | false=>rfl
            | true=>have:=hd _ hdy;rw[e,h3]at this;cases this
          · exact h.symm
        · exact (j.later o' h1 h2).symm
      · exact hs.other m (λo' h1 h2 h3 e=>hu ⟨o',h1,h2,h3,e⟩)
  rw[hid]at gk
  refine⟨Gk,gk,kk,fun {G' w' h' v u next} st g' hvu hb=>?_⟩
  obtain⟨hfree,hag,hnext⟩:=hb
  have lenk:Gk.N=d.h.length:=by rw[<-gk.len,(getElem?_hideL (x2_ r d o) d.h 0).1]
  have len':d.h.length<=h'.length:=by rw[g'.len,<-lenk];exact st.keep.N
  have lok:lo+r.k<=d.h.length:=by rw[<-hs.len];exact hs.lok
  have free:∀q,q<r.k->(∃x∈d.lts,r.dep o.i x.1=true/\x.2.1=lo+q)\/h'[lo+q]?=some none:=by
    intro q hq
    have:=L_h.1 hfree q (by simpa using hq)
    simp only[L_w,M_m,K_g,beq_iff_eq]at this
    rcases this with h | h
    · exact .inl h
    · right
      unfold I2_ at h
      split at h
      · assumption
      · cases h
  have freeOf:∀x∈r.items,x.op.lightQ=true->r.dep o.i x.i=false->h'[lo+x.nm]?=some none:=by
    intro x hx hxl hxd
    rcases free x.nm (h4_ F.ord x hx hxl) with⟨y,hy,hyd,e⟩ | h
    · obtain⟨q,q1,q2,q3,q4,_⟩:=j.lts y hy
      have:=(inj q (mem q q1) x hx).2 q2 hxl (by omega)
      subst this
      rw[q3,hxd]at hyd;cases hyd
    · exact h
  obtain⟨G'',g'',st'',k'',l'',n''⟩:=back st g' (λx hx=>by
    obtain⟨hx1,hx2⟩:=(memE x).1 hx
    obtain⟨hx3,hx4⟩:=(memL x).1 hx1
    obtain⟨q,q1,q2,q3,q4,_⟩:=j.lts x hx3
    rw[q4];exact freeOf q (mem q q1) q2 (by rw[<-q3];exact hx4))
  have notIn:∀x∈r.items,x.op.lightQ=true->(∀y∈d.lts,y.1≠x.i)->∀y∈x2_ r d o,y.2.1≠lo+x.nm:=by
    intro x hx hxl hno y hy e
    obtain⟨hy1,_⟩:=(memL y).1 hy
    obtain⟨q,q1,q2,q3,q4,_⟩:=j.lts y hy1
    have:=(inj q (mem q q1) x hx).2 q2 hxl (by omega)
    subst this
    exact hno y hy1 q3
  have showAt:∀x∈x2_ r d o,(C5_ (x2_ r d o) h')[x.2.1]?=some (some x.2.2):=λx hx=>n_j _ h' nodL x hx (by
    obtain⟨q,q1,q2,q3,q4,_⟩:=j.lts x ((memL x).1 hx).1
    have:=h4_ F.ord q (mem q q1) q2
    omega)
  have keepGG:h3_ G w G'' w':=st''.keep
  have hvu':V G'' w' v u:=hvu.keep k''
  obtain⟨hA,hB,hsz,hdf⟩:=j.AB F hop keepGG (R':=(o.i,v) :: d.R) (λq hq _=>t1_ hq) (by rw[x5_];exact hvu')
  have ls':∀q,(listed.setIfInBounds o.i true).getD q false=false->listed.getD q false=false/\q≠o.i:=by
    intro q hq
    rw[f6_ hls]at hq
    simp only[L_u,decide_eq_false_iff_not]at hq
    exact⟨hq.2,hq.1⟩
  refine⟨G'',{items:=hitems,lsize:=by simp[j.lsize],clos:=j.clos' hlt hd,sub:=λx hx=>?_,L:=j.L,A:=hA,B:=hB,will:=λx hx hxl=>?_,heap:=⟨_,g'',?_⟩,ltsN:=j.ltsN,lts:=λx hx=>?_,
                 ltsC:=λx hx hxl=>?_,later:=λx hx hxl=>?_,size:=hsz,defers:=hdf,stp:=j.stp.trans st'',lo:=j.lo},hnext⟩
  · rw[f6_ hls,j.sub x (by simp[hx])]
    have:=(o8_ (pre:=pre++[o]) (rest:=rest) (by rw[<-hitems];exact F.ord) o (by simp) x hx).1
    simp[this]
  · obtain⟨hxl',hxo⟩:=ls' _ hxl
    have hx':x∈pre:=by
      rcases K_6.1 hx with h | h
      · exact h
      · have:x=o:=by simpa using h
        subst this;exact absurd rfl hxo
    have hlk:lk x.i ((o.i,v) :: d.R)=lk x.i d.R:=t1_ hxo
    have hnd:r.dep x.i o.i=false:=(split x hx' o (by simp)).2.1
    have hnd':r.dep o.i x.i=false:=by
      cases h:r.dep o.i x.i with
      | false=>rfl
      | true=>have:=hd _ h;rw[hxl']at this;cases this
    obtain⟨γ,g1,g2,g3,hc⟩:=j.will x hx' hxl'
    refine⟨γ,λq hq=>?_,g2,g3,?_⟩
    · show γ (.tmp q)=lk q ((o.i,v) :: d.R)
      rw[t1_ (by rintro rfl;rw[hnd]at hq;cases hq)];exact g1 q hq
    · simp only[DS.val]
      rw[hlk]
      rcases hc with⟨y,want,h1,h2,h3,h4⟩ | ⟨h1,h2⟩
      · refine .inl ⟨y,want,h1,h2,h3,λhl=>?_⟩
        have hno:∀y∈d.lts,y.1≠x.i:=by
          intro y hy e
          obtain⟨q,q1,q2,q3,q4,q5,q6,q7,q8⟩:=j.lts y hy
          rw[e,h3]at q8;exact q8 rfl
        rw[(getElem?_showL (x2_ r d o) h' _).2 (notIn x (mem x hx') hl hno)]
        exact freeOf x (mem x hx') hl hnd'
      · refine .inr ⟨h1,?_⟩
        rcases h2 with⟨agg,nn,y,e1,e2,e3,e4⟩ | ⟨ro,e1,e2⟩ | ⟨hop',b,e1,e2,e3,e4⟩
        · refine .inl ⟨agg,nn,y,e1,e2,?_,e4⟩
          have:=q_r hag _ e4
          simp only at this
          rcases this with h | h
          · rw[hnd']at h;cases h
          · exact h
        · exact .inr (.inl ⟨ro,e1,e2⟩)
        · refine .inr (.inr ⟨hop',b,e1,e2,e3,?_⟩)
          rcases j.ltsC x hx' e2 with⟨y,hy,e⟩ | h
          · have hyL:y∈x2_ r d o:=(memL y).2 ⟨hy,by rw[e];exact hnd'⟩
            have k1:=kept y hyL
            have k2:=showAt y hyL
            obtain⟨q,q1,q2,q3,q4,_⟩:=j.lts y hy
            have:q=x:=(inj q (mem q q1) x (mem x hx')).1 (by rw[<-q3,e])
            subst this
            rw[q4]at k1 k2
            rw[e4]at k1
            rw[k2,<-k1]
          · rw[h]at e4;cases e4
  · have lenE:=(getElem?_showL E h' 0).1
    have lenX:=(getElem?_showL (x2_ r d o) h' 0).1
    refine⟨by simp only[DS.val];rw[lenE,lenX],by rw[lenE];omega,λm hm=>?_,λx hx hxl hxu=>?_⟩
    · simp only[DS.val]
      by_cases hxm:∃x∈x2_ r d o,x.2.1=m
      · obtain⟨x,hx,e⟩:=hxm
        subst e
        by_cases hxl:listed.getD x.1 false=true
        · rw[showAt x hx]
          refine n_j _ h' nodE x ((memE x).2 ⟨hx,hxl⟩) ?_
          obtain⟨q,q1,q2,q3,q4,_⟩:=j.lts x ((memL x).1 hx).1
          have:=h4_ F.ord q (mem q q1) q2
          omega
        · obtain⟨q,q1,q2,q3,q4,_⟩:=j.lts x ((memL x).1 hx).1
          exfalso
          refine hm q (mem q q1) q2 ?_ q4
          rw[f6_ hls,<-q3]
          have:x.1≠o.i:=by
            rw[q3];exact λe=>(split q q1 o (by simp)).1 e.symm
          simp[this];simpa using hxl
      · have hx':∀x∈x2_ r d o,x.2.1≠m:=λx h1 h2=>hxm ⟨x,h1,h2⟩
        rw[(getElem?_showL (x2_ r d o) h' m).2 hx',(getElem?_showL E h' m).2 (λx hx=>hx' x ((memE x).1 hx).1)]
    · obtain⟨hxu',hxo⟩:=ls' _ hxu
      have hnd':r.dep o.i x.i=false:=by
        cases h:r.dep o.i x.i with
        | false=>rfl
        | true=>have:=hd _ h;rw[hxu']at this;cases this
      obtain⟨f1,f2,f3⟩:=hs.free x hx hxl hxu'
      have hN:lo+x.nm<Gk.N:=by have:=h4_ F.ord x hx hxl;rw[lenk];omega
      refine⟨?_,?_,?_⟩
      · rw[(getElem?_showL E h' _).2 (λy hy e=>?_)]
        · exact freeOf x hx hxl hnd'
        · obtain⟨hy1,hy2⟩:=(memE y).1 hy
          obtain⟨q,q1,q2,q3,q4,_⟩:=j.lts y ((memL y).1 hy1).1
          have:=(inj q (mem q q1) x hx).2 q2 hxl (by omega)
          subst this
          rw[q3,hxu']at hy2;cases hy2
      · rw[l'',st.locEq _ hN,lk'];exact f2
      · rw[n'',st.nilEq _ hN,nk'];exact f3
  · obtain⟨q,q1,q2,q3,q4,q5,q6,q7,q8⟩:=j.lts x hx
    have hqo:q.i≠o.i:=λe=>(split q q1 o (by simp)).1 e.symm
    refine⟨q,by simp[q1],q2,q3,q4,q5,λhq=>?_,λhl=>?_,?_⟩
    · have:=hq o (by simp) hv (by rw[f6_ hls];simp)
      exact showAt x ((memL x).2 ⟨hx,this⟩)
    · rw[f6_ hls]at hl
      simp only[hqo,decide_false,Bool.false_or]at hl
      obtain⟨b,hb⟩:=q7 hl
      exact⟨b,keepGG.loc _ _ (j.nameLt F q1 q2 q4) hb⟩
    · show lk x.1 ((o.i,v) :: d.R)≠.tup []
      rw[t1_ (by rw[q3];exact hqo)];exact q8
  · have hx':x∈pre:=by
      rcases K_6.1 hx with h | h
      · exact h
      · have:x=o:=by simpa using h
        subst this;rw[hnl]at hxl;cases hxl
    by_cases hy:∃y∈d.lts,y.1=x.i
    · exact .inl hy
    · right
      have hno:∀y∈d.lts,y.1≠x.i:=λy h1 h2=>hy ⟨y,h1,h2⟩
      simp only[DS.val]
      rw[(getElem?_showL (x2_ r d o) h' _).2 (notIn x (mem x hx') hxl hno)]
      rcases free x.nm (h4_ F.ord x (mem x hx') hxl) with⟨y,hy1,hyd,e⟩ | h
      · obtain⟨q,q1,q2,q3,q4,_⟩:=j.lts y hy1
        have:=(inj q (mem q q1) x (mem x hx')).2 q2 hxl (by omega)
        subst this
        exact absurd q3 (hno y hy1)
      · exact h
  · have hxm:x∈r.items:=by rw[hitems];simp[hx]
    have hno:∀y∈d.lts,y.1≠x.i:=by
      intro y hy e
      obtain⟨q,q1,q2,q3,q4,_⟩:=j.lts y hy
      exact (split q q1 x (by simp[hx])).1 (by rw[<-q3,e])
    simp only[DS.val]
    rw[(getElem?_showL (x2_ r d o) h' _).2 (notIn x hxm hxl hno)]
    rcases free x.nm (h4_ F.ord x hxm hxl) with⟨y,hy1,hyd,e⟩ | h
    · obtain⟨q,q1,q2,q3,q4,_⟩:=j.lts y hy1
      have:=(inj q (mem q q1) x hxm).2 q2 hxl (by omega)
      subst this
      exact absurd q3 (hno y hy1)
    · exact h
end
theorem j_5 (R:Env)(s:Nat):∀(l:List (Nat×Nat)) (L:Env),(∃i,(s,i)∈l/\lk s (r_a R l L)=lk i R)\/((∀i,(s,i)∉l)/\lk s (r_a R l L)=lk s L):=by
 intro l
 induction l with
 | nil=>intro L;exact .inr ⟨λi h=>by simp at h,rfl⟩
 | cons x r ih=>
  intro L
  obtain⟨t,i⟩:=x
  simp only[r_a]
  rcases ih (ins t (lk i R) L) with⟨q,h1,h2⟩ | ⟨h1,h2⟩
  ·exact .inl ⟨q,by simp[h1],h2⟩
  ·rw[h2,a3_]
   by_cases e:s=t
   ·subst e
    left
    exact⟨i,by simp,by simp⟩
   ·right
    refine⟨λq hq=>?_,by simp[e]⟩
    rcases List.mem_cons.1 hq with hq | hq
    ·cases hq;exact e rfl
    ·exact h1 q hq
theorem P7_ {keep:Nat->Bool}:∀(ops:List Oper)(k:Nat)(t i:Nat),(t,i)∈d_n keep ops k↔k<=i/\keep t=true/\∃o,ops[i-k]?=some o/\o.dst=some t:=by
 intro ops
 induction ops with
 | nil=>intro k t i;simp[d_n]
 | cons x r ih=>
  intro k t i
  have step:(t,i)∈d_n keep r (k+1)↔k+1<=i/\keep t=true/\∃o,(x :: r)[i-k]?=some o/\o.dst=some t:=by
   rw[ih]
   constructor
   ·rintro⟨h1,h2,o,h3,h4⟩
    exact⟨h1,h2,o,by rw[show i-k=(i-(k+1))+1 by omega];simpa using h3,h4⟩
   ·rintro⟨h1,h2,o,h3,h4⟩
    rw[show i-k=(i-(k+1))+1 by omega]at h3
    exact⟨h1,h2,o,by simpa using h3,h4⟩
  have lift:(t,i)∈d_n keep r (k+1)->k<=i/\keep t=true/\∃o,(x :: r)[i-k]?=some o/\o.dst=some t:=λh=>by
   obtain⟨h1,h2⟩:=step.1 h;exact⟨by omega,h2⟩
  have low:(k<=i/\keep t=true/\∃o,(x :: r)[i-k]?=some o/\o.dst=some t)->(i=k/\keep t=true/\x.dst=some t)\/(t,i)∈d_n keep r (k+1):=by
   rintro⟨h1,h2,o,h3,h4⟩
   by_cases e:i=k
   ·subst e;simp at h3;subst h3;exact .inl ⟨rfl,h2,h4⟩
   ·exact .inr (step.2 ⟨by omega,h2,o,h3,h4⟩)
  simp only[d_n]
  cases hd:x.dst with
  | none=>
   simp only
   exact⟨lift,λh=>by
    rcases low h with⟨_,_,h⟩ | h
    ·rw[hd]at h;cases h
    ·exact h⟩
  | some s=>
   simp only
   split
   ·rename_i hk
    constructor
    ·intro h
     rcases List.mem_cons.1 h with h | h
     ·cases h;exact⟨J_4 _,hk,x,by simp,hd⟩
     ·exact lift h
    ·intro h
     rcases low h with⟨e1,_,e2⟩ | h
     ·rw[hd]at e2;cases e2;subst e1;simp
     ·simp[h]
   ·rename_i hk
    exact⟨lift,λh=>by
     rcases low h with⟨_,e,e2⟩ | h
     ·rw[hd]at e2;cases e2;exact absurd e hk
     ·exact h⟩
section
variable {P:Program} {n:Nat} {keep:Nat->Bool} {ops:List Oper} {r:DR} {L0:Env} {lo:Nat} {G0:Gh} {w0:World}
theorem x_p {tr:Operand->Opd}{o:Oper}{f:FuncId}{args:List Opd}(h:cOp P tr o=some (.call f args)):
  ∃as tys,o.op=.call {callee:=.value (.func f),args:=as,argTypes:=tys}/\args=as.toList.map tr:=by
 unfold cOp at h
 split at h
 ·cases h
 ·split at h
  ·cases h
  ·split at h
   ·rename_i heq;cases h;exact⟨_,_,heq,rfl⟩
   ·cases h
   ·cases h
theorem u_l {tr:Operand->Opd}{o:Oper}{x:Opd}{args:List Opd}(h:cOp P tr o=some (.callv x args)):
  ∃y as tys,o.op=.call {callee:=.value y,args:=as,argTypes:=tys}/\x=tr y/\args=as.toList.map tr:=by
 unfold cOp at h
 split at h
 ·cases h
 ·split at h
  ·cases h
  ·split at h
   ·cases h
   ·rename_i heq;cases h;exact⟨_,_,_,heq,rfl,rfl⟩
   ·cases h
theorem J.doHeavy (F:DF P n keep ops r){listed:Array Bool}{pre rest:List DO}{d:DS}{G:Gh}{w:World}{a:Act}{o:DO}(j:J P n keep ops r L0 lo G0 w0 listed pre (o :: rest) d G w a)(hv:o.hv=true)
  (hd:∀q,r.dep o.i q=true->listed.getD q false=true) (hgo:B_4 d o) {K:DS->Prop} (hvc:h_v P r.dep lo r.k o d K) {Q:Exit->Act->World->Prop} {next:Act->World->Prop}
  (hK:∀d' G' w' a',J P n keep ops r L0 lo G0 w0 (listed.setIfInBounds o.i true) (pre++[o]) rest d' G' w' a'->K d'->next a' w'):wpOp P ops.toArray Q o.i next a w:=by
 have ho:o∈r.items:=by rw[j.items];simp
 have hi:=j.sub o (by simp)
 obtain⟨hhv,op,hop,hcop,hcg⟩:=F.item o ho
 obtain⟨Gk,gk,kk,fin⟩:=j.heavyDone F hv hd hop
 have hstG:G0_ G w (trD keep ops r.masks o.i) d.get a:=j.stands F hi hd (λ_ _=>rfl) (λt=>by simp only[DS.get,j.L]) (λ_=>rfl)
 have hst:G0_ Gk w (trD keep ops r.masks o.i) d.get a:=λx=>(hstG x).keep kk
 have hopA:ops.toArray[o.i]?=some op:=by simpa using hop
 have hw:Region.wanted op (yielded ops.toArray a.tmps)=true:=by
  rcases hgo with hg | ⟨x,want,hg,hx⟩
  ·rw[hg]at hcg
   unfold U7_ at hcg
   split at hcg
   ·rename_i hgo;simp[Region.wanted,hgo]
   ·split at hcg<;>cases hcg
  ·rw[hg]at hcg
   unfold U7_ at hcg
   split at hcg
   ·cases hcg
   ·rename_i jj want' hgo
    split at hcg
    ·rename_i t ht
     cases hcg
     rw[(U3_ (hstG (.tmp t)) hgo (by simpa using ht)).1 _ hx];simp
    ·cases hcg
 unfold wpOp
 simp only[hopA]
 rw[hw]
 simp only[if_true]
 left
 simp only[h_v,hv]at hvc
 split at hvc
 ·contradiction
 ·contradiction
 ·contradiction
 · -- a store,an append
  rename_i ho' _ hop'
  split at hvc
  ·rename_i v h' hh
   rw[hop']at hcop
   obtain⟨nx,u,w',G',hu,hnx,hg,hV,hstp⟩:=d_h (P:=P) gk hst (C_6 hcop) hh
   obtain⟨G'',jj,hk⟩:=fin hstp hg hV hvc
   unfold Oper.wp
   rw[hu]
   rcases hnx with rfl | ⟨rfl,rfl⟩
   ·exact hK _ _ _ _ jj hk
   ·exact hK _ _ _ _ jj hk
  ·exact hvc.elim
 · -- a call
  rename_i f args _ hop'
  obtain⟨hf,hvc⟩:=hvc
  rw[hop']at hcop
  obtain⟨as,tys,hcall,rfl⟩:=x_p hcop
  have hrun:(execOp a.eval op).run P w=.ok (.enter f (as.map a.eval)) w:=by
   obtain⟨dst,op',type,pos,after,guard⟩:=op
   have hcall':op'=_:=hcall
   subst hcall'
   simp only[execOp,resolve,Act.eval,Deferred.ofValue,Sem.run_bind,Sem.run_pure,Result.andThen_ok,invoke]
   rw[o6_ hf]
   simp
  unfold Oper.wp
  rw[hrun,Oper.upon_enter]
  refine (hvc Gk w (as.map a.eval) gk ⟨by simp,λq c v hc hv'=>?_⟩).mono ?_
  ·exact VL.map hst as.toList q c v (by simpa using hc) (by simpa using hv')
  ·rintro e w' ⟨v,rr,h',G',rfl,hb,hg,hV,hstp⟩
   obtain⟨G'',jj,hk⟩:=fin hstp hg hV hb
   exact hK _ _ _ _ jj hk
 · -- a call of a value
  rename_i x args _ hop'
  split at hvc
  ·rename_i f fs cs hx
   obtain⟨hf,hvc⟩:=hvc
   rw[hop']at hcop
   obtain⟨y,as,tys,hcall,rfl,rfl⟩:=u_l hcop
   have hxv:=hst y
   rw[hx]at hxv
   generalize hvq:a.eval y=fv at hxv
   cases hxv with
   | clo _ _ us _ vs hlu hUs hl hVs=>
   have hrun:(execOp a.eval op).run P w=.ok (.enter f (us++as.map a.eval++vs)) w:=by
    obtain⟨dst,op',type,pos,after,guard⟩:=op
    have hcall':op'=_:=hcall
    subst hcall'
    simp only[execOp,resolve,hvq,Deferred.ofValue,Sem.run_bind,Sem.run_pure,Result.andThen_ok,invoke]
    rw[o6_ hf]
   unfold Oper.wp
   rw[hrun,Oper.upon_enter]
   refine (hvc Gk w (us++as.map a.eval++vs) gk (VL.app (VL.app ⟨hlu,hUs⟩ ⟨by simp,λq c v hc hv'=>VL.map hst as.toList q c v (by simpa using hc) (by simpa using hv')⟩) ⟨hl,hVs⟩)).mono ?_
   ·rintro e w' ⟨v,rr,h',G',rfl,hb,hg,hV,hstp⟩
    obtain⟨G'',jj,hk⟩:=fin hstp hg hV hb
    exact hK _ _ _ _ jj hk
  ·exact hvc.elim
 ·exact hvc.elim
theorem J.allDone (F:DF P n keep ops r){listed:Array Bool}{pre rest:List DO}{d:DS}{G:Gh}{w:World}{a:Act}(j:J P n keep ops r L0 lo G0 w0 listed pre rest d G w a)
  (hr:Region.ready .any ops.toArray listed=[]):∀i,i<ops.length->listed.getD i false=true:=by
 intro i
 induction i using Nat.strongRecOn with
 | _ i ih=>
  intro hi
  cases hl:listed.getD i false with
  | true=>rfl
  | false=>
   have hs:i<listed.size:=by rw[j.lsize];exact hi
   have:i∈Region.ready .any ops.toArray listed:=by
    rw[mem_ready]
    refine⟨by simp[hs]at hl ⊢;exact hl,ops[i],by simp[hi],λe he hb=>?_⟩
    have:=F.edges i ops[i] (by simp[hi]) e (by simpa using he) hb
    exact ih e.on this (by omega)
   rw[hr]at this;cases this
theorem n_w (F:DF P n keep ops r){K:DS->Prop}{Q:Exit->Act->World->Prop}
  (hQ:∀d G w a,J P n keep ops r L0 lo G0 w0 (Array.replicate ops.length true) r.items [] d G w a->K d->Q .normal a w):
  ∀(fuel:Nat){listed:Array Bool}{pre rest:List DO}{d:DS}{G:Gh}{w:World}{a:Act},J P n keep ops r L0 lo G0 w0 listed pre rest d G w a->vcD P r.dep lo r.k rest d K->
   ((List.range ops.length).filter λi=>!listed.getD i false).length<=fuel->wpAny P .any ops.toArray Q fuel listed a w:=by
 have last:∀{listed:Array Bool}{pre rest:List DO}{d:DS}{G:Gh}{w:World}{a:Act},J P n keep ops r L0 lo G0 w0 listed pre rest d G w a->
   ((rest=[]/\K d)\/∃o q,rest=o :: q/\o.hv=true/\B_4 d o/\h_v P r.dep lo r.k o d λd''=>vcD P r.dep lo r.k q d'' K)->(∀i,i<ops.length->listed.getD i false=true)->Q .normal a w:=by
  intro listed pre rest d G w a j hc hall
  have hli:listed=Array.replicate ops.length true:=by
   apply Array.ext
   ·simp[j.lsize]
   ·intro i h1 h2
    have:=hall i (by rw[<-j.lsize];exact h1)
    simp[h1]at this
    simp[this]
  rcases hc with⟨rfl,hk⟩ | ⟨o,q,rfl,hv,_⟩
  ·have hp:pre=r.items:=by rw[j.items];simp
   subst hp
   subst hli
   exact hQ d G w a j hk
  ·have h1:=j.sub o (by simp)
   obtain⟨_,op,hop,_⟩:=F.item o (by rw[j.items];simp)
   rw[hall o.i (J_w.1 hop).1]at h1
   cases h1
 intro fuel
 induction fuel with
 | zero=>
  intro listed pre rest d G w a j hvc hle
  obtain⟨pre',rest',d',j',hc⟩:=j.advance F rest pre d hvc
  have hall:∀i,i<ops.length->listed.getD i false=true:=by
   intro i hi
   have hnil:=J_3 (Nat.le_zero.1 hle)
   cases hl:listed.getD i false with
   | true=>rfl
   | false=>
    have:i∈(List.range ops.length).filter λi=>!listed.getD i false:=by simp[M_p,hi];simpa using hl
    rw[hnil]at this;cases this
  refine⟨?_,last j' hc hall⟩
  apply List.eq_nil_iff_forall_not_mem.2
  intro i hi
  obtain⟨h1,h2,_⟩:=j'.ready F hi
  rw[hall i h2]at h1;cases h1
 | succ fuel ih=>
  intro listed pre rest d G w a j hvc hle
  obtain⟨pre',rest',d',j',hc⟩:=j.advance F rest pre d hvc
  refine⟨λhr=>last j' hc (j'.allDone F hr),λi hi=>?_⟩
  obtain⟨h1,h2,⟨op,hop⟩,h4⟩:=j'.ready F hi
  have hls:i<listed.size:=by rw[j.lsize];exact h2
  have hfu:((List.range ops.length).filter λq=>!(listed.setIfInBounds i true).getD q false).length<=fuel:=by
   have e:((List.range ops.length).filter λq=>!(listed.setIfInBounds i true).getD q false)=((List.range ops.length).filter λq=>!listed.getD q false).filter λq=>!decide (q=i):=by
    rw[List.filter_filter]
    apply List.filter_congr
    intro q _
    rw[f6_ hls]
    cases decide (q=i)<;>cases listed.getD q false<;>rfl
   rw[e]
   have hm:i∈(List.range ops.length).filter λq=>!listed.getD q false:=by simp[M_p,h2];simpa using h1
   have:(((List.range ops.length).filter λq=>!listed.getD q false).filter λq=>!decide (q=i)).length<((List.range ops.length).filter λq=>!listed.getD q false).length:=by
    refine List.length_filter_lt_length_iff_exists.2 ⟨i,hm,by simp⟩
   omega
  obtain⟨o,ho,rfl⟩:=F.cover i h2
  rw[j'.items]at ho
  rcases K_6.1 ho with ho | ho
  ·refine j'.doneWill F ho h1 h4 (λG' w' a' jj=>?_)
   rcases hc with⟨e1,hk⟩ | ⟨o',q,e1,hv,hgo,hvd⟩
   ·exact ih jj (by rw[e1];exact hk) hfu
   ·refine ih jj ?_ hfu
    rw[e1]
    simp only[vcD]
    rcases hgo with hg | ⟨x,want,hg,hx⟩
    ·rw[hg];exact hvd
    ·rw[hg];simp only[hx]
     exact⟨λ_=>hvd,λe=>by cases want<;>simp at e⟩
  ·rcases hc with⟨e1,hk⟩ | ⟨o',q,e1,hv,hgo,hvd⟩
   ·rw[e1]at ho;cases ho
   ·subst e1
    rcases List.mem_cons.1 ho with rfl | ho
    ·exact j'.doHeavy F hv h4 hgo hvd (λd' G' w' a' jj hk=>ih jj hk hfu)
    ·exfalso
     have hsp:=o8_ (pre:=pre'++[o']) (rest:=q) (by rw[K_h,List.singleton_append,<-j'.items];exact F.ord) o' (by simp) o ho
     have:=h4 o'.i (hsp.2.2.1 hv)
     rw[j'.sub o' (by simp)]at this
     cases this
theorem p_6 (hm:P.follows .mixedOrders=true){opsA:Array Oper}{id:Nat}(hc:cDR P n keep opsA.toList=some r){G:Gh}{w:World}{st:St}{a:Act}(sr:SR n keep G0 w0 G w st a){K:St->Prop}
    (hk:D_n P r st K) {Q:Exit->Act->World->Prop} (hQ:∀G' w' st' a',SR n keep G0 w0 G' w' st' a'->K st'->Q .normal a' w'):(Code.region id opsA true).wp P Q a w:=by
  have F:=n_0 hc
  refine wp_region_any hm ?_
  have hs:opsA.toList.length=opsA.size:=by simp
  have key:wpAny P .any opsA.toList.toArray Q opsA.toList.length (Array.replicate opsA.toList.length false) a w.drew:=by
    have gd:Gam G w.drew st.h:=sr.gam.same rfl
    have kd:h3_ G w G w.drew:=h3_.heap_eq rfl
    obtain⟨gr,sr'⟩:=gd.reserve r.k
    have nonL:∀i,(Array.replicate opsA.toList.length false).getD i false=false:=by
      intro i;by_cases h:i<opsA.toList.length<;>simp at h<;>simp[h]
    refine n_w F (L0:=st.L) (lo:=st.h.length) (G0:=G0) (w0:=w0) (K:=λd=>K ⟨r_a d.R r.fin st.L,[],d.h⟩) ?_ opsA.toList.length (pre:=[]) (rest:=r.items) (d:=⟨st.L,[],st.h++List.replicate r.k none,[],[]⟩) (G:=G.reserve r.k) ?_ hk ?_
    · intro d G' w' a' j hK
      obtain⟨hS,g,hs'⟩:=j.heap
      have hall:∀i,i<opsA.toList.length->(Array.replicate opsA.toList.length true).getD i false=true:=by intro i hi;simp at hi;simp[hi]
      have hSd:hS=d.h:=by
        apply K_0
        intro m
        refine hs'.other m (λo ho _ hl=>?_)
        obtain⟨_,op,hop,_⟩:=F.item o ho
        rw[hall _ (J_w.1 hop).1]at hl;cases hl
      subst hSd
      refine hQ G' w' _ a' ⟨g,j.size,j.defers,λs hks=>?_,λs _=>.top _,j.stp⟩ hK
      have hf:=F.fin
      rcases j_5 d.R s r.fin st.L with⟨i,h1,h2⟩ | ⟨h1,h2⟩
      · simp only;rw[h2]
        rw[hf]at h1
        obtain⟨_,_,o,ho,hdst⟩:=(P7_ _ 0 s i).1 h1
        simp only[Nat.sub_zero]at ho
        exact j.A i o s (hall i (J_w.1 ho).1) ho hdst
      · simp only;rw[h2]
        refine j.B s hks (λi op hi hop hdst=>h1 i ?_)
        rw[hf]
        exact (P7_ _ 0 s i).2 ⟨L_f _,hks,op,by simpa using hop,hdst⟩
    · have kG:h3_ G w (G.reserve r.k) w.drew:=kd.trans sr'.keep
      refine {items:=rfl,lsize:=by simp,clos:=(λi q h=>by rw[nonL]at h;cases h),sub:=(λo _=>nonL _),L:=rfl,A:=(λi op t h=>by rw[nonL]at h;cases h),
               B:=(λt hkt _=>(sr.L t hkt).keep kG),will:=(λo ho=>by simp at ho),heap:=⟨_,gr,rfl,by simp,(λ_ _=>rfl),(λo ho hl _=>?_)⟩,ltsN:=List.nodup_nil,lts:=(λx hx=>by simp at hx),
               ltsC:=(λo ho=>by simp at ho),later:=(λo ho hl=>?_),size:=sr.size,defers:=sr.defers,stp:=(sr.stp.trans (Stp.drew G w _)).trans sr',lo:=?_}
      · have hlt:=h4_ F.ord o ho hl
        refine⟨?_,?_,?_⟩
        · rw[K_a (by omega),L_l,if_pos (by omega)]
        · simp only[Gh.reserve];rw[if_neg (by rw[<-sr.gam.len];omega)]
        · simp only[Gh.reserve];rw[<-sr.gam.len];omega
      · have hlt:=h4_ F.ord o ho hl
        simp only
        rw[K_a (by omega),L_l,if_pos (by omega)]
      · have:=sr.stp.keep.N;rw[sr.gam.len];exact this
    · refine K_e (L_y _ _) (by simp)
  have e2:opsA.toList.toArray=opsA:=by simp
  rw[e2,hs]at key
  exact key
end
inductive AX where
 | normal
 | exit (id:Nat)
 | ret
inductive AC where
 | skip
 | reg (ops:List AO)
 | dreg (r:DR)
 | seq (a b:AC)
 | cond (c:Opd) (a b:AC)
 | block (id:Nat) (b:AC)
 | loop (b:AC)
 | exit (id:Nat)
 | ret
 | bad
section
variable {n:Nat} {keep:Nat->Bool} {G0:Gh} {w0:World} {P:Program}
def Wk (st st':St):Prop:=∀(n:Nat)(keep:Nat->Bool)(G0:Gh)(w0:World)(G:Gh)(w:World)(a:Act),SR n keep G0 w0 G w st a->∃G',SR n keep G0 w0 G' w st' a
theorem Wk.refl (st:St):Wk st st:=λ_ _ _ _ G _ _ h=>⟨G,h⟩
def vc (P:Program):AC->St->(AX->St->Prop)->Prop
 | .skip,st,K=>K .normal st
 | .reg ops,st,K=>f1_ P ops st λst'=>K .normal {st' with R:=[]}
 | .dreg r,st,K=>D_n P r st λst'=>K .normal st'
 | .seq a b,st,K=>vc P a st λx st'=>match x with
  | .normal=>vc P b st' K
  | .exit id=>K (.exit id) st'
  | .ret=>K .ret st'
 | .cond c a b,st,K=>match st.get c with
  | .bool t=>(t=true->vc P a st K)/\(t=false->vc P b st K)
  | _=>False
 | .block id b,st,K=>vc P b st λx st'=>match x with
  | .normal=>K .normal st'
  | .exit id'=>if id'=id then K .normal st' else K (.exit id') st'
  | .ret=>K .ret st'
 | .loop b,st,K=>∃I:Nat->St->Prop,(∃m s0,Wk st s0/\I m s0)/\∀m s,I m s->vc P b s λx s'=>match x with
  | .normal=>∃m' s0,m'<m/\Wk s' s0/\I m' s0
  | .exit id=>K (.exit id) s'
  | .ret=>K .ret s'
 | .exit id,st,K=>K (.exit id) st
 | .ret,st,K=>K .ret st
 | .bad,_,_=>False
def cC (P:Program)(n:Nat)(keep:Nat->Bool):Code->Option AC
 | .skip=>some .skip
 | .region _ ops draw=>if draw then (if P.follows .mixedOrders then (cDR P n keep ops.toList).map .dreg else none) else (q_e P n keep ops ops.toList).map .reg
 | .seq a b=>match cC P n keep a,cC P n keep b with
  | some x,some y=>some (.seq x y)
  | _,_=>none
 | .cond c a b=>match cC P n keep a,cC P n keep b with
  | some x,some y=>some (.cond (cd keep c) x y)
  | _,_=>none
 | .block id b=>(cC P n keep b).map (.block id)
 | .loop b=>(cC P n keep b).map .loop
 | .exit id=>some (.exit id)
 | .ret=>some .ret
 | .scope b=>cC P n keep b
 | .label _=>some .skip
 | _=>some .bad
def E_k (n:Nat)(keep:Nat->Bool)(G0:Gh)(w0:World)(K:AX->St->Prop):Exit->Act->World->Prop
 | .normal,a,w=>∃G st,SR n keep G0 w0 G w st a/\K .normal st
 | .exit id,a,w=>∃G st,SR n keep G0 w0 G w st a/\K (.exit id) st
 | .ret,a,w=>∃G st,SR n keep G0 w0 G w st a/\K .ret st
 | _,_,_=>False
theorem SR.clearR {G w st a}(sr:SR n keep G0 w0 G w st a):SR n keep G0 w0 G w {st with R:=[]} a:=
 ⟨sr.gam,sr.size,sr.defers,sr.L,λ_ _=>.top _,sr.stp⟩
theorem o_m {Q:Exit->Act->World->Prop}{c:Code}(I:Nat->Act->World->Prop)
  (round:∀m a w,I m a w->c.wp P (Exit.then (λa' w'=>∃m',m'<m/\I m' a' w') Q) a w) {m:Nat} {a:Act} {w:World} (h₀:I m a w):(Code.loop c).wp P Q a w:=by
 intro b k cs
 have key:∀m a w,I m a w->∃e a' w',Q e a' w'/\Arrives P (lone (b.at a (.code c :: .inLoop c :: k)) cs w) b k cs e a' w':=by
  intro m
  induction m using Nat.strongRecOn with
  | _ m ih=>
   intro a w hI
   obtain⟨e,a₁,w₁,hq,harr⟩:=round m a w hI b (.inLoop c :: k) cs
   cases e with
   | normal=>
    obtain⟨m',hlt,hI₁⟩:=hq
    obtain⟨e₂,a₂,w₂,hq₂,harr₂⟩:=ih m' hlt a₁ w₁ hI₁
    exact⟨e₂,a₂,w₂,hq₂,.of_steps (Steps.trans harr (.one step_inLoop)) harr₂⟩
   | exit id=>exact⟨_,a₁,w₁,hq,.pass (x:=.inLoop c) rfl (λ_ _=>.inl (by simp)) harr⟩
   | goto l=>exact⟨_,a₁,w₁,hq,.pass (x:=.inLoop c) rfl (λ_ _=>.inl (by simp)) harr⟩
   | ret=>exact⟨_,a₁,w₁,hq,.pass (x:=.inLoop c) rfl (λ_ _=>.inl (by simp)) harr⟩
   | panic ch=>exact⟨_,a₁,w₁,hq,.pass (x:=.inLoop c) rfl (λ_ _=>.inl (by simp)) harr⟩
   | outgrown=>exact⟨_,a₁,w₁,hq,.pass (x:=.inLoop c) rfl (λ_ _=>.inl (by simp)) harr⟩
 obtain⟨e,a',w',hq,harr⟩:=key m a w h₀
 exact⟨e,a',w',hq,.of_steps (.one step_loop) harr⟩
theorem b_2:∀(c:Code)(ac:AC),cC P n keep c=some ac->∀{K:AX->St->Prop}{G w st a},SR n keep G0 w0 G w st a->vc P ac st K->c.wp P (E_k n keep G0 w0 K) a w:=by
 intro c
 induction c with
 | skip=>intro ac hc K G w st a sr hk;simp only[cC,Option.some.injEq]at hc;subst hc;exact wp_skip ⟨G,st,sr,hk⟩
 | ret=>intro ac hc K G w st a sr hk;simp only[cC,Option.some.injEq]at hc;subst hc;exact wp_ret ⟨G,st,sr,hk⟩
 | exit id=>intro ac hc K G w st a sr hk;simp only[cC,Option.some.injEq]at hc;subst hc;exact wp_exit ⟨G,st,sr,hk⟩
 | region id ops draw=>
  intro ac hc K G w st a sr hk
  simp only[cC]at hc
  split at hc
  ·rename_i hd
   have hdr:draw=true:=hd
   subst hdr
   split at hc
   ·rename_i hm
    simp only[J_7]at hc
    obtain⟨r,hr,rfl⟩:=hc
    exact p_6 hm hr sr hk (λG' w' st' a' sr' hk'=>⟨G',st',sr',hk'⟩)
   ·cases hc
  ·rename_i hd
   have:draw=false:=by simpa using hd
   subst this
   simp only[J_7]at hc
   obtain⟨al,hal,rfl⟩:=hc
   exact wp_region_list (k_5 (λG' w' st' a' sr' hk'=>⟨G',_,sr'.clearR,hk'⟩) ops.toList al sr hal hk)
 | seq x y ihx ihy=>
  intro ac hc K G w st a sr hk
  simp only[cC]at hc
  split at hc
  ·rename_i ax ay hx hy
   cases hc
   refine wp_seq (wp_mono (ihx ax hx sr hk) ?_)
   intro e a' w' hp
   cases e with
   | normal=>obtain⟨G',st',sr',hk'⟩:=hp;exact ihy ay hy sr' hk'
   | exit id=>exact hp
   | ret=>exact hp
   | goto l=>exact hp
   | panic c=>exact hp
   | outgrown=>exact hp
  ·cases hc
 | cond x y z ihy ihz=>
  intro ac hc K G w st a sr hk
  simp only[cC]at hc
  split at hc
  ·rename_i ay az hy hz
   cases hc
   simp only[vc]at hk
   split at hk
   ·rename_i t ht
    have hv:=sr.stands x
    rw[ht]at hv
    generalize hq:a.eval x=v at hv
    cases hv
    refine wp_cond_split hq (λe=>?_) (λe=>?_)
    ·exact ihy ay hy sr (hk.1 e)
    ·exact ihz az hz sr (hk.2 e)
   ·exact hk.elim
  ·cases hc
 | block id b ih=>
  intro ac hc K G w st a sr hk
  simp only[cC,J_7]at hc
  obtain⟨ab,hb,rfl⟩:=hc
  refine wp_block (wp_mono (ih ab hb sr hk) ?_)
  intro e a' w' hp
  cases e with
  | normal=>exact hp
  | exit id'=>
   obtain⟨G',st',sr',hk'⟩:=hp
   simp only at hk'
   simp only[Exit.inBlock]
   split<;>rename_i h
   ·rw[if_pos h]at hk';exact⟨G',st',sr',hk'⟩
   ·rw[if_neg h]at hk';exact⟨G',st',sr',hk'⟩
  | ret=>exact hp
  | goto l=>exact hp
  | panic c=>exact hp
  | outgrown=>exact hp
 | loop b ih=>
  intro ac hc K G w st a sr hk
  simp only[cC,J_7]at hc
  obtain⟨ab,hb,rfl⟩:=hc
  obtain⟨I,⟨m,s0,hwk,h0⟩,hround⟩:=hk
  obtain⟨G',sr'⟩:=hwk n keep G0 w0 G w a sr
  refine o_m (λm a w=>∃G s,SR n keep G0 w0 G w s a/\I m s) ?_ ⟨G',s0,sr',h0⟩
  rintro m a w ⟨G,s,sr,hI⟩
  refine wp_mono (ih ab hb sr (hround m s hI)) ?_
  intro e a' w' hp
  cases e with
  | normal=>
   obtain⟨G',st',sr',m',s0,hlt,hwk,hI'⟩:=hp
   obtain⟨G'',sr''⟩:=hwk n keep G0 w0 G' w' a' sr'
   exact⟨m',hlt,G'',s0,sr'',hI'⟩
  | exit id=>exact hp
  | ret=>exact hp
  | goto l=>exact hp
  | panic c=>exact hp
  | outgrown=>exact hp
 | rangeFunc f ps x y _ _=>intro ac hc K G w st a sr hk;simp only[cC,Option.some.injEq]at hc;subst hc;exact hk.elim
 | scope b ih=>
  intro ac hc K G w st a sr hk
  simp only[cC]at hc
  refine wp_scope_straight (wp_mono (ih ac hc sr hk) ?_)
  intro e a' w' hp
  cases e with
  | normal=>exact hp
  | exit id=>exact hp
  | ret=>exact hp
  | goto l=>exact hp
  | panic c=>exact hp
  | outgrown=>exact hp
 | label l=>intro ac hc K G w st a sr hk;simp only[cC,Option.some.injEq]at hc;subst hc;exact wp_label ⟨G,st,sr,hk⟩
 | goto l=>intro ac hc K G w st a sr hk;simp only[cC,Option.some.injEq]at hc;subst hc;exact hk.elim
 | refuse w=>intro ac hc K G w st a sr hk;simp only[cC,Option.some.injEq]at hc;subst hc;exact hk.elim
end
inductive h_u where
 | tmp (x:Opd)
 | cell (x:Opd) (agg:Bool) (n:Nat)
def v_r (P:Program)(keep:Nat->Bool):List ResultVar->Option (List h_u)
 | []=>some []
 | .tmp t :: r=>(v_r P keep r).map (.tmp (cd keep (.tmp t)) :: ·)
 | .cell a t :: r=>match j_u P t,P.info? t,v_r P keep r with
  | some b,some i,some l=>some (.cell (cd keep (.tmp a)) b i.size :: l)
  | _,_,_=>none
def q5_ (st:St):List h_u->Option (List AV)
 | []=>some []
 | .tmp x :: r=>(q5_ st r).map (st.get x :: ·)
 | .cell x agg n :: r=>match o5_ st.h agg n (st.get x),q5_ st r with
  | some v,some l=>some (v :: l)
  | _,_=>none
def B3_:List AV->AV
 | [x]=>x
 | l=>.tup l
structure AFn where
 n:Nat
 keep:Nat->Bool
 code:AC
 res:List h_u
def cFn (P:Program)(keep:Nat->Bool)(f:FuncId):Option AFn:=
 match P.funcs[f]? with
 | some fn=>match fn.body with
  | some c=>match cC P fn.ntmps keep c,v_r P keep fn.results.toList with
   | some ac,some res=>some ⟨fn.ntmps,keep,ac,res⟩
   | _,_=>none
  | none=>none
 | none=>none
def C9_ (p:Nat->Bool):Nat->List AV->Env
 | _,[]=>[]
 | i,v :: r=>if p i then (i,v) :: C9_ p (i+1) r else C9_ p (i+1) r
theorem f_g (p:Nat->Bool):∀(vs:List AV)(i s:Nat),lk s (C9_ p i vs)=.top\/(i<=s/\vs[s-i]?=some (lk s (C9_ p i vs))):=by
 intro vs
 induction vs with
 | nil=>intro i s;exact .inl rfl
 | cons v vs ih=>
  intro i s
  have shift:lk s (C9_ p (i+1) vs)=.top\/(i<=s/\(v :: vs)[s-i]?=some (lk s (C9_ p (i+1) vs))):=by
   rcases ih (i+1) s with h | ⟨h1,h2⟩
   ·exact .inl h
   ·exact .inr ⟨by omega,by rw[show s-i=(s-(i+1))+1 by omega];simpa using h2⟩
  simp only[C9_]
  split
  ·simp only[lk]
   split
   ·rename_i h;subst h;exact .inr ⟨J_4 _,by simp⟩
   ·exact shift
  ·exact shift
def Y0_ (keep:Nat->Bool)(avs:List AV)(h:a0_):St:=⟨C9_ keep 0 avs,C9_ (λs=>!keep s) 0 avs,h⟩
def b2_ (res:List h_u)(K:AV->a0_->Prop):AX->St->Prop
 | .exit _,_=>False
 | _,st=>match q5_ st res with
  | some l=>K (B3_ l) st.h
  | none=>False
section
variable {n:Nat} {keep:Nat->Bool} {G0:Gh} {w0:World} {P:Program}
theorem f_8 {G w st a}(sr:SR n keep G0 w0 G w st a):∀(rs:List ResultVar)(res:List h_u)(l:List AV),v_r P keep rs=some res->q5_ st res=some l->
  ∃vs:List Value,(rs.mapM fun
   | .tmp t=>pure (a.tmps.getD t undef)
   | .cell x t=>do loadVar t (<-asAddr (a.tmps.getD x undef)):Sem (List Value)).run P w=.ok vs w/\l.length=vs.length /\
   ∀(j:Nat)(c:AV)(v:Value),l[j]?=some c->vs[j]?=some v->V G w c v:=by
 intro rs
 induction rs with
 | nil=>
  intro res l hc hl
  simp only[v_r,Option.some.injEq]at hc
  subst hc
  simp only[q5_,Option.some.injEq]at hl
  subst hl
  exact⟨[],rfl,rfl,λj c v h=>by simp at h⟩
 | cons r rs ih=>
  intro res l hc hl
  have cons:∀{c:AV}{v:Value}{l':List AV}{vs:List Value},V G w c v->l'.length=vs.length->(∀(j:Nat)(c:AV)(v:Value),l'[j]?=some c->vs[j]?=some v->V G w c v)->
    (c :: l').length=(v :: vs).length/\∀(j:Nat)(c':AV)(v':Value),(c :: l')[j]?=some c'->(v :: vs)[j]?=some v'->V G w c' v':=by
   intro c v l' vs h1 h2 h3
   refine⟨by simp[h2],λj c' v' hc hv=>?_⟩
   cases j with
   | zero=>simp at hc hv;subst hc;subst hv;exact h1
   | succ j=>exact h3 j c' v' (by simpa using hc) (by simpa using hv)
  cases r with
  | tmp t=>
   simp only[v_r,J_7]at hc
   obtain⟨res',hres,rfl⟩:=hc
   simp only[q5_,J_7]at hl
   obtain⟨l',hl',rfl⟩:=hl
   obtain⟨vs,h1,h2,h3⟩:=ih res' l' hres hl'
   have hv:=sr.stands (.tmp t)
   refine⟨a.tmps.getD t undef :: vs,?_,cons hv h2 h3⟩
   simp only[List.mapM_cons,Sem.run_bind,Sem.run_pure,Result.andThen_ok,h1]
  | cell x t=>
   simp only[v_r]at hc
   split at hc
   ·rename_i b i res' hb hi hres
    cases hc
    simp only[q5_]at hl
    split at hl
    ·rename_i c l' hld hl'
     cases hl
     obtain⟨vs,h1,h2,h3⟩:=ih res' l' hres hl'
     obtain⟨u,hu,hV⟩:=d_y (P:=P) sr.gam (sr.stands (.tmp x)) hld (P3_ hb) (w2_ hi)
     refine⟨u :: vs,?_,cons hV h2 h3⟩
     have hu':((do loadVar t (<-asAddr (a.tmps.getD x undef)):Sem Value)).run P w=.ok u w:=by
      have he:a.eval (.tmp x)=a.tmps.getD x undef:=rfl
      rw[he]at hu
      generalize a.tmps.getD x undef=q at hu
      cases q with
      | pointer p=>cases p with
       | none=>simp[Instr.loadAt,Instr.sureAddr]at hu
       | some p=>simpa [Instr.loadAt,Instr.sureAddr,asAddr] using hu
      | _=>simp[Instr.loadAt,Instr.sureAddr]at hu
     simp only[List.mapM_cons,Sem.run_bind,Sem.run_pure]
     simp only[Sem.run_bind]at hu'
     rw[hu']
     simp only[Result.andThen_ok,h1]
    ·cases hl
   ·cases hc
theorem t0_ {G w st a}(sr:SR n keep G0 w0 G w st a){fn:Func}{res:List h_u}{l:List AV}(hc:v_r P keep fn.results.toList=some res)(hl:q5_ st res=some l):
  ∃v,(results fn a.tmps).run P w=.ok v w/\V G w (B3_ l) v:=by
 obtain⟨vs,h1,h2,h3⟩:=f_8 sr fn.results.toList res l hc hl
 have hm:(fn.results.mapM fun
   | .tmp t=>pure (a.tmps.getD t undef)
   | .cell x t=>do loadVar t (<-asAddr (a.tmps.getD x undef)):Sem (Array Value)).run P w=.ok vs.toArray w:=by
  have e:∀(x:Sem (List Value)),(Functor.map List.toArray x:Sem (Array Value)).run P w=(x.run P w).andThen λa w'=>.ok a.toArray w':=λx=>Sem.run_bind' P x _ w
  rw[Array.mapM_eq_mapM_toList,e,h1]
  rfl
 refine⟨if h:vs.toArray.size=1 then vs.toArray[0] else .tuple vs.toArray,?_,?_⟩
 ·unfold results
  rw[Sem.run_bind]
  exact (congrArg (λr=>Result.andThen r _) hm).trans rfl
 ·unfold B3_
  split
  ·rename_i x
   have hs:vs.length=1:=by simpa using h2.symm
   rw[dif_pos (by simpa using hs)]
   exact h3 0 x _ rfl (by simp[hs])
  ·rename_i hne
   have hs:¬vs.toArray.size=1:=by
    intro hs
    have:l.length=1:=by rw[h2];simpa using hs
    obtain⟨x,hx⟩:=List.length_eq_one_iff.1 this
    exact hne x hx
   rw[dif_neg hs]
   exact .tup _ _ (by simpa using h2) (λj c v hc hv=>h3 j c v hc (by simpa using hv))
theorem a4_ {f:FuncId}{fn:AFn}(hf:cFn P keep f=some fn){avs:List AV}(hn:avs.length<=fn.n){h:a0_}{K:AV->a0_->Prop}
  (hk:vc P fn.code (Y0_ keep avs h) (b2_ fn.res K)):a6_ P f avs h K:=by
 unfold cFn at hf
 split at hf
 ·rename_i fd hfd
  split at hf
  ·rename_i c hc
   split at hf
   ·rename_i ac res hac hres
    cases hf
    intro G w vs hg hv
    refine calls_of_wp hfd hc ?_
    have sr:SR fd.ntmps keep G w G w (Y0_ keep avs h) {tmps:=vs++Array.replicate (fd.ntmps-vs.size) undef,defers:=[]}:=by
     have hle:vs.size<=fd.ntmps:=by rw[<-hv.1];exact hn
     have env:∀(p:Nat->Bool)(s:Nat),V G w (lk s (C9_ p 0 avs)) ((vs++Array.replicate (fd.ntmps-vs.size) undef).getD s undef):=by
      intro p s
      rcases f_g p avs 0 s with e | ⟨_,e⟩
      ·rw[e];exact .top _
      ·simp only[Nat.sub_zero]at e
       obtain⟨v,hv',hV⟩:=hv.get e
       have hlt:=(K_4.1 hv').1
       have:(vs++Array.replicate (fd.ntmps-vs.size) undef).getD s undef=v:=by
        simp[L_9,hlt]
        have:=hv'
        simp[hlt]at this
        exact this
       rw[this];exact hV
     exact⟨hg,by simp;omega,rfl,λs _=>env keep s,λs _=>env _ s,Stp.refl G w⟩
    refine wp_mono (b_2 c ac hac sr hk) ?_
    intro e a w' hp
    have fin:∀{G' st'},SR fd.ntmps keep G w G' w' st' a->b2_ res K .ret st'->a.defers=[]/\∃v,(results fd a.tmps).run P w'=.ok v w' /\
      ∃v0 r h' G',Ending.returned v=.returned v0/\K r h'/\Gam G' w' h'/\V G' w' r v0/\Stp G w G' w':=by
     intro G' st' sr' hK
     simp only[b2_]at hK
     split at hK
     ·rename_i l hl
      obtain⟨v,hrun,hV⟩:=t0_ (P:=P) sr' hres hl
      exact⟨sr'.defers,v,hrun,v,_,_,G',rfl,hK,sr'.gam,hV,sr'.stp⟩
     ·exact hK.elim
    cases e with
    | normal=>obtain⟨G',st',sr',hK⟩:=hp;exact fin sr' hK
    | ret=>obtain⟨G',st',sr',hK⟩:=hp;exact fin sr' hK
    | exit id=>obtain⟨G',st',sr',hK⟩:=hp;exact hK.elim
    | goto l=>exact hp.elim
    | panic c=>exact hp.elim
    | outgrown=>exact hp.elim
   ·cases hf
  ·cases hf
 ·cases hf
end
end Glb
