/-
  A library of its own.
-/
import Derived.Test.YtdeiamnhnfmilaaGreatGlbLibA
import Derived.Scope
import Derived.OrdersIn
import Derived.TacticsIn
import Derived.RangeFuncOwn
import Derived.Sort.LoopGhostIn
set_option linter.unusedSimpArgs false
set_option linter.unusedVariables false
namespace Glb
open Go
structure DO where
 i:Nat
 nm:Nat
 hv:Bool
 op:iY
 aA:Option (fE×Bool)
structure DS where
 L:fX
 R:fX
 h:eX
 aE:List (Nat×AV×Bool×Nat×AV)
 aC:List (Nat×Nat×e_)
def DS.aA (d:DS):fE->AV
 | .aC s=>lk s d.L
 | .aD s=>lk s d.R
 | .aA v=>v
def DS.aD (d:DS)(i:Nat)(v:AV):DS:={d with R:=(i,v) :: d.R}
def gN (lo k:Nat):AV->Bool
 | .aC m _ _ _=>decide (m<lo) || decide (lo+k<=m)
 | _=>true
def ki:List (Nat×Nat×e_)->eX->eX
 | [],h=>h
 | x :: r,h=>ki r (h.set x.2.1 none)
def j9:List (Nat×Nat×e_)->eX->eX
 | [],h=>h
 | x :: r,h=>(j9 r h).set x.2.1 (some x.2.2)
def mV:Option (Option e_)->Bool
 | some none=>true
 | _=>false
def mC (dep:Nat->Nat->Bool)(lo k i:Nat)(lts:List (Nat×Nat×e_))(h:eX):Bool:=
 (List.range k).all λq=>(lts.any λx=>dep i x.1 && x.2.1 == lo+q) || mV h[lo+q]?
def py (dep:Nat->Nat->Bool)(i:Nat)(h:eX):List (Nat×AV×Bool×Nat×AV)->Prop
 | []=>True
 | p :: r=>(dep i p.1=true\/ir h p.2.2.1 p.2.2.2.1 p.2.1=some p.2.2.2.2)/\py dep i h r
def t8 (dep:Nat->Nat->Bool)(lo k i:Nat)(d:DS)(xs:List (Nat×Nat×e_))(v:AV)(h':eX)(next:DS->Prop):Prop:=
 mC dep lo k i d.aC h'=true/\py dep i (j9 xs h') d.aE/\next {d.aD i v with h:=j9 xs h'}
def kV (P:Program)(dep:Nat->Nat->Bool)(lo k:Nat)(o:DO)(d:DS)(next:DS->Prop):Prop:=
 match o.hv,o.op with
 | false,.r (.aA agg n x)=>match ir d.h agg n (d.aA x) with
  | some v=>gN lo k (d.aA x)=true/\next {d.aD o.i v with aE:=(o.i,d.aA x,agg,n,v) :: d.aE}
  | none=>False
 | false,.r ro=>match gG d.aA [] ro with
  | some v=>next (d.aD o.i v)
  | none=>False
 | false,.h ho=>match jz d.aA (lo+o.nm) ho with
  | some (v,b)=>next {d.aD o.i v with h:=d.h.set (lo+o.nm) (some b),aC:=(o.i,lo+o.nm,b) :: d.aC}
  | none=>False
 | true,.h ho=>
  let xs:=d.aC.filter λx=>!dep o.i x.1
  match jY d.aA (ki xs d.h) ho with
  | some (v,h')=>t8 dep lo k o.i d xs v h' next
  | none=>False
 | true,.aC f args=>
  let xs:=d.aC.filter λx=>!dep o.i x.1
  fK P f=true/\fC P f (args.map d.aA) (ki xs d.h) λv h'=>t8 dep lo k o.i d xs v h' next
 | true,.aD x args=>
  let xs:=d.aC.filter λx=>!dep o.i x.1
  match d.aA x with
  | .aK f fs cs=>fK P f=true/\fC P f (fs++args.map d.aA++cs) (ki xs d.h) λv h'=>t8 dep lo k o.i d xs v h' next
  | _=>False
 | _,_=>False
def gP (P:Program)(dep:Nat->Nat->Bool)(lo k:Nat):List DO->DS->(DS->Prop)->Prop
 | [],d,K=>K d
 | o :: r,d,K=>
  match o.aA with
  | none=>kV P dep lo k o d λd'=>gP P dep lo k r d' K
  | some (x,want)=>match d.aA x with
   | .aE b=>(b=want->kV P dep lo k o d λd'=>gP P dep lo k r d' K)/\(b=(!want)->gP P dep lo k r (d.aD o.i (.aI [])) K)
   | .aI _=>gP P dep lo k r (d.aD o.i (.aI [])) K
   | _=>False
def nU (R:fX):List (Nat×Nat)->fX->fX
 | [],L=>L
 | (t,i) :: r,L=>nU R r (mU t (lk i R) L)
structure DR where
 aD:List Nat
 k:Nat
 aC:List DO
 aE:List (Nat×Nat)
def DR.aA (r:DR)(i j:Nat):Bool:=(r.aD.getD i 0).testBit j
def Dx (P:Program)(r:DR)(st:St)(K:St->Prop):Prop:=
 gP P r.aA st.h.length r.k r.aC ⟨st.L,[],st.h++List.replicate r.k none,[],[]⟩ λd=>K ⟨nU d.R r.aE st.L,[],d.h⟩
def vm (acc:List Nat)(o:Oper):Nat:=
 o.after.toList.foldl (λs e=>if Region.binds .any e then s ||| 2^e.on ||| acc.getD e.on 0 else s) 0
def jS:List Oper->List Nat->List Nat
 | [],acc=>acc
 | o :: r,acc=>jS r (acc++[vm acc o])
def vN (t:Tmp):List Oper->Nat->Option Nat
 | [],_=>none
 | o :: r,i=>if o.dst=some t then some i else vN t r (i+1)
def mF (keep:Nat->Bool)(ops:List Oper)(masks:List Nat)(i:Nat):Operand->fE
 | .tmp t=>match vN t ops 0 with
  | some j=>if (masks.getD i 0).testBit j then .aD j else if (masks.getD j 0).testBit i && keep t then .aC t else .aA .aR
  | none=>if keep t then .aC t else .aA .aR
 | .const v=>.aA (xL v)
 | .global g=>.aA (.aN (.pointer (some ⟨g,0,none⟩)))
 | .func f=>.aA (.aK f [] [])
def iY.aA:iY->Bool
 | .h (.mk _) | .h (.aD _) | .h (.aA _ _) | .h (.aF _ _ _ _ _)=>true
 | _=>false
def iY.aE:iY->Bool
 | .r _=>false
 | a=>!a.aA
def rp (tr:Operand->fE)(ops:List Oper):Option (Nat×Bool)->Option (Option (fE×Bool))
 | none=>some none
 | some (j,want)=>match (ops[j]?).bind (·.dst) with
  | some t=>some (some (tr (.tmp t),want))
  | none=>none
def uO (P:Program)(keep:Nat->Bool)(ops:List Oper)(masks:List Nat):List Oper->Nat->Nat->Option (List DO)
 | [],_,_=>some []
 | o :: r,i,c=>
  match lj P (mF keep ops masks i) o,rp (mF keep ops masks i) ops o.guard with
  | some op,some g=>(uO P keep ops masks r (i+1) (if op.aA then c+1 else c)).map (⟨i,c,op.aE,op,g⟩ :: ·)
  | _,_=>none
def OM (masks:List Nat)(all:List DO)(o:DO):Nat:=(all.filter λx=>x.hv && (masks.getD o.i 0).testBit x.i).length
def GH (i f:Nat):List (Nat×Nat)->List (Nat×Nat)
 | []=>[(i,f)]
 | x :: r=>if f<x.2 then (i,f) :: x :: r else x :: GH i f r
def PR (masks:List Nat)(all:List DO):List Nat:=
 (all.foldl (λacc o=>GH o.i (2*OM masks all o+(if o.hv then 1 else 0)) acc) []).map (·.1)
def pK (dep:Nat->Nat->Bool)(k:Nat):List DO->Bool
 | []=>true
 | o :: r=>r.all (λx=>!(x.i == o.i) && !dep o.i x.i && (!o.hv || dep x.i o.i) && (!o.op.aA || !x.op.aA || !(x.nm == o.nm))) && (!o.op.aA || decide (o.nm<k)) && pK dep k r
def xq:List Oper->Bool
 | []=>true
 | o :: r=>(match o.dst with | some t=>r.all λx=>!(x.dst == some t) | none=>true) && xq r
def xr:List Oper->Nat->Bool
 | [],_=>true
 | o :: r,i=>o.after.toList.all (λe=>!Region.binds .any e || decide (e.on<i)) && xr r (i+1)
def nV (keep:Nat->Bool):List Oper->Nat->List (Nat×Nat)
 | [],_=>[]
 | o :: r,i=>match o.dst with
  | some t=>if keep t then (t,i) :: nV keep r (i+1) else nV keep r (i+1)
  | none=>nV keep r (i+1)
def uP (P:Program)(n:Nat)(keep:Nat->Bool)(ops:List Oper):Option DR:=
 let masks:=jS ops []
 match uO P keep ops masks ops 0 0 with
 | some all=>
  let items:=(PR masks all).filterMap (all[·]?)
  let k:=(all.filter (·.op.aA)).length
  if pK (λi j=>(masks.getD i 0).testBit j) k items && xq ops && xr ops 0 && (List.range ops.length).all (λi=>items.any λo=>o.i == i)
    && ops.all (λo=>match o.dst with | some t=>decide (t<n) | none=>true) then
   some ⟨masks,k,items,nV keep ops 0⟩
  else none
 | none=>none
theorem Tl (u:List Nat)(j:Nat):∀(l:List Edge)(s:Nat),
  (l.foldl (λs e=>if Region.binds .any e then s ||| 2^e.on ||| u.getD e.on 0 else s) s).testBit j=true->
  s.testBit j=true\/∃e∈l,Region.binds .any e=true/\(e.on=j\/(u.getD e.on 0).testBit j=true):=by
 intro l;induction l with
 | nil=>intro s h;exact .inl h
 | cons e l ih=>
  intro s h;simp only[W8]at h;rcases ih _ h with h1 | ⟨e',C,h1⟩
  ·split at h1
   ·rename_i hb;simp only[Nat.testBit_or,We,Nat.testBit_two_pow,VD]at h1;rcases h1 with (h1 | h1) | h1;·exact .inl h1
    ·exact .inr ⟨e,by simp,hb,.inl h1⟩
    ·exact .inr ⟨e,by simp,hb,.inr h1⟩
   ·exact .inl h1
  ·exact .inr ⟨e',by simp[C],h1⟩
theorem OX:∀(ops:List Oper)(e:List Nat),(jS ops e).length=e.length+ops.length:=by
 intro ops;induction ops with
 | nil=>intro e;simp[jS]
 | cons o r ih=>intro e;simp only[jS,ih];simp;omega
theorem G5:∀(ops:List Oper)(e:List Nat)(j:Nat),j<e.length->(jS ops e).getD j 0=e.getD j 0:=by
 intro ops;induction ops with
 | nil=>intro e j _;rfl
 | cons o r ih=>intro e j hj;simp only[jS];rw[ih _ j (by simp;omega)];simp[Vy hj]
theorem G6:∀(ops:List Oper)(u:List Nat)(i:Nat)(o:Oper),ops[i]?=some o->
  ∃e:List Nat,(jS ops u).getD (u.length+i) 0=vm e o/\e.length=u.length+i/\∀j,j<u.length+i->e.getD j 0=(jS ops u).getD j 0:=by
 intro ops;induction ops with
 | nil=>intro u i o h;simp at h
 | cons x r ih=>
  intro u i o h;cases i with
  | zero=>
   simp at h;subst h;refine⟨u,?_,by simp,λj hj=>?_⟩;·simp only[jS];rw[G5 _ _ _ (by simp)];simp
   ·simp only[jS];rw[G5 _ _ _ (by simp;omega)];simp at hj;simp[Vy hj]
  | succ i=>simp only[jS];obtain⟨e,h1,h2,h3⟩:=ih (u++[vm u x]) i o (by simpa using h);simp only[U1,Vf,Ve]at h1 h2 h3;exact⟨e,by rw[<-h1];congr 1;omega,by omega,λj hj=>h3 j (by omega)⟩
theorem Cf {ops:List Oper} (he:∀(i:Nat)(o:Oper),ops[i]?=some o->∀e∈o.after.toList,Region.binds .any e=true->e.on<i) {i j:Nat} {o:Oper} (ho:ops[i]?=some o)
  (hd:((jS ops []).getD i 0).testBit j=true):∃e∈o.after.toList,Region.binds .any e=true/\(e.on=j\/((jS ops []).getD e.on 0).testBit j=true):=by
 obtain⟨u,h1,h2,h3⟩:=G6 ops [] i o ho;simp only[Ve,WR]at h1 h2 h3;rw[h1]at hd;unfold vm at hd;rcases Tl u j _ _ hd with h | ⟨e,hm,hb,h⟩;·simp at h
 ·refine⟨e,hm,hb,?_⟩;rcases h with h | h;·exact .inl h
  ·rw[h3 _ (he i o ho e hm hb)]at h;exact .inr h
theorem Mp:∀(ops:List Oper)(k:Nat),xr ops k=true->∀(i:Nat)(o:Oper),ops[i]?=some o->∀e∈o.after.toList,Region.binds .any e=true->e.on<k+i:=by
 intro ops;induction ops with
 | nil=>intro k _ i o h;simp at h
 | cons x r ih=>
  intro k hk i o h e he hb;simp only[xr,Vq]at hk;cases i with
  | zero=>simp at h;subst h;have:=Wt.1 hk.1 e he;simp[hb]at this;omega
  | succ i=>have:=ih (k+1) hk.2 i o (by simpa using h) e he hb;omega
theorem Mj:∀(ops:List Oper),xq ops=true->∀(i j:Nat)(o p:Oper)(t:Tmp),ops[i]?=some o->ops[j]?=some p->o.dst=some t->p.dst=some t->i=j:=by
 intro ops;induction ops with
 | nil=>intro _ i j o p t h;simp at h
 | cons x r ih=>
  intro hk i j o p t hi hj ho hp;simp only[xq,Vq]at hk;have aux:∀(q:Oper)(m:Nat),r[m]?=some q->q.dst=some t->x.dst=some t->False:=by intro q m hm hq hx;have h1:=hk.1;rw[hx]at h1;have:=Wt.1 h1 q (WN hm);simp[hq]at this
  cases i with
  | zero=>
   simp at hi;subst hi;cases j with
   | zero=>rfl
   | succ j=>exact (aux p j (by simpa using hj) hp ho).elim
  | succ i=>
   cases j with
   | zero=>simp at hj;subst hj;exact (aux o i (by simpa using hi) ho hp).elim
   | succ j=>rw[ih hk.2 i j o p t (by simpa using hi) (by simpa using hj) ho hp]
theorem US (t:Tmp):∀(ops:List Oper)(k:Nat),match vN t ops k with
  | some j=>k<=j/\∃o,ops[j-k]?=some o/\o.dst=some t
  | none=>∀(i:Nat)(o:Oper),ops[i]?=some o->o.dst≠some t:=by
 intro ops;induction ops with
 | nil=>intro k;simp[vN]
 | cons x r ih=>
  intro k;simp only[vN];by_cases h:x.dst=some t;·rw[U4 h];exact⟨U8 _,x,by simp,h⟩
  ·rw[U6 h];have:=ih (k+1);split at this;·rename_i j hj;obtain⟨h1,o,h2,h3⟩:=this;exact⟨by omega,o,by rw[show j-k=(j-(k+1))+1 by omega];simpa using h2,h3⟩
   ·rename_i hj;intro i o hi;cases i with
    | zero=>simp at hi;subst hi;exact h
    | succ i=>exact this i o (by simpa using hi)
theorem K8 {P:Program}{keep:Nat->Bool}{ops:List Oper}{masks:List Nat}:∀(l:List Oper)(i c:Nat)(all:List DO),uO P keep ops masks l i c=some all->
  all.length=l.length/\∀(j:Nat)(d:DO),all[j]?=some d->d.i=i+j/\d.hv=d.op.aE/\∃o,l[j]?=some o/\lj P (mF keep ops masks (i+j)) o=some d.op/\rp (mF keep ops masks (i+j)) ops o.guard=some d.aA:=by
 intro l;induction l with
 | nil=>intro i c all h;simp only[uO,U_]at h;subst h;exact⟨rfl,λj d h=>by simp at h⟩
 | cons o r ih=>
  intro i c all h;simp only[uO]at h;split at h
  ·rename_i op g hop hg;simp only[Vl]at h;obtain⟨all',hall,rfl⟩:=h;obtain⟨h1,h2⟩:=ih _ _ _ hall;refine⟨by simp[h1],λj d hd=>?_⟩;cases j with
   | zero=>simp at hd;subst hd;exact⟨rfl,rfl,o,rfl,hop,hg⟩
   | succ j=>
    obtain⟨a,b,o',c',e,f⟩:=h2 j d (by simpa using hd);have:i+1+j=i+(j+1):=by omega
    rw[this]at a e f;exact⟨a,b,o',by simpa using c',e,f⟩
  ·cases h
theorem Tm (C:List Nat)(j:Nat):∀(l:List Edge)(s:Nat),(s.testBit j=true\/∃e∈l,Region.binds .any e=true/\(e.on=j\/(C.getD e.on 0).testBit j=true))->
  (l.foldl (λs e=>if Region.binds .any e then s ||| 2^e.on ||| C.getD e.on 0 else s) s).testBit j=true:=by
 intro l;induction l with
 | nil=>
  intro s h;rcases h with h | ⟨e,he,_⟩;·exact h
  ·simp at he
 | cons e l ih=>
  intro s h;simp only[W8];apply ih;rcases h with h | ⟨e',u,hb,h⟩
  ·left;split;·simp[Nat.testBit_or,h]
   ·exact h
  ·rcases VP.1 u with rfl | u
   ·left;rw[U4 hb];rcases h with h | h;·simp[Nat.testBit_or,h]
    ·rw[Nat.testBit_or,h,Xo]
   ·exact .inr ⟨e',u,hb,h⟩
theorem F7 {ops:List Oper} (he:∀(i:Nat)(o:Oper),ops[i]?=some o->∀e∈o.after.toList,Region.binds .any e=true->e.on<i) {i j:Nat} {o:Oper} (ho:ops[i]?=some o)
  {e:Edge} (hm:e∈o.after.toList) (hb:Region.binds .any e=true) (h:e.on=j\/((jS ops []).getD e.on 0).testBit j=true):((jS ops []).getD i 0).testBit j=true:=by
 obtain⟨u,h1,h2,h3⟩:=G6 ops [] i o ho;simp only[Ve,WR]at h1 h2 h3;rw[h1];unfold vm;refine Tm u j _ _ (.inr ⟨e,hm,hb,?_⟩);rcases h with h | h;·exact .inl h
 ·rw[h3 _ (he i o ho e hm hb)];exact .inr h
theorem G7 {ops:List Oper}{i:Nat} (h:ops[i]?=none):(jS ops []).getD i 0=0:=by
 have hl:(jS ops []).length<=i:=by rw[OX];simpa using (List.getElem?_eq_none_iff.1 h)
 simp[VH hl]
theorem L_ {ops:List Oper} (he:∀(i:Nat)(o:Oper),ops[i]?=some o->∀e∈o.after.toList,Region.binds .any e=true->e.on<i):∀(i j k:Nat),
  ((jS ops []).getD i 0).testBit j=true->((jS ops []).getD j 0).testBit k=true->((jS ops []).getD i 0).testBit k=true:=by
 intro i;induction i using Nat.strongRecOn with
 | _ i ih=>
  intro j k h1 h2;cases ho:ops[i]? with
  | none=>rw[G7 ho]at h1;simp at h1
  | some o=>
   obtain⟨e,hm,hb,h⟩:=Cf he ho h1;rcases h with h | h;·subst h;exact F7 he ho hm hb (.inr h2)
   ·exact F7 he ho hm hb (.inr (ih e.on (he i o ho e hm hb) j k h h2))
theorem L9 {ops:List Oper} (he:∀(i:Nat)(o:Oper),ops[i]?=some o->∀e∈o.after.toList,Region.binds .any e=true->e.on<i):∀(i j:Nat),
  ((jS ops []).getD i 0).testBit j=true->j<i:=by
 intro i;induction i using Nat.strongRecOn with
 | _ i ih=>
  intro j h1;cases ho:ops[i]? with
  | none=>rw[G7 ho]at h1;simp at h1
  | some o=>
   obtain⟨e,hm,hb,h⟩:=Cf he ho h1;have hlt:=he i o ho e hm hb;rcases h with h | h;·omega
   ·have:=ih e.on hlt j h;omega
structure DF (P:Program)(n:Nat)(keep:Nat->Bool)(ops:List Oper)(r:DR):Prop where
 aI:r.aD=jS ops []
 aC:∀o∈r.aC,o.hv=o.op.aE/\∃op,ops[o.i]?=some op/\lj P (mF keep ops r.aD o.i) op=some o.op/\rp (mF keep ops r.aD o.i) ops op.guard=some o.aA
 aA:pK r.aA r.k r.aC=true
 aF:∀(i j:Nat)(o p:Oper)(t:Tmp),ops[i]?=some o->ops[j]?=some p->o.dst=some t->p.dst=some t->i=j
 aE:∀(i:Nat)(o:Oper),ops[i]?=some o->∀e∈o.after.toList,Region.binds .any e=true->e.on<i
 aG:∀i,i<ops.length->∃o∈r.aC,o.i=i
 lt:∀op∈ops,∀t,op.dst=some t->t<n
 aH:r.aE=nV keep ops 0
theorem K9 {P:Program}{n:Nat}{keep:Nat->Bool}{ops:List Oper}{r:DR}(h:uP P n keep ops=some r):DF P n keep ops r:=by
 unfold uP at h;simp only at h;split at h
 ·rename_i all C;split at h
  ·rename_i hc;cases h;simp only[Vq]at hc;obtain⟨⟨⟨⟨h1,h2⟩,h3⟩,h4⟩,h5⟩:=hc;refine⟨rfl,λo ho=>?_,h1,Mj ops h2,λi o hi e he hb=>by have:=Mp ops 0 h3 i o hi e he hb;omega,λi hi=>?_,λop E t ht=>?_,rfl⟩;·simp only[List.mem_filterMap]at ho;obtain⟨j,_,hj⟩:=ho;obtain⟨_,u⟩:=K8 ops 0 0 all C;obtain⟨e1,e2,op,e3,e4,e5⟩:=u j o hj;simp only[WR]at e1 e4 e5;subst e1;exact⟨e2,op,e3,e4,e5⟩
   ·have:=Wt.1 h4 i (by simpa using hi);rw[Xc]at this;obtain⟨o,ho,he⟩:=this;exact⟨o,ho,by simpa using he⟩
   ·have:=Wt.1 h5 op E;rw[ht]at this;simpa using this
  ·cases h
 ·cases h
theorem nE {dep:Nat->Nat->Bool}{k:Nat}:∀{l:List DO},pK dep k l=true->∀o∈l,o.op.aA=true->o.nm<k:=by
 intro l;induction l with
 | nil=>intro _ o h;simp at h
 | cons x r ih=>
  intro h o ho hl;simp only[pK,Vq]at h;rcases VP.1 ho with rfl | ho;·have:=h.1.2;simp[hl]at this;exact this
  ·exact ih h.2 o ho hl
theorem rM {dep:Nat->Nat->Bool}{k:Nat}:∀{pre rest:List DO},pK dep k (pre++rest)=true->∀o∈pre,∀x∈rest,
  x.i≠o.i/\dep o.i x.i=false/\(o.hv=true->dep x.i o.i=true)/\(o.op.aA=true->x.op.aA=true->x.nm≠o.nm):=by
 intro pre;induction pre with
 | nil=>intro rest _ o h;simp at h
 | cons y pre ih=>
  intro rest h o ho x hx;simp only[WM,pK,Vq]at h;rcases VP.1 ho with rfl | ho
  ·have:=Wt.1 h.1.1 x (by simp[hx]);simp only[Vq,Xg,We,beq_eq_false_iff_ne]at this;obtain⟨⟨⟨a,b⟩,c⟩,d⟩:=this;refine⟨a,b,λhv=>?_,λh1 h2=>?_⟩
   ·rcases c with c | c;·rw[hv]at c;cases c
    ·exact c
   ·rcases d with (d | d) | d;·rw[h1]at d;cases d
    ·rw[h2]at d;cases d
    ·exact d
  ·exact ih h.2 o ho x hx
theorem qp:∀(xs:List (Nat×Nat×e_)) (h:eX) (m:Nat),(ki xs h).length=h.length /\
  ((∃x∈xs,x.2.1=m)->m<h.length->(ki xs h)[m]?=some none)/\((∀x∈xs,x.2.1≠m)->(ki xs h)[m]?=h[m]?):=by
 intro xs;induction xs with
 | nil=>intro h m;exact⟨rfl,λ⟨x,hx,_⟩=>by simp at hx,λ_=>rfl⟩
 | cons x r ih=>
  intro h m;obtain⟨a,b,c⟩:=ih (h.set x.2.1 none) m;refine⟨by simpa [ki] using a,?_,?_⟩
  ·rintro⟨y,hy,hm⟩ hlt;by_cases hr:∃z∈r,z.2.1=m;·exact b hr (by simpa using hlt)
   ·have u:∀z∈r,z.2.1≠m:=λz hz e=>hr ⟨z,hz,e⟩;rcases VP.1 hy with rfl | hy;·simp only[ki];rw[c u,hm,U5 hlt]
    ·exact absurd hm (u y hy)
  ·intro hn;simp only[ki];rw[c (λz hz=>hn z (by simp[hz])),UZ (hn x (by simp))]
theorem oO:∀(xs:List (Nat×Nat×e_)) (h:eX) (m:Nat),(j9 xs h).length=h.length/\((∀x∈xs,x.2.1≠m)->(j9 xs h)[m]?=h[m]?):=by
 intro xs;induction xs with
 | nil=>intro h m;exact⟨rfl,λ_=>rfl⟩
 | cons x r ih=>intro h m;obtain⟨a,b⟩:=ih h m;refine⟨by simpa [j9] using a,λhn=>?_⟩;simp only[j9];rw[UZ (hn x (by simp)),b (λz hz=>hn z (by simp[hz]))]
theorem Ir:∀(xs:List (Nat×Nat×e_)) (h:eX),(xs.map (·.2.1)).Nodup->∀x∈xs,x.2.1<h.length->(j9 xs h)[x.2.1]?=some (some x.2.2):=by
 intro xs;induction xs with
 | nil=>intro h _ x hx;simp at hx
 | cons y r ih=>
  intro h hn x hx hlt;simp only[Vv,Xf,Wr,not_exists,not_and]at hn;simp only[j9];rcases VP.1 hx with rfl | hx;·rw[U5 (by rw[(oO r h 0).1];exact hlt)]
  ·rw[UZ (λe=>hn.1 x hx e.symm)];exact ih h hn.2 x hx hlt
theorem Kr:∀(E:List (Nat×Nat×e_)) {G:Gh} {w:World} {h:eX},fO G w h->(E.map (·.2.1)).Nodup->
  (∀x∈E,h[x.2.1]?=some (some x.2.2)/\(∃sz es gr,x.2.2=.aA sz es gr)/\∃b,G.aA x.2.1=some b)->
  ∃Gk,fO Gk w (ki E h)/\ic G w Gk w/\(∀n,Gk.aA n=G.aA n)/\(∀n,Gk.aE n↔G.aE n) /\
   ∀{G' w' h'},gI Gk w G' w'->fO G' w' h'->(∀x∈E,h'[x.2.1]?=some none)->
    ∃C,fO C w' (j9 E h')/\gI G w C w'/\ic G' w' C w'/\(∀n,C.aA n=G'.aA n)/\(∀n,C.aE n↔G'.aE n):=by
 intro E;induction E with
 | nil=>intro G w h g _ _;exact⟨G,g,ic.aI G w,λ_=>rfl,λ_=>WA,fun {G' w' h'} s g' _=>⟨G',g',s,ic.aI G' w',λ_=>rfl,λ_=>WA⟩⟩
 | cons x r ih=>
  intro G w h g hn hE;simp only[Vv,Xf,Wr,not_exists,not_and]at hn;obtain⟨hx,⟨sz,es,gr,hb⟩,b,I⟩:=hE x (by simp);rw[hb]at hx;have g1:=g.aR hx;obtain⟨Gk,h1,h2,h3,h4,h5⟩:=ih g1 hn.2 (λy hy=>by obtain⟨p,q,s⟩:=hE y (by simp[hy]);exact⟨by rw[UZ (λe=>hn.1 y hy e.symm)];exact p,q,s⟩);refine⟨Gk,h1,(G.aO w x.2.1).aG h2,h3,h4,fun {G' w' h'} s g' u=>?_⟩;obtain⟨G1,a1,a2,a3,a4,a5⟩:=h5 s g' (λy hy=>u y (by simp[hy]));have M:(j9 r h')[x.2.1]?=some none:=by rw[(oO r h' x.2.1).2 (λz hz e=>hn.1 z hz e)];exact u x (by simp)
  obtain⟨b1,b2⟩:=g.bC hx I a2 a1 M;refine⟨G1.aP x.2.1,?_,b2,?_,λn=>a4 n,λn=>a5 n⟩;·simp only[j9,hb];exact b1
  ·exact a3.aG ⟨U8 _,λ_ _ _ h=>h,λ_ _ h=>h,λt b h=>by cases t<;>exact h,λ_ _ _=>rfl,λ_ _=>rfl⟩
section
variable {P:Program} {n:Nat} {keep:Nat->Bool} {ops:List Oper} {r:DR} {L0:fX} {lo:Nat} {G0:Gh} {w0:World}
def EB (P:Program)(r:DR)(L0:fX)(lo:Nat)(d:DS)(o:DO):Prop:=
 ∃γ:fE->AV,(∀j,r.aA o.i j=true->γ (.aD j)=lk j d.R)/\(∀t,γ (.aC t)=lk t L0)/\(∀v,γ (.aA v)=v) /\
  ((∃x want,o.aA=some (x,want)/\((γ x=.aE (!want))\/∃cs,γ x=.aI cs)/\lk o.i d.R=.aI []/\(o.op.aA=true->d.h[lo+o.nm]?=some none)) \/
   ((o.aA=none\/∃x want,o.aA=some (x,want)/\γ x=.aE want) /\
   ((∃agg nn x,o.op=.r (.aA agg nn x)/\gN lo r.k (γ x)=true/\ir d.h agg nn (γ x)=some (lk o.i d.R)/\(o.i,γ x,agg,nn,lk o.i d.R)∈d.aE) \/
    (∃ro,o.op=.r ro/\(∀h,gG γ h ro=some (lk o.i d.R))) \/
    (∃ho b,o.op=.h ho/\o.op.aA=true/\jz γ (lo+o.nm) ho=some (lk o.i d.R,b)/\d.h[lo+o.nm]?=some (some b)))))
structure HS (r:DR)(lo:Nat)(listed:Array Bool)(d:DS)(G:Gh)(hS:eX):Prop where
 aC:hS.length=d.h.length
 aE:lo+r.k<=hS.length
 aD:∀m,(∀o∈r.aC,o.op.aA=true->listed.getD o.i false=false->m≠lo+o.nm)->hS[m]?=d.h[m]?
 aA:∀o∈r.aC,o.op.aA=true->listed.getD o.i false=false->hS[lo+o.nm]?=some none/\G.aA (lo+o.nm)=none/\¬G.aE (lo+o.nm)
abbrev Eg (r:DR)(lo:Nat)(listed:Array Bool)(pre:List DO)(h:eX)(R:fX)(G:Gh)(x:Nat×Nat×e_):Prop:=
 ∃o∈pre,o.op.aA=true/\x.1=o.i/\x.2.1=lo+o.nm/\(∃sz es gr,x.2.2=.aA sz es gr) /\
  ((∀q∈pre,q.hv=true->listed.getD q.i false=true->r.aA q.i x.1=false)->h[x.2.1]?=some (some x.2.2)) /\
  (listed.getD o.i false=true->∃b,G.aA x.2.1=some b)/\lk x.1 R≠.aI []
structure J (P:Program)(n:Nat)(keep:Nat->Bool)(ops:List Oper)(r:DR)(L0:fX)(lo:Nat)(G0:Gh)(w0:World)(listed:Array Bool)(pre rest:List DO)(d:DS)(G:Gh)(w:World)(a:Act):Prop where
 aC:r.aC=pre++rest
 aD:listed.size=ops.length
 aJ:∀i j,listed.getD i false=true->r.aA i j=true->listed.getD j false=true
 aE:∀o∈rest,listed.getD o.i false=false
 L:d.L=L0
 A:∀(i:Nat)(op:Oper)(t:Tmp),listed.getD i false=true->ops[i]?=some op->op.dst=some t->V G w (lk i d.R) (a.tmps.getD t undef)
 B:∀t,keep t=true->(∀(i:Nat)(op:Oper),listed.getD i false=true->ops[i]?=some op->op.dst≠some t)->V G w (lk t L0) (a.tmps.getD t undef)
 aM:∀o∈pre,listed.getD o.i false=false->EB P r L0 lo d o
 aF:∃hS,fO G w hS/\HS r lo listed d G hS
 aI:(d.aC.map (·.2.1)).Nodup
 aA:∀x∈d.aC,Eg r lo listed pre d.h d.R G x
 aK:∀o∈pre,o.op.aA=true->(∃x∈d.aC,x.1=o.i)\/d.h[lo+o.nm]?=some none
 aH:∀o∈rest,o.op.aA=true->d.h[lo+o.nm]?=some none
 aL:a.tmps.size=n
 aN:a.defers=[]
 aG:gI G0 w0 G w
 lo:G0.N<=lo
theorem DF.aD (F:DF P n keep ops r):∀i j,r.aA i j=((jS ops []).getD i 0).testBit j:=λi j=>by simp only[DR.aA,F.aI]
theorem DF.aJ (F:DF P n keep ops r){i j k:Nat}(h1:r.aA i j=true)(h2:r.aA j k=true):r.aA i k=true:=by rw[F.aD]at *;exact L_ F.aE i j k h1 h2
theorem J.aT {u:Array Bool}{pre rest:List DO}{d:DS}{G:Gh}{w:World}{a:Act}(F:DF P n keep ops r)(j:J P n keep ops r L0 lo G0 w0 u pre rest d G w a){i:Nat}
  (hr:i∈Region.ready .any ops.toArray u):u.getD i false=false/\i<ops.length/\(∃op,ops[i]?=some op)/\∀q,r.aA i q=true->u.getD q false=true:=by
 rw[mem_ready]at hr;obtain⟨h0,o,ho,E⟩:=hr;have C:ops[i]?=some o:=by simpa using ho
 have hlt:i<ops.length:=(UY.1 C).1;refine⟨?_,hlt,⟨o,C⟩,λq hq=>?_⟩
 ·have:i<u.size:=by rw[j.aD];exact hlt
  simp[this]at h0 ⊢;exact h0
 ·rw[F.aD]at hq;obtain⟨e,hm,hb,h⟩:=Cf F.aE C hq;have he:=E e (by simpa using hm) hb;rcases h with h | h;·rw[<-h];exact he
  ·exact j.aJ _ _ he (by rw[F.aD];exact h)
theorem J.aU {e:Array Bool}{pre rest:List DO}{d:DS}{G:Gh}{w:World}{a:Act}(F:DF P n keep ops r)(j:J P n keep ops r L0 lo G0 w0 e pre rest d G w a){i:Nat}
  (hi:e.getD i false=false) (hd:∀q,r.aA i q=true->e.getD q false=true) {γ:fE->AV}
  (h1:∀q,r.aA i q=true->γ (.aD q)=lk q d.R) (h2:∀t,γ (.aC t)=lk t L0) (h3:∀v,γ (.aA v)=v):mw G w (mF keep ops r.aD i) γ a:=by
 intro x;cases x with
 | const v=>simp only[mF,h3];exact V.aZ G w v
 | global g=>simp only[mF,h3];exact .aP _
 | func f=>simp only[mF,h3];exact .aK f [] #[] [] #[] rfl (λj c v h=>by simp at h) rfl (λj c v h=>by simp at h)
 | tmp t=>
  have hw:=US t ops 0;simp only[mF];split at hw
  ·rename_i q hq;obtain⟨_,op,M,E⟩:=hw;simp only[Nat.sub_zero]at M;split;·rename_i hb;have O:r.aA i q=true:=hb;rw[h1 q O];exact j.A q op t (hd q O) M E
   ·split;·rename_i hb;simp only[Vq]at hb;rw[h2];refine j.B t hb.2 (λp I hp u C=>?_);have:q=p:=F.aF q p op I t M u E C;subst this;have:=j.aJ q i hp hb.1;rw[hi]at this;cases this
    ·rw[h3];exact .aI _
  ·rename_i hq;split;·rename_i hk;rw[h2];exact j.B t hk (λp I _ u=>hw p I u)
   ·rw[h3];exact .aI _
theorem kQ {u:Array Bool}{i q:Nat}(hi:i<u.size):(u.setIfInBounds i true).getD q false=(decide (q=i) || u.getD q false):=by
 by_cases h:q=i
 ·subst h;simp[hi]
 ·simp[h,WD (λe=>h e.symm)]
theorem J.aS {e:Array Bool}{pre rest:List DO}{d:DS}{G:Gh}{w:World}{a:Act}(j:J P n keep ops r L0 lo G0 w0 e pre rest d G w a){i:Nat}(hi:i<ops.length)
  (hd:∀q,r.aA i q=true->e.getD q false=true):∀x q,(e.setIfInBounds i true).getD x false=true->r.aA x q=true->(e.setIfInBounds i true).getD q false=true:=by
 have hs:i<e.size:=by rw[j.aD];exact hi
 intro x q hx u;rw[kQ hs]at hx ⊢;simp only[We,VD]at hx ⊢;rcases hx with rfl | hx;·exact .inr (hd q u)
 ·exact .inr (j.aJ x q hx u)
theorem J.AB (F:DF P n keep ops r){u:Array Bool}{pre rest:List DO}{d:DS}{G:Gh}{w:World}{a:Act}(j:J P n keep ops r L0 lo G0 w0 u pre rest d G w a){i:Nat}{op:Oper} (ho:ops[i]?=some op)
  {G':Gh} {w':World} (k:ic G w G' w') {R':fX} (hR:∀q,q≠i->u.getD q false=true->lk q R'=lk q d.R) {v:Value} (hv:V G' w' (lk i R') v):
  (∀(q:Nat)(E:Oper)(t:Tmp),(u.setIfInBounds i true).getD q false=true->ops[q]?=some E->E.dst=some t->V G' w' (lk q R') ((a.put op.dst v).tmps.getD t undef)) /\
  (∀t,keep t=true->(∀(q:Nat)(E:Oper),(u.setIfInBounds i true).getD q false=true->ops[q]?=some E->E.dst≠some t)->V G' w' (lk t L0) ((a.put op.dst v).tmps.getD t undef)) /\
  (a.put op.dst v).tmps.size=n/\(a.put op.dst v).defers=[]:=by
 have hlt:i<ops.length:=(UY.1 ho).1;have hs:i<u.size:=by rw[j.aD];exact hlt
 have M:∀t,(a.put op.dst v).tmps.getD t undef=if op.dst=some t then v else a.tmps.getD t undef:=by
  intro t;cases hd:op.dst with
  | none=>simp[Act.put]
  | some s=>
   have U:s<a.tmps.size:=by rw[j.aL];exact F.lt op (WN ho) s hd
   simp only[Act.put];rw[tp U];by_cases e:t=s;·subst e;simp
   ·have:¬s=t:=λx=>e x.symm;simp[e,this]
 refine⟨λq E t hq C I=>?_,λt hk O=>?_,?_,?_⟩
 ·rw[M];by_cases e:q=i;·subst e;rw[ho]at C;cases C;rw[U4 I];exact hv
  ·rw[kQ hs]at hq;simp only[e,Wq,Bool.false_or]at hq;rw[U6 (λh=>e (F.aF q i E op t C ho I h)),hR q e hq];exact (j.A q E t hq C I).aA k
 ·rw[M,U6 (O i op (by rw[kQ hs];simp) ho)];exact (j.B t hk (λq E hq C=>O q E (by rw[kQ hs,hq];simp) C)).aA k
 ·cases hd:op.dst<;>simp[Act.put,j.aL]
 ·cases hd:op.dst<;>simp[Act.put,j.aN]
theorem J.aQ (F:DF P n keep ops r){e:Array Bool}{pre rest:List DO}{d:DS}{G:Gh}{w:World}{a:Act}(j:J P n keep ops r L0 lo G0 w0 e pre rest d G w a){o:DO}(ho:o∈pre)(hl:o.op.aA=true){m:Nat}(hm:m=lo+o.nm):m<G.N:=by obtain⟨hS,g,hs⟩:=j.aF;have:=nE F.aA o (by rw[j.aC];simp[ho]) hl;have:=hs.aE;rw[<-g.aA];omega
theorem J.aP (F : DF P n keep ops r) {u : Array Bool} {pre rest : List DO} {d : DS} {G : Gh} {w : World} {a : Act} (j : J P n keep ops r L0 lo G0 w0 u pre rest d G w a) {i : Nat} {op : Oper} (ho : ops[i]? = some op)
    (hd : ∀ q, r.aA i q = true -> u.getD q false = true) (C : ∀ o ∈ rest, o.i ≠ i)
    {G' : Gh} {w' : World} (k : ic G w G' w') {v : Value} (hv : V G' w' (lk i d.R) v) (O : gI G0 w0 G' w')
    (I : ∃ hS, fO G' w' hS /\ HS r lo (u.setIfInBounds i true) d G' hS) (hl : ∀ x ∈ d.aC, x.1 = i -> ∃ b, G'.aA x.2.1 = some b) :
    J P n keep ops r L0 lo G0 w0 (u.setIfInBounds i true) pre rest d G' w' (a.put op.dst v) := by
  have hlt : i < ops.length := (UY.1 ho).1;have hs : i < u.size := by rw [j.aD]; exact hlt
  obtain ⟨hA, hB, M, a1⟩ := j.AB F ho k (R' := d.R) (λ_ _ _ => rfl) hv;have sub : ∀ q, (u.setIfInBounds i true).getD q false = false -> u.getD q false = false := by intro q hq;rw [kQ hs] at hq;simp only [Wj] at hq;exact hq.2
  refine { aC := j.aC, aD := by simp [j.aD], aJ := j.aS hlt hd, aE := fun o h => ?_, L := j.L, A := hA, B := hB, aM := fun o h hq => j.aM o h (sub _ hq), aF := I, aI := j.aI,
           aA := λx h => ?_, aK := j.aK, aH := j.aH, aL := M, aN := a1, aG := O, lo := j.lo }
  · rw [kQ hs, j.aE o h]; simp [C o h]
  · obtain ⟨o, h1, h2, h3, h4, h5, h6, h7⟩ := j.aA x h
    refine ⟨o, h1, h2, h3, h4, h5, λhq => h6 (λq Z W U => hq q Z W (by rw [kQ hs, U]; simp)), λE => ?_, h7.2⟩;rw [kQ hs] at E;simp only [We, VD] at E;rcases E with e | E
    · exact hl x h (by rw [h3, e])
    · obtain ⟨b, hb⟩ := h7.1 E
      exact ⟨b, k.aA _ _ (j.aQ F h1 h2 h4) hb⟩
theorem CT {dep:Nat->Nat->Bool}{k:Nat}:∀{l:List DO},pK dep k l=true->∀o∈l,∀x∈l,(o.i=x.i->o=x)/\(o.op.aA=true->x.op.aA=true->o.nm=x.nm->o=x):=by
 intro l;induction l with
 | nil=>intro _ o h;simp at h
 | cons y r ih=>
  intro h o ho x hx;have C:=λz hz=>rM (pre:=[y]) (rest:=r) (by simpa using h) y (by simp) z hz;simp only[pK,Vq]at h;rcases VP.1 ho with rfl | E<;>rcases VP.1 hx with rfl | u;·exact⟨λ_=>rfl,λ_ _ _=>rfl⟩
  ·obtain⟨a,_,_,d⟩:=C x u;exact⟨λe=>absurd e.symm a,λh1 h2 e=>absurd e.symm (d h1 h2)⟩
  ·obtain⟨a,_,_,d⟩:=C o E;exact⟨λe=>absurd e a,λh1 h2 e=>absurd e (d h2 h1)⟩
  ·exact ih h.2 o E x u
theorem Lb {tr:Operand->fE}{o:Oper}{ro:nN}(h:lj P tr o=some (.r ro)):cR P tr o=some ro:=by
 unfold lj at h;split at h;·rename_i q hq;cases h;exact hq
 ·split at h;·cases h
  ·split at h<;>cases h
theorem E8 {tr:Operand->fE}{o:Oper}{ho:nK}(h:lj P tr o=some (.h ho)):cH P tr o=some ho:=by
 unfold lj at h;split at h;·cases h
 ·split at h;·rename_i q hq;cases h;exact hq
  ·split at h<;>cases h
theorem Cp {G:Gh}{w:World}{a:Act}{ops:Array Oper}{o:Oper}{j:Nat}{want:Bool}{t:Tmp}{av:AV} (hv:V G w av (a.eval (.tmp t))) (hg:o.guard=some (j,want)) (ht:(ops[j]?).bind (·.dst)=some t):
  (∀b,av=.aE b->Region.wanted o (yielded ops a.tmps)=(b == want))/\(∀cs,av=.aI cs->Region.wanted o (yielded ops a.tmps)=false):=by
 have hy:yielded ops a.tmps j=match a.tmps[t]? with | some (.bool b)=>some b | _=>none:=by simp only[yielded,ht,Wi];rfl
 have hev:a.eval (.tmp t)=(a.tmps[t]?).getD undef:=by simp[Act.eval]
 rw[hev]at hv;constructor
 ·rintro b rfl;cases hq:a.tmps[t]? with
  | none=>rw[hq]at hv;cases hv
  | some v=>rw[hq]at hv;simp only[Vu]at hv;cases hv;simp only[Region.wanted,hg,hy,hq];cases b<;>cases want<;>rfl
 ·rintro cs rfl;cases hq:a.tmps[t]? with
  | none=>simp[Region.wanted,hg,hy,hq]
  | some v=>rw[hq]at hv;simp only[Vu]at hv;cases hv;simp[Region.wanted,hg,hy,hq]
theorem J.aX (F:DF P n keep ops r){listed:Array Bool}{pre rest:List DO}{d:DS}{G:Gh}{w:World}{a:Act}(j:J P n keep ops r L0 lo G0 w0 listed pre rest d G w a){o:DO}(ho:o∈pre)
  (hi:listed.getD o.i false=false) (hd:∀q,r.aA o.i q=true->listed.getD q false=true) {Q:Exit->Act->World->Prop} {K:Act->World->Prop}
  (hK:∀G' w' a',J P n keep ops r L0 lo G0 w0 (listed.setIfInBounds o.i true) pre rest d G' w' a'->K a' w'):wpOp P ops.toArray Q o.i K a w:=by
 have hmem:o∈r.aC:=by rw[j.aC];simp[ho]
 obtain⟨hhv,op,hop,hcop,hcg⟩:=F.aC o hmem;have hlt:o.i<ops.length:=(UY.1 hop).1;have hls:o.i<listed.size:=by rw[j.aD];exact hlt
 obtain⟨γ,g1,g2,g3,hcase⟩:=j.aM o ho hi;have hstands:=j.aU F hi hd g1 g2 g3;have hrest:∀x∈rest,x.i≠o.i:=λx hx=>(rM (by rw[<-j.aC];exact F.aA) o ho x hx).1;obtain⟨hS,gam,hs⟩:=j.aF;have same:∀o'∈r.aC,o'.i=o.i->o'=o:=λo' h' e=>(CT F.aA o' h' o hmem).1 e;have hopA:ops.toArray[o.i]?=some op:=by simpa using hop
 have hs':o.op.aA=false\/d.h[lo+o.nm]?=some none->HS r lo (listed.setIfInBounds o.i true) d G hS:=by
  intro hnl;have sub:∀q,(listed.setIfInBounds o.i true).getD q false=false->listed.getD q false=false/\q≠o.i:=by intro q hq;rw[kQ hls]at hq;simp only[Wj,V7]at hq;exact⟨hq.2,hq.1⟩
  refine⟨hs.aC,hs.aE,λm hm=>?_,λo' h1 h2 h3=>hs.aA o' h1 h2 (sub _ h3).1⟩;by_cases e:o.op.aA=true/\m=lo+o.nm
  ·rcases hnl with hnl | hnl;·rw[hnl]at e;cases e.1
   ·rw[e.2,hnl];exact (hs.aA o hmem e.1 hi).1
  ·refine hs.aD m (λo' h1 h2 h3=>?_);by_cases e':o'.i=o.i;·have:=same o' h1 e';subst this;exact λx=>e ⟨h2,x⟩
   ·exact hm o' h1 h2 (by rw[kQ hls,h3];simp[e'])
 unfold wpOp;simp only[hopA];have guardX:∀x want,o.aA=some (x,want)->∃jj t,op.guard=some (jj,want)/\(ops.toArray[jj]?).bind (·.dst)=some t/\x=mF keep ops r.aD o.i (.tmp t):=by
  intro x want hg;rw[hg]at hcg;unfold rp at hcg;split at hcg;·cases hcg
  ·rename_i jj want' hgo;split at hcg;·rename_i t ht;cases hcg;exact⟨jj,t,hgo,by simpa using ht,rfl⟩
   ·cases hcg
 rcases hcase with⟨x,want,hg,hx,hval,hnone⟩ | ⟨hgd,hbody⟩
 · -- it is passed over
  obtain⟨jj,t,hgo,ht,rfl⟩:=guardX x want hg;obtain⟨s1,s2⟩:=Cp (hstands (.tmp t)) hgo ht;have hw:Region.wanted op (yielded ops.toArray a.tmps)=false:=by
   rcases hx with hx | ⟨cs,hx⟩;·rw[s1 _ hx];cases want<;>rfl
   ·exact s2 cs hx
  rw[hw];simp only[Vn,VI];refine hK G w _ (j.aP F hop hd hrest (ic.aI G w) (by rw[hval];exact .aM [] #[] rfl (λj c v h=>by simp at h)) j.aG ⟨hS,gam,hs' ?_⟩ ?_)
  ·cases hlq:o.op.aA with
   | false=>exact .inl rfl
   | true=>exact .inr (hnone hlq)
  ·intro y hy e;obtain⟨o',h1,h2,h3,h4,h5,h6,h7,h8⟩:=j.aA y hy;rw[e,hval]at h8;exact absurd rfl h8
 ·have hw:Region.wanted op (yielded ops.toArray a.tmps)=true:=by
   rcases hgd with hg | ⟨x,want,hg,hx⟩
   ·rw[hg]at hcg;unfold rp at hcg;split at hcg;·rename_i hgo;simp[Region.wanted,hgo]
    ·split at hcg<;>cases hcg
   ·obtain⟨jj,t,hgo,ht,rfl⟩:=guardX x want hg;rw[(Cp (hstands (.tmp t)) hgo ht).1 _ hx];simp
  rw[hw];simp only[VS];left;have reads:∀ro,o.op=.r ro->gG γ hS ro=some (lk o.i d.R)->op.wp P a w K Q:=by intro ro hro hrev;rw[hro]at hcop;obtain⟨u,hu,hV⟩:=Ig (P:=P) gam hstands (Lb hcop) hrev;unfold Oper.wp;rw[hu,Oper.upon_value];refine hK G w _ (j.aP F hop hd hrest (ic.aI G w) hV j.aG ⟨hS,gam,hs' (.inl (by rw[hro];rfl))⟩ ?_);intro y hy e;obtain⟨o',h1,h2,h3,_⟩:=j.aA y hy;have:=same o' (by rw[j.aC];simp[h1]) (by rw[<-h3,e]);subst this;rw[hro]at h2;cases h2
  rcases hbody with⟨agg,nn,x,hro,hres,hld,_⟩ | ⟨ro,hro,hrev⟩ | ⟨ho',b,hro,hlq,hlight,hblk⟩
  ·refine reads _ hro ?_;simp only[gG];rw[<-hld];cases hγ:γ x with
   | aC m sz i' o'=>rw[hγ]at hres;simp only[gN,We,VD]at hres;have hm:hS[m]?=d.h[m]?:=hs.aD m (λo' h1 h2 _ e=>by have:=nE F.aA o' h1 h2;omega);simp only[ir,hm]
   | _=>rfl
  ·exact reads _ hro (hrev hS)
  ·rw[hro]at hcop;obtain⟨sz,es,gr,rfl⟩:=Cy hlight;obtain⟨s,mkv,he,hm,cells,ty,u,hrun,l1,l2,l3,l4,l5⟩:=GY (P:=P) hstands (E8 hcop) hlight;obtain⟨f1,f2,f3⟩:=hs.aA o hmem hlq hi;have hN:lo+o.nm<G.N:=j.aQ F ho hlq rfl;have kp:=gam.aY f2 f3 (.cells cells ty);have gp:=gam.bE hN f1 f2 f3 (cells:=cells) (ty:=ty) l1 l2 l3 l4;have hvv:=l5 (G.aG (lo+o.nm) w.heap.size) (lo+o.nm) hN (by simp[Gh.aG]);rw[hm]at hvv;unfold Oper.wp;rw[he];simp only[Sem.run_bind,hrun,Result.andThen_ok,Sem.run_pure,Oper.upon_value];refine hK _ _ _ (j.aP F hop hd hrest kp hvv (j.aG.aM gam (by have:=j.lo;omega) f2 f3 _ _) ⟨_,gp,?_⟩ ?_)
   ·have hltS:lo+o.nm<hS.length:=by rw[gam.aA];exact hN
    refine⟨by simp[hs.aC],by simpa using hs.aE,λm hmm=>?_,λo' h1 h2 h3=>?_⟩
    ·by_cases e:m=lo+o.nm
     ·subst e;rw[U5 hltS,hblk]
     ·rw[UZ (λx=>e x.symm)];refine hs.aD m (λo' h1 h2 h3=>?_);by_cases e':o'.i=o.i;·have:=same o' h1 e';subst this;exact e
      ·exact hmm o' h1 h2 (by rw[kQ hls,h3];simp[e'])
    ·rw[kQ hls]at h3;simp only[Wj,V7]at h3;have hne:lo+o'.nm≠lo+o.nm:=by intro e;have:=(CT F.aA o' h1 o hmem).2 h2 hlq (by omega);exact h3.1 (by rw[this])
     obtain⟨a1,a2,a3⟩:=hs.aA o' h1 h2 h3.2;refine⟨by rw[UZ (λx=>hne x.symm)];exact a1,?_,a3⟩;simp only[Gh.aG,hne,VI];exact a2
   ·intro y hy e;obtain⟨o',h1,h2,h3,h4,_⟩:=j.aA y hy;have:=same o' (by rw[j.aC];simp[h1]) (by rw[<-h3,e]);subst this;exact⟨w.heap.size,by rw[h4];simp[Gh.aG]⟩
end
section
variable {P:Program} {n:Nat} {keep:Nat->Bool} {ops:List Oper} {r:DR} {L0:fX} {lo:Nat} {G0:Gh} {w0:World}
theorem pI {i q:Nat}{v:AV}{R:fX}(h:q≠i):lk q ((i,v) :: R)=lk q R:=by simp only[lk];rw[U6 (λe=>h e.symm)]
theorem rK {i:Nat}{v:AV}{R:fX}:lk i ((i,v) :: R)=v:=by simp[lk]
theorem J.aO (F : DF P n keep ops r) {C : Array Bool} {pre rest : List DO} {d d' : DS} {o : DO} {G : Gh} {w : World} {a : Act} (j : J P n keep ops r L0 lo G0 w0 C pre (o :: rest) d G w a) {v : AV}
    (hL : d'.L = d.L) (hR : d'.R = (o.i, v) :: d.R) (W : d'.h.length = d.h.length) (hh : ∀ m, (o.op.aA = true -> m ≠ lo + o.nm) -> d'.h[m]? = d.h[m]?) (hp : ∀ p ∈ d.aE, p ∈ d'.aE)
    (hw : EB P r L0 lo d' o)
    (I : (d'.aC = d.aC /\ (o.op.aA = true -> d'.h[lo + o.nm]? = some none)) \/ (o.op.aA = true /\ v ≠ .aI [] /\ ∃ sz es gr, d'.aC = (o.i, lo + o.nm, .aA sz es gr) :: d.aC /\ d'.h[lo + o.nm]? = some (some (.aA sz es gr)))) :
    J P n keep ops r L0 lo G0 w0 C (pre ++ [o]) rest d' G w a := by
  have E : r.aC = (pre ++ [o]) ++ rest := by rw [j.aC]; simp
  have ho : o ∈ r.aC := by rw [j.aC]; simp
  have hi := j.aE o (by simp)
  have split := λx hx y hy => rM (pre := pre) (rest := o :: rest) (by rw [<- j.aC]; exact F.aA) x hx y hy
  have M : ∀ x ∈ pre, o.i ≠ x.i := λx hx => (split x hx o (by simp)).1
  have u : ∀ x ∈ pre, o.op.aA = true -> x.op.aA = true -> lo + x.nm ≠ lo + o.nm := λx hx h1 h2 e => (split x hx o (by simp)).2.2.2 h2 h1 (by omega)
  refine { aC := E, aD := j.aD, aJ := j.aJ, aE := fun x hx => j.aE x (by simp [hx]), L := by rw [hL, j.L], A := fun i op t h1 h2 h3 => ?_, B := j.B, aM := fun x hx O => ?_, aF := ?_,
           aI := ?_, aA := λx hx => ?_, aK := λx hx O => ?_, aH := λx hx O => ?_, aL := j.aL, aN := j.aN, aG := j.aG, lo := j.lo }
  · rw [hR, pI (by rintro rfl; rw [hi] at h1; cases h1)]
    exact j.A i op t h1 h2 h3
  · rcases VK.1 hx with hx | hx
    · have a1 := M x hx
      have a3 : lk x.i d'.R = lk x.i d.R := by rw [hR, pI (λe => a1 e.symm)]
      have a2 : r.aA x.i o.i = false := (split x hx o (by simp)).2.1
      obtain ⟨γ, g1, g2, g3, hc⟩ := j.aM x hx O
      refine ⟨γ, λq hq => ?_, g2, g3, ?_⟩
      · rw [hR, pI (by rintro rfl; rw [a2] at hq; cases hq)]; exact g1 q hq
      · rw [a3]
        rcases hc with ⟨y, U, h1, h2, h3, h4⟩ | ⟨h1, h2⟩
        · exact .inl ⟨y, U, h1, h2, h3, λhl => by rw [hh _ (λh' => u x hx h' hl)]; exact h4 hl⟩
        · refine .inr ⟨h1, ?_⟩
          rcases h2 with ⟨agg, nn, y, e1, e2, e3, e4⟩ | ⟨ro, e1, e2⟩ | ⟨Z, b, e1, e2, e3, e4⟩
          · refine .inl ⟨agg, nn, y, e1, e2, ?_, hp _ e4⟩
            rw [<- e3]
            cases hγ : γ y with
            | aC m sz i' o' =>
              rw [hγ] at e2
              simp only [gN, We, VD] at e2
              have : d'.h[m]? = d.h[m]? := hh m (λhl e => by have := nE F.aA o ho hl; omega)
              simp only [ir, this]
            | _ => rfl
          · exact .inr (.inl ⟨ro, e1, e2⟩)
          · exact .inr (.inr ⟨Z, b, e1, e2, e3, by rw [hh _ (λh' => u x hx h' e2)]; exact e4⟩)
    · have : x = o := by simpa using hx
      subst this; exact hw
  · obtain ⟨hS, g, hs⟩ := j.aF
    refine ⟨hS, g, by rw [W]; exact hs.aC, hs.aE, λm hm => ?_, hs.aA⟩
    rw [hs.aD m hm, hh m (λhl => hm o ho hl hi)]
  · rcases I with ⟨e, _⟩ | ⟨hl, _, sz, es, gr, e, _⟩
    · rw [e]; exact j.aI
    · rw [e]
      simp only [Vv, Xf, Wr, not_exists, not_and]
      refine ⟨λx hx e' => ?_, j.aI⟩
      obtain ⟨q, q1, q2, q3, q4, _⟩ := j.aA x hx
      exact u q q1 hl q2 (by rw [<- q4, e'])
  · have old : ∀ x ∈ d.aC, Eg r lo C (pre ++ [o]) d'.h d'.R G x := by
      intro x hx
      obtain ⟨q, q1, q2, q3, q4, q5, q6, q7, q8⟩ := j.aA x hx
      refine ⟨q, by simp [q1], q2, q3, q4, q5, λhq => ?_, q7, ?_⟩
      · rw [hh _ (λhl e => u q q1 hl q2 (by rw [<- q4, e]))]
        exact q6 (λz hz => hq z (by simp [hz]))
      · rw [hR, q3, pI (λe => M q q1 e.symm), <- q3]; exact q8
    rcases I with ⟨e, _⟩ | ⟨hl, hv, sz, es, gr, e, hb⟩
    · rw [e] at hx; exact old x hx
    · rw [e] at hx
      rcases VP.1 hx with rfl | hx
      · exact ⟨o, by simp, hl, rfl, rfl, ⟨sz, es, gr, rfl⟩, λ_ => hb, (λh => by rw [hi] at h; cases h), by rw [hR, rK]; exact hv⟩
      · exact old x hx
  · rcases VK.1 hx with hx | hx
    · rcases j.aK x hx O with ⟨y, hy, e⟩ | h
      · left
        rcases I with ⟨e', _⟩ | ⟨_, _, _, _, _, e', _⟩
        · exact ⟨y, by rw [e']; exact hy, e⟩
        · exact ⟨y, by rw [e']; simp [hy], e⟩
      · right; rw [hh _ (λhl => u x hx hl O)]; exact h
    · have : x = o := by simpa using hx
      subst this
      rcases I with ⟨_, h⟩ | ⟨_, _, sz, es, gr, e, _⟩
      · exact .inr (h O)
      · exact .inl ⟨(x.i, lo + x.nm, .aA sz es gr), by rw [e]; simp, rfl⟩
  · have := (rM (pre := pre ++ [o]) (rest := rest) (by rw [<- E]; exact F.aA) o (by simp) x hx).2.2.2
    rw [hh _ (λhl e => this hl O (by omega))]
    exact j.aH x (by simp [hx]) O
def sC (d:DS)(o:DO):Prop:=o.aA=none\/∃x want,o.aA=some (x,want)/\d.aA x=.aE want
theorem Rg {γ:fE->AV}{ro:nN}{v:AV}(e:∀agg nn x,ro≠.aA agg nn x) (h:gG γ [] ro=some v):∀h',gG γ h' ro=some v:=by intro h';rw[<-h];cases ro<;>first | rfl | exact absurd rfl (e _ _ _)
theorem J.aR (F:DF P n keep ops r){K:DS->Prop}{listed:Array Bool}{G:Gh}{w:World}{a:Act}:∀(rest pre:List DO)(d:DS),J P n keep ops r L0 lo G0 w0 listed pre rest d G w a->gP P r.aA lo r.k rest d K->
  ∃pre' rest' d',J P n keep ops r L0 lo G0 w0 listed pre' rest' d' G w a /\
   ((rest'=[]/\K d')\/∃o q,rest'=o :: q/\o.hv=true/\sC d' o/\kV P r.aA lo r.k o d' λd''=>gP P r.aA lo r.k q d'' K):=by
 intro rest;induction rest with
 | nil=>intro pre d j h;exact⟨pre,[],d,j,.inl ⟨rfl,h⟩⟩
 | cons o rest ih=>
  intro pre d j h;have ho:o∈r.aC:=by rw[j.aC];simp
  have hL:∀t,d.aA (.aC t)=lk t L0:=λt=>by simp only[DS.aA,j.L]
  obtain⟨hhv,op,hop,hcop,hcg⟩:=F.aC o ho;have irr:∀{q v},r.aA o.i q=true->lk q ((o.i,v) :: d.R)=lk q d.R:=by intro q v hq;have:=L9 F.aE o.i q (by rw[<-F.aD];exact hq);exact pI (by omega)
  have skip:∀x want,o.aA=some (x,want)->(d.aA x=.aE (!want)\/∃cs,d.aA x=.aI cs)->gP P r.aA lo r.k rest (d.aD o.i (.aI [])) K->
    ∃pre' rest' d',J P n keep ops r L0 lo G0 w0 listed pre' rest' d' G w a /\
    ((rest'=[]/\K d')\/∃o q,rest'=o :: q/\o.hv=true/\sC d' o/\kV P r.aA lo r.k o d' λd''=>gP P r.aA lo r.k q d'' K):=by
   intro x want hg hx hv;refine ih (pre++[o]) (d.aD o.i (.aI [])) (j.aO F (d':=d.aD o.i (.aI [])) (v:=.aI []) rfl rfl rfl (λ_ _=>rfl) (λ_ h=>h) ?_ (.inl ⟨rfl,λhl=>j.aH o (by simp) hl⟩)) hv;exact⟨d.aA,λq hq=>(irr hq).symm,hL,λ_=>rfl,.inl ⟨x,want,hg,hx,rK,λhl=>j.aH o (by simp) hl⟩⟩
  have go:sC d o->kV P r.aA lo r.k o d (λd''=>gP P r.aA lo r.k rest d'' K)->
    ∃pre' rest' d',J P n keep ops r L0 lo G0 w0 listed pre' rest' d' G w a /\
    ((rest'=[]/\K d')\/∃o q,rest'=o :: q/\o.hv=true/\sC d' o/\kV P r.aA lo r.k o d' λd''=>gP P r.aA lo r.k q d'' K):=by
   intro hgo hv;cases hh:o.hv with
   | true=>exact⟨pre,o :: rest,d,j,.inr ⟨o,rest,rfl,hh,hgo,hv⟩⟩
   | false=>
    have gd:o.aA=none\/∃x want,o.aA=some (x,want)/\d.aA x=.aE want:=hgo;simp only[kV,hh]at hv;split at hv
    ·rename_i agg nn x _ hop';split at hv
     ·rename_i u hu;obtain⟨hres,hv⟩:=hv;have hnl:o.op.aA=false:=by rw[hop'];rfl
      refine ih (pre++[o]) _ (j.aO F (d':={d.aD o.i u with aE:=(o.i,d.aA x,agg,nn,u) :: d.aE}) (v:=u) rfl rfl rfl (λ_ _=>rfl) (λp hp=>List.mem_cons_of_mem _ hp) ?_ (.inl ⟨rfl,λhl=>by rw[hnl]at hl;cases hl⟩)) hv;refine⟨d.aA,λq hq=>(irr hq).symm,hL,λ_=>rfl,.inr ⟨gd,.inl ⟨agg,nn,x,hop',hres,?_,?_⟩⟩⟩;·simp only[DS.aD,rK];exact hu
      ·simp only[DS.aD,rK];simp
     ·exact hv.elim
    ·rename_i ro hne _ hop';split at hv
     ·rename_i u hu;have hnl:o.op.aA=false:=by rw[hop'];rfl
      refine ih (pre++[o]) _ (j.aO F (d':=d.aD o.i u) (v:=u) rfl rfl rfl (λ_ _=>rfl) (λp hp=>hp) ?_ (.inl ⟨rfl,λhl=>by rw[hnl]at hl;cases hl⟩)) hv;refine⟨d.aA,λq hq=>(irr hq).symm,hL,λ_=>rfl,.inr ⟨gd,.inr (.inl ⟨ro,hop',?_⟩)⟩⟩;simp only[DS.aD,rK];exact Rg (λagg nn x e=>hne agg nn x e) hu
     ·exact hv.elim
    ·rename_i ho' _ hop';split at hv
     ·rename_i u b hu;obtain⟨sz,es,gr,rfl⟩:=Cy hu;have hlq:o.op.aA=true:=by rw[hop'];cases ho'<;>first | rfl | (simp[jz]at hu)
      have hlen:lo+o.nm<d.h.length:=by obtain⟨hS,g,hs⟩:=j.aF;have:=nE F.aA o ho hlq;have:=hs.aE;have:=hs.aC;omega
      have hne:u≠.aI []:=by rintro rfl;cases ho'<;>simp only[jz]at hu<;>(repeat' split at hu)<;>simp at hu
      refine ih (pre++[o]) _ (j.aO F (d':={d.aD o.i u with h:=d.h.set (lo+o.nm) (some (.aA sz es gr)),aC:=(o.i,lo+o.nm,.aA sz es gr) :: d.aC}) (v:=u) rfl rfl (by simp) (λm hm=>UZ (λe=>hm hlq e.symm)) (λp hp=>hp) ?_ (.inr ⟨hlq,hne,sz,es,gr,rfl,U5 hlen⟩)) hv;refine⟨d.aA,λq hq=>(irr hq).symm,hL,λ_=>rfl,.inr ⟨gd,.inr (.inr ⟨ho',.aA sz es gr,hop',hlq,?_,U5 hlen⟩)⟩⟩;simp only[DS.aD,rK];exact hu
     ·exact hv.elim
    all_goals first | exact hv.elim | contradiction
  simp only[gP]at h;split at h;·rename_i hg;exact go (.inl hg) h
  ·rename_i x want hg;split at h
   ·rename_i b hb;by_cases e:b=want;·subst e;exact go (.inr ⟨x,b,hg,hb⟩) (h.1 rfl)
    ·have e':b=(!want):=by cases b<;>cases want<;>simp_all
     subst e';exact skip x want hg (.inl hb) (h.2 rfl)
   ·rename_i cs hb;exact skip x want hg (.inr ⟨cs,hb⟩) h
   ·exact h.elim
end
theorem Hh {α β:Type}(f:α->β)(p:α->Bool):∀(l:List α),(l.map f).Nodup->((l.filter p).map f).Nodup:=by
 intro l;induction l with
 | nil=>intro h;exact h
 | cons x r ih=>
  intro h;simp only[Vv,Xf]at h;simp only[Xl];split;·simp only[Vv,Xf];exact⟨λhm=>h.1 (by obtain⟨y,hy,e⟩:=Wr.1 hm;exact Wr.2 ⟨y,(WV.1 hy).1,e⟩),ih h.2⟩
  ·exact ih h.2
theorem Mz {α β:Type}(f:α->β):∀(l:List α),(l.map f).Nodup->∀x∈l,∀y∈l,f x=f y->x=y:=by
 intro l;induction l with
 | nil=>intro _ x h;simp at h
 | cons z r ih=>
  intro h x hx y hy e;simp only[Vv,Xf,Wr,not_exists,not_and]at h;rcases VP.1 hx with rfl | C<;>rcases VP.1 hy with rfl | u;·rfl
  ·exact absurd e.symm (h.1 y u)
  ·exact absurd e (h.1 x C)
  ·exact ih h.2 x C y u e
theorem J6 {dep:Nat->Nat->Bool}{i:Nat}{h:eX}:∀{l:List (Nat×AV×Bool×Nat×AV)},py dep i h l->∀p∈l,dep i p.1=true\/ir h p.2.2.1 p.2.2.2.1 p.2.1=some p.2.2.2.2:=by
 intro l;induction l with
 | nil=>intro _ p hp;simp at hp
 | cons x r ih=>
  intro h p hp;rcases VP.1 hp with rfl | hp;·exact h.1
  ·exact ih h.2 p hp
section
variable {P:Program} {n:Nat} {keep:Nat->Bool} {ops:List Oper} {r:DR} {L0:fX} {lo:Nat} {G0:Gh} {w0:World}
def jA (r:DR)(d:DS)(o:DO):List (Nat×Nat×e_):=d.aC.filter λx=>!r.aA o.i x.1
theorem J.aY (F : DF P n keep ops r) {C : Array Bool} {pre rest : List DO} {d : DS} {G : Gh} {w : World} {a : Act} {o : DO} (j : J P n keep ops r L0 lo G0 w0 C pre (o :: rest) d G w a) (hv : o.hv = true)
    (hd : ∀ q, r.aA o.i q = true -> C.getD q false = true) {op : Oper} (b7 : ops[o.i]? = some op) :
    ∃ Gk, fO Gk w (ki (jA r d o) d.h) /\ ic G w Gk w /\
      ∀ {G' w' h' v u} {next : DS -> Prop}, gI Gk w G' w' -> fO G' w' h' -> V G' w' v u -> t8 r.aA lo r.k o.i d (jA r d o) v h' next ->
        ∃ al, J P n keep ops r L0 lo G0 w0 (C.setIfInBounds o.i true) (pre ++ [o]) rest { d.aD o.i v with h := j9 (jA r d o) h' } al w' (a.put op.dst u) /\
          next { d.aD o.i v with h := j9 (jA r d o) h' } := by
  have Z : r.aC = (pre ++ [o]) ++ rest := by rw [j.aC]; simp
  have ho : o ∈ r.aC := by rw [j.aC]; simp
  have hi := j.aE o (by simp);have hlt : o.i < ops.length := (UY.1 b7).1;have aj : o.i < C.size := by rw [j.aD]; exact hlt
  have split := λx hx y hy => rM (pre := pre) (rest := o :: rest) (by rw [<- j.aC]; exact F.aA) x hx y hy;have bj : o.op.aA = false := by
    have := (F.aC o ho).1;rw [hv] at this;cases h : o.op with
    | r ro => rfl
    | h ho => rw [h] at this; simpa [iY.aE] using this.symm
    | aC f az => rfl
    | aD x az => rfl
  have mem : ∀ x ∈ pre, x ∈ r.aC := λx hx => by rw [j.aC]; simp [hx]
  have inj := λx hx y hy => CT F.aA x hx y hy;obtain ⟨hS, gam, hs⟩ := j.aF;have ag : ∀ x ∈ jA r d o, d.h[x.2.1]? = some (some x.2.2) := by
    intro x hx;obtain ⟨a7, a6⟩ := WV.1 hx;obtain ⟨q, q1, q2, q3, q4, q5, q6, q7, q8⟩ := j.aA x a7;refine q6 (λz hz be hzl => ?_);cases bo : r.aA z.i x.1 with
    | false => rfl
    | true =>have := F.aJ ((split z hz o (by simp)).2.2.1 be) bo;rw [this] at a6; simp at a6
  generalize hE : (jA r d o).filter (λx => C.getD x.1 false) = E;have O : ∀ x, x ∈ E ↔ x ∈ jA r d o /\ C.getD x.1 false = true := by intro x; rw [<- hE, WV]
  have M : ∀ x, x ∈ jA r d o ↔ x ∈ d.aC /\ r.aA o.i x.1 = false := by intro x; simp [jA]
  have a9 : ((jA r d o).map (·.2.1)).Nodup := Hh _ _ _ j.aI;have ad : (E.map (·.2.1)).Nodup := by rw [<- hE]; exact Hh _ _ _ a9
  have bd : ∀ x ∈ d.aC, C.getD x.1 false = true -> hS[x.2.1]? = d.h[x.2.1]? := by intro x hx I;obtain ⟨q, q1, q2, q3, q4, _⟩ := j.aA x hx;refine hs.aD _ (λo' h1 h2 h3 e => ?_);have := (inj o' h1 q (mem q q1)).2 h2 q2 (by omega);subst this;rw [q3, h3] at I; cases I
  obtain ⟨Gk, gk, kk, ba, b8, back⟩ := Kr E gam ad (λx hx => by obtain ⟨a7, a6⟩ := (O x).1 hx;obtain ⟨an, b5⟩ := (M x).1 a7;obtain ⟨q, q1, q2, q3, q4, q5, q6, q7, q8⟩ := j.aA x an;exact ⟨by rw [bd x an a6]; exact ag x a7, q5, q7 (by rw [<- q3]; exact a6)⟩);have bn : ki E hS = ki (jA r d o) d.h := by
    apply VM;intro m;have lE := (qp E hS m).1;have lX := (qp (jA r d o) d.h m).1;rcases WB m hS.length with hm | hm;rotate_left
    · rw [VH (by omega), VH (by rw [lX, <- hs.aC]; exact hm)]
    have bl : m < d.h.length := by rw [<- hs.aC]; exact hm
    by_cases hx : ∃ x ∈ jA r d o, x.2.1 = m
    · rw [(qp (jA r d o) d.h m).2.1 hx bl]
      obtain ⟨x, a7, a6⟩ := hx;by_cases I : C.getD x.1 false = true
      · exact (qp E hS m).2.1 ⟨x, (O x).2 ⟨a7, I⟩, a6⟩ hm
      · rw [(qp E hS m).2.2 (λy hy e => by have b0 := (O y).1 hy;have := Mz (·.2.1) _ a9 y b0.1 x a7 (by simp only [e, a6]);subst this; exact I b0.2)]
        obtain ⟨q, q1, q2, q3, q4, _⟩ := j.aA x ((M x).1 a7).1;rw [<- a6, q4];exact (hs.aA q (mem q q1) q2 (by rw [<- q3]; simpa using I)).1
    · have U : ∀ x ∈ jA r d o, x.2.1 ≠ m := λx h1 h2 => hx ⟨x, h1, h2⟩
      rw [(qp (jA r d o) d.h m).2.2 U, (qp E hS m).2.2 (λy hy => U y ((O y).1 hy).1)];by_cases hu : ∃ o' ∈ r.aC, o'.op.aA = true /\ C.getD o'.i false = false /\ m = lo + o'.nm
      · obtain ⟨o', h1, h2, h3, rfl⟩ := hu
        rw [(hs.aA o' h1 h2 h3).1];rw [j.aC] at h1;rcases VK.1 h1 with h1 | h1
        · rcases j.aK o' h1 h2 with ⟨y, hy, e⟩ | h
          · exfalso
            obtain ⟨q, q1, q2, q3, q4, _⟩ := j.aA y hy;have : q = o' := (inj q (mem q q1) o' (mem o' h1)).1 (by rw [<- q3, e]);subst this;refine U y ((M y).2 ⟨hy, ?_⟩) q4;cases bp : r.aA o.i y.1 with
            | false => rfl
            | true => have := hd _ bp; rw [e, h3] at this; cases this
          · exact h.symm
        · exact (j.aH o' h1 h2).symm
      · exact hs.aD m (λo' h1 h2 h3 e => hu ⟨o', h1, h2, h3, e⟩)
  rw [bn] at gk;refine ⟨Gk, gk, kk, fun {G' w' h' v u next} st g' bh hb => ?_⟩;obtain ⟨ak, br, ai⟩ := hb;have ae : Gk.N = d.h.length := by rw [<- gk.aA, (qp (jA r d o) d.h 0).1]
  have len' : d.h.length <= h'.length := by rw [g'.aA, <- ae]; exact st.aA.N
  have lok : lo + r.k <= d.h.length := by rw [<- hs.aC]; exact hs.aE
  have free : ∀ q, q < r.k -> (∃ x ∈ d.aC, r.aA o.i x.1 = true /\ x.2.1 = lo + q) \/ h'[lo + q]? = some none := by
    intro q hq;have := Wt.1 ak q (by simpa using hq);simp only [We, Xc, Vq, beq_iff_eq] at this;rcases this with h | h
    · exact .inl h
    · right
      unfold mV at h;split at h
      · assumption
      · cases h
  have a1 : ∀ x ∈ r.aC, x.op.aA = true -> r.aA o.i x.i = false -> h'[lo + x.nm]? = some none := by
    intro x hx I bg;rcases free x.nm (nE F.aA x hx I) with ⟨y, hy, am, e⟩ | h
    · obtain ⟨q, q1, q2, q3, q4, _⟩ := j.aA y hy
      have := (inj q (mem q q1) x hx).2 q2 I (by omega);subst this;rw [q3, bg] at am; cases am
    · exact h
  obtain ⟨al, bs, ac, bc, bb, b9⟩ := back st g' (λx hx => by obtain ⟨a7, a6⟩ := (O x).1 hx;obtain ⟨an, b5⟩ := (M x).1 a7;obtain ⟨q, q1, q2, q3, q4, _⟩ := j.aA x an;rw [q4]; exact a1 q (mem q q1) q2 (by rw [<- q3]; exact b5));have a2 : ∀ x ∈ r.aC, x.op.aA = true -> (∀ y ∈ d.aC, y.1 ≠ x.i) -> ∀ y ∈ jA r d o, y.2.1 ≠ lo + x.nm := by intro x hx I a8 y hy e;obtain ⟨a5, _⟩ := (M y).1 hy;obtain ⟨q, q1, q2, q3, q4, _⟩ := j.aA y a5;have := (inj q (mem q q1) x hx).2 q2 I (by omega);subst this;exact a8 y a5 q3
  have W : ∀ x ∈ jA r d o, (j9 (jA r d o) h')[x.2.1]? = some (some x.2.2) := λx hx => Ir _ h' a9 x hx (by obtain ⟨q, q1, q2, q3, q4, _⟩ := j.aA x ((M x).1 hx).1;have := nE F.aA q (mem q q1) q2;omega);have a3 : ic G w al w' := ac.aA;have ar : V al w' v u := bh.aA bc;obtain ⟨hA, hB, bi, bq⟩ := j.AB F b7 a3 (R' := (o.i, v) :: d.R) (λq hq _ => pI hq) (by rw [rK]; exact ar);have aw : ∀ q, (C.setIfInBounds o.i true).getD q false = false -> C.getD q false = false /\ q ≠ o.i := by intro q hq;rw [kQ aj] at hq;simp only [Wj, V7] at hq;exact ⟨hq.2, hq.1⟩
  refine ⟨al, { aC := Z, aD := by simp [j.aD], aJ := j.aS hlt hd, aE := fun x hx => ?_, L := j.L, A := hA, B := hB, aM := fun x hx I => ?_, aF := ⟨_, bs, ?_⟩, aI := j.aI, aA := fun x hx => ?_,
                 aK := λx hx I => ?_, aH := λx hx I => ?_, aL := bi, aN := bq, aG := j.aG.aI ac, lo := j.lo }, ai⟩
  · rw [kQ aj, j.aE x (by simp [hx])]
    have := (rM (pre := pre ++ [o]) (rest := rest) (by rw [<- Z]; exact F.aA) o (by simp) x hx).1;simp [this]
  · obtain ⟨ah, aq⟩ := aw _ I
    have U : x ∈ pre := by
      rcases VK.1 hx with h | h
      · exact h
      · have : x = o := by simpa using h
        subst this; exact absurd rfl aq
    have bm : lk x.i ((o.i, v) :: d.R) = lk x.i d.R := pI aq;have bk : r.aA x.i o.i = false := (split x U o (by simp)).2.1;have a4 : r.aA o.i x.i = false := by
      cases h : r.aA o.i x.i with
      | false => rfl
      | true => have := hd _ h; rw [ah] at this; cases this
    obtain ⟨γ, g1, g2, g3, hc⟩ := j.aM x U ah;refine ⟨γ, λq hq => ?_, g2, g3, ?_⟩
    · show γ (.aD q) = lk q ((o.i, v) :: d.R)
      rw [pI (by rintro rfl; rw [bk] at hq; cases hq)]; exact g1 q hq
    · simp only [DS.aD]
      rw [bm];rcases hc with ⟨y, ao, h1, h2, h3, h4⟩ | ⟨h1, h2⟩
      · refine .inl ⟨y, ao, h1, h2, h3, λhl => ?_⟩
        have a8 : ∀ y ∈ d.aC, y.1 ≠ x.i := by intro y hy e;obtain ⟨q, q1, q2, q3, q4, q5, q6, q7, q8⟩ := j.aA y hy;rw [e, h3] at q8; exact q8 rfl
        rw [(oO (jA r d o) h' _).2 (a2 x (mem x U) hl a8)];exact a1 x (mem x U) hl a4
      · refine .inr ⟨h1, ?_⟩
        rcases h2 with ⟨agg, nn, y, e1, e2, e3, e4⟩ | ⟨ro, e1, e2⟩ | ⟨au, b, e1, e2, e3, e4⟩
        · refine .inl ⟨agg, nn, y, e1, e2, ?_, e4⟩
          have := J6 br _ e4;simp only at this;rcases this with h | h
          · rw [a4] at h; cases h
          · exact h
        · exact .inr (.inl ⟨ro, e1, e2⟩)
        · refine .inr (.inr ⟨au, b, e1, e2, e3, ?_⟩)
          rcases j.aK x U e2 with ⟨y, hy, e⟩ | h
          · have ax : y ∈ jA r d o := (M y).2 ⟨hy, by rw [e]; exact a4⟩
            have k1 := ag y ax;have k2 := W y ax;obtain ⟨q, q1, q2, q3, q4, _⟩ := j.aA y hy;have : q = x := (inj q (mem q q1) x (mem x U)).1 (by rw [<- q3, e]);subst this;rw [q4] at k1 k2;rw [e4] at k1;rw [k2, <- k1]
          · rw [h] at e4; cases e4
  · have af := (oO E h' 0).1
    have ap := (oO (jA r d o) h' 0).1;refine ⟨by simp only [DS.aD]; rw [af, ap], by rw [af]; omega, λm hm => ?_, λx hx I bf => ?_⟩
    · simp only [DS.aD]
      by_cases ab : ∃ x ∈ jA r d o, x.2.1 = m
      · obtain ⟨x, hx, e⟩ := ab
        subst e;by_cases I : C.getD x.1 false = true
        · rw [W x hx]
          refine Ir _ h' ad x ((O x).2 ⟨hx, I⟩) ?_;obtain ⟨q, q1, q2, q3, q4, _⟩ := j.aA x ((M x).1 hx).1;have := nE F.aA q (mem q q1) q2;omega
        · obtain ⟨q, q1, q2, q3, q4, _⟩ := j.aA x ((M x).1 hx).1
          exfalso;refine hm q (mem q q1) q2 ?_ q4;rw [kQ aj, <- q3];have : x.1 ≠ o.i := by rw [q3]; exact λe => (split q q1 o (by simp)).1 e.symm
          simp [this]; simpa using I
      · have U : ∀ x ∈ jA r d o, x.2.1 ≠ m := λx h1 h2 => ab ⟨x, h1, h2⟩
        rw [(oO (jA r d o) h' m).2 U, (oO E h' m).2 (λx hx => U x ((O x).1 hx).1)]
    · obtain ⟨aa, aq⟩ := aw _ bf
      have a4 : r.aA o.i x.i = false := by
        cases h : r.aA o.i x.i with
        | false => rfl
        | true => have := hd _ h; rw [aa] at this; cases this
      obtain ⟨f1, f2, f3⟩ := hs.aA x hx I aa;have hN : lo + x.nm < Gk.N := by have := nE F.aA x hx I; rw [ae]; omega
      refine ⟨?_, ?_, ?_⟩
      · rw [(oO E h' _).2 (λy hy e => ?_)]
        · exact a1 x hx I a4
        · obtain ⟨a5, ay⟩ := (O y).1 hy
          obtain ⟨q, q1, q2, q3, q4, _⟩ := j.aA y ((M y).1 a5).1;have := (inj q (mem q q1) x hx).2 q2 I (by omega);subst this;rw [q3, aa] at ay; cases ay
      · rw [bb, st.aF _ hN, ba]; exact f2
      · rw [b9, st.aJ _ hN, b8]; exact f3
  · obtain ⟨q, q1, q2, q3, q4, q5, q6, q7, q8⟩ := j.aA x hx
    have b6 : q.i ≠ o.i := λe => (split q q1 o (by simp)).1 e.symm;refine ⟨q, by simp [q1], q2, q3, q4, q5, λhq => ?_, λhl => ?_, ?_⟩
    · have := hq o (by simp) hv (by rw [kQ aj]; simp)
      exact W x ((M x).2 ⟨hx, this⟩)
    · rw [kQ aj] at hl
      simp only [b6, Wq, Bool.false_or] at hl;obtain ⟨b, hb⟩ := q7 hl;exact ⟨b, a3.aA _ _ (j.aQ F q1 q2 q4) hb⟩
    · show lk x.1 ((o.i, v) :: d.R) ≠ .aI []
      rw [pI (by rw [q3]; exact b6)]; exact q8
  · have U : x ∈ pre := by
      rcases VK.1 hx with h | h
      · exact h
      · have : x = o := by simpa using h
        subst this; rw [bj] at I; cases I
    by_cases hy : ∃ y ∈ d.aC, y.1 = x.i
    · exact .inl hy
    · right
      have a8 : ∀ y ∈ d.aC, y.1 ≠ x.i := λy h1 h2 => hy ⟨y, h1, h2⟩;simp only [DS.aD];rw [(oO (jA r d o) h' _).2 (a2 x (mem x U) I a8)];rcases free x.nm (nE F.aA x (mem x U) I) with ⟨y, a5, am, e⟩ | h
      · obtain ⟨q, q1, q2, q3, q4, _⟩ := j.aA y a5
        have := (inj q (mem q q1) x (mem x U)).2 q2 I (by omega);subst this;exact absurd q3 (a8 y a5)
      · exact h
  · have ab : x ∈ r.aC := by rw [Z]; simp [hx]
    have a8 : ∀ y ∈ d.aC, y.1 ≠ x.i := by intro y hy e;obtain ⟨q, q1, q2, q3, q4, _⟩ := j.aA y hy;exact (split q q1 x (by simp [hx])).1 (by rw [<- q3, e])
    simp only [DS.aD];rw [(oO (jA r d o) h' _).2 (a2 x ab I a8)];rcases free x.nm (nE F.aA x ab I) with ⟨y, a5, am, e⟩ | h
    · obtain ⟨q, q1, q2, q3, q4, _⟩ := j.aA y a5
      have := (inj q (mem q q1) x ab).2 q2 I (by omega);subst this;exact absurd q3 (a8 y a5)
    · exact h
end
theorem ME (R:fX)(s:Nat):∀(l:List (Nat×Nat)) (L:fX),(∃i,(s,i)∈l/\lk s (nU R l L)=lk i R)\/((∀i,(s,i)∉l)/\lk s (nU R l L)=lk s L):=by
 intro l;induction l with
 | nil=>intro L;exact .inr ⟨λi h=>by simp at h,rfl⟩
 | cons x r ih=>
  intro L;obtain⟨t,i⟩:=x;simp only[nU];rcases ih (mU t (lk i R) L) with⟨q,h1,h2⟩ | ⟨h1,h2⟩;·exact .inl ⟨q,by simp[h1],h2⟩
  ·rw[h2,fm];by_cases e:s=t;·subst e;left;exact⟨i,by simp,by simp⟩
   ·right;refine⟨λq hq=>?_,by simp[e]⟩;rcases VP.1 hq with hq | hq;·cases hq;exact e rfl
    ·exact h1 q hq
theorem Gg {keep:Nat->Bool}:∀(ops:List Oper)(k:Nat)(t i:Nat),(t,i)∈nV keep ops k↔k<=i/\keep t=true/\∃o,ops[i-k]?=some o/\o.dst=some t:=by
 intro ops;induction ops with
 | nil=>intro k t i;simp[nV]
 | cons x r ih=>
  intro k t i;have step:(t,i)∈nV keep r (k+1)↔k+1<=i/\keep t=true/\∃o,(x :: r)[i-k]?=some o/\o.dst=some t:=by
   rw[ih];constructor;·rintro⟨h1,h2,o,h3,h4⟩;exact⟨h1,h2,o,by rw[show i-k=(i-(k+1))+1 by omega];simpa using h3,h4⟩
   ·rintro⟨h1,h2,o,h3,h4⟩;rw[show i-k=(i-(k+1))+1 by omega]at h3;exact⟨h1,h2,o,by simpa using h3,h4⟩
  have u:(t,i)∈nV keep r (k+1)->k<=i/\keep t=true/\∃o,(x :: r)[i-k]?=some o/\o.dst=some t:=λh=>by obtain⟨h1,h2⟩:=step.1 h;exact⟨by omega,h2⟩
  have C:(k<=i/\keep t=true/\∃o,(x :: r)[i-k]?=some o/\o.dst=some t)->(i=k/\keep t=true/\x.dst=some t)\/(t,i)∈nV keep r (k+1):=by
   rintro⟨h1,h2,o,h3,h4⟩;by_cases e:i=k;·subst e;simp at h3;subst h3;exact .inl ⟨rfl,h2,h4⟩
   ·exact .inr (step.2 ⟨by omega,h2,o,h3,h4⟩)
  simp only[nV];cases hd:x.dst with
  | none=>
   simp only;exact⟨u,λh=>by
    rcases C h with⟨_,_,h⟩ | h;·rw[hd]at h;cases h
    ·exact h⟩
  | some s=>
   simp only;split
   ·rename_i hk;constructor
    ·intro h;rcases VP.1 h with h | h;·cases h;exact⟨U8 _,hk,x,by simp,hd⟩
     ·exact u h
    ·intro h;rcases C h with⟨e1,_,e2⟩ | h;·rw[hd]at e2;cases e2;subst e1;simp
     ·simp[h]
   ·rename_i hk;exact⟨u,λh=>by
     rcases C h with⟨_,e,e2⟩ | h;·rw[hd]at e2;cases e2;exact absurd e hk
     ·exact h⟩
section
variable {P:Program} {n:Nat} {keep:Nat->Bool} {ops:List Oper} {r:DR} {L0:fX} {lo:Nat} {G0:Gh} {w0:World}
theorem K_ {tr:Operand->fE}{o:Oper}{f:FuncId}{args:List fE}(h:lj P tr o=some (.aC f args)):
  ∃az e,o.op=.call {callee:=.value (.func f),args:=az,argTypes:=e}/\args=az.toList.map tr:=by
 unfold lj at h;split at h;·cases h
 ·split at h;·cases h
  ·split at h;·rename_i u;cases h;exact⟨_,_,u,rfl⟩
   ·cases h
   ·cases h
theorem La {tr:Operand->fE}{o:Oper}{x:fE}{args:List fE}(h:lj P tr o=some (.aD x args)):
  ∃y az e,o.op=.call {callee:=.value y,args:=az,argTypes:=e}/\x=tr y/\args=az.toList.map tr:=by
 unfold lj at h;split at h;·cases h
 ·split at h;·cases h
  ·split at h;·cases h
   ·rename_i u;cases h;exact⟨_,_,_,u,rfl,rfl⟩
   ·cases h
theorem J.aW (F:DF P n keep ops r){listed:Array Bool}{pre rest:List DO}{d:DS}{G:Gh}{w:World}{a:Act}{o:DO}(j:J P n keep ops r L0 lo G0 w0 listed pre (o :: rest) d G w a)(hv:o.hv=true)
  (hd:∀q,r.aA o.i q=true->listed.getD q false=true) (hgo:sC d o) {K:DS->Prop} (hvc:kV P r.aA lo r.k o d K) {Q:Exit->Act->World->Prop} {next:Act->World->Prop}
  (hK:∀d' G' w' a',J P n keep ops r L0 lo G0 w0 (listed.setIfInBounds o.i true) (pre++[o]) rest d' G' w' a'->K d'->next a' w'):wpOp P ops.toArray Q o.i next a w:=by
 have ho:o∈r.aC:=by rw[j.aC];simp
 have hi:=j.aE o (by simp);obtain⟨hhv,op,hop,hcop,hcg⟩:=F.aC o ho;obtain⟨Gk,gk,kk,fin⟩:=j.aY F hv hd hop;have hstG:mw G w (mF keep ops r.aD o.i) d.aA a:=j.aU F hi hd (λ_ _=>rfl) (λt=>by simp only[DS.aA,j.L]) (λ_=>rfl);have hst:mw Gk w (mF keep ops r.aD o.i) d.aA a:=λx=>(hstG x).aA kk;have hopA:ops.toArray[o.i]?=some op:=by simpa using hop
 have hw:Region.wanted op (yielded ops.toArray a.tmps)=true:=by
  rcases hgo with hg | ⟨x,want,hg,hx⟩
  ·rw[hg]at hcg;unfold rp at hcg;split at hcg;·rename_i hgo;simp[Region.wanted,hgo]
   ·split at hcg<;>cases hcg
  ·rw[hg]at hcg;unfold rp at hcg;split at hcg;·cases hcg
   ·rename_i jj want' hgo;split at hcg;·rename_i t ht;cases hcg;rw[(Cp (hstG (.tmp t)) hgo (by simpa using ht)).1 _ hx];simp
    ·cases hcg
 unfold wpOp;simp only[hopA];rw[hw];simp only[VS];left;simp only[kV,hv]at hvc;split at hvc;·contradiction
 ·contradiction
 ·contradiction
 · -- a store,an append
  rename_i ho' _ hop';split at hvc
  ·rename_i v h' hh;rw[hop']at hcop;obtain⟨nx,u,w',G',hu,hnx,hg,hV,hstp⟩:=Gy (P:=P) gk hst (E8 hcop) hh;obtain⟨G'',jj,hk⟩:=fin hstp hg hV hvc;unfold Oper.wp;rw[hu];rcases hnx with rfl | ⟨rfl,rfl⟩;·exact hK _ _ _ _ jj hk
   ·exact hK _ _ _ _ jj hk
  ·exact hvc.elim
 · -- a call
  rename_i f args _ hop';obtain⟨hf,hvc⟩:=hvc;rw[hop']at hcop;obtain⟨az,tys,hcall,rfl⟩:=K_ hcop;have hrun:(execOp a.eval op).run P w=.ok (.enter f (az.map a.eval)) w:=by obtain⟨dst,op',type,pos,after,guard⟩:=op;have hcall':op'=_:=hcall;subst hcall';simp only[execOp,resolve,Act.eval,Deferred.ofValue,Sem.run_bind,Sem.run_pure,Result.andThen_ok,invoke];rw[tV hf];simp
  unfold Oper.wp;rw[hrun,Oper.upon_enter];refine (hvc Gk w (az.map a.eval) gk ⟨by simp,λq c v hc hv'=>?_⟩).mono ?_;·exact VL.aA hst az.toList q c v (by simpa using hc) (by simpa using hv')
  ·rintro e w' ⟨v,rr,h',G',rfl,hb,hg,hV,hstp⟩;obtain⟨G'',jj,hk⟩:=fin hstp hg hV hb;exact hK _ _ _ _ jj hk
 · -- a call of a value
  rename_i x args _ hop';split at hvc
  ·rename_i f fs cs hx;obtain⟨hf,hvc⟩:=hvc;rw[hop']at hcop;obtain⟨y,az,tys,hcall,rfl,rfl⟩:=La hcop;have hxv:=hst y;rw[hx]at hxv;generalize hvq:a.eval y=fv at hxv;cases hxv with
   | aK _ _ us _ vs hlu hUs hl hVs=>
   have hrun:(execOp a.eval op).run P w=.ok (.enter f (us++az.map a.eval++vs)) w:=by obtain⟨dst,op',type,pos,after,guard⟩:=op;have hcall':op'=_:=hcall;subst hcall';simp only[execOp,resolve,hvq,Deferred.ofValue,Sem.run_bind,Sem.run_pure,Result.andThen_ok,invoke];rw[tV hf]
   unfold Oper.wp;rw[hrun,Oper.upon_enter];refine (hvc Gk w (us++az.map a.eval++vs) gk (VL.aE (VL.aE ⟨hlu,hUs⟩ ⟨by simp,λq c v hc hv'=>VL.aA hst az.toList q c v (by simpa using hc) (by simpa using hv')⟩) ⟨hl,hVs⟩)).mono ?_;·rintro e w' ⟨v,rr,h',G',rfl,hb,hg,hV,hstp⟩;obtain⟨G'',jj,hk⟩:=fin hstp hg hV hb;exact hK _ _ _ _ jj hk
  ·exact hvc.elim
 ·exact hvc.elim
theorem J.aV (F:DF P n keep ops r){u:Array Bool}{pre rest:List DO}{d:DS}{G:Gh}{w:World}{a:Act}(j:J P n keep ops r L0 lo G0 w0 u pre rest d G w a)
  (hr:Region.ready .any ops.toArray u=[]):∀i,i<ops.length->u.getD i false=true:=by
 intro i;induction i using Nat.strongRecOn with
 | _ i ih=>
  intro hi;cases hl:u.getD i false with
  | true=>rfl
  | false=>
   have hs:i<u.size:=by rw[j.aD];exact hi
   have:i∈Region.ready .any ops.toArray u:=by rw[mem_ready];refine⟨by simp[hs]at hl ⊢;exact hl,ops[i],by simp[hi],λe he hb=>?_⟩;have:=F.aE i ops[i] (by simp[hi]) e (by simpa using he) hb;exact ih e.on this (by omega)
   rw[hr]at this;cases this
theorem Me (F:DF P n keep ops r){K:DS->Prop}{Q:Exit->Act->World->Prop}
  (hQ:∀d G w a,J P n keep ops r L0 lo G0 w0 (Array.replicate ops.length true) r.aC [] d G w a->K d->Q .normal a w):
  ∀(fuel:Nat){listed:Array Bool}{pre rest:List DO}{d:DS}{G:Gh}{w:World}{a:Act},J P n keep ops r L0 lo G0 w0 listed pre rest d G w a->gP P r.aA lo r.k rest d K->
   ((List.range ops.length).filter λi=>!listed.getD i false).length<=fuel->wpAny P .any ops.toArray Q fuel listed a w:=by
 have last:∀{listed:Array Bool}{pre rest:List DO}{d:DS}{G:Gh}{w:World}{a:Act},J P n keep ops r L0 lo G0 w0 listed pre rest d G w a->
   ((rest=[]/\K d)\/∃o q,rest=o :: q/\o.hv=true/\sC d o/\kV P r.aA lo r.k o d λd''=>gP P r.aA lo r.k q d'' K)->(∀i,i<ops.length->listed.getD i false=true)->Q .normal a w:=by
  intro listed pre rest d G w a j hc hall;have hli:listed=Array.replicate ops.length true:=by
   apply Array.ext;·simp[j.aD]
   ·intro i h1 h2;have:=hall i (by rw[<-j.aD];exact h1);simp[h1]at this;simp[this]
  rcases hc with⟨rfl,hk⟩ | ⟨o,q,rfl,hv,_⟩
  ·have hp:pre=r.aC:=by rw[j.aC];simp
   subst hp;subst hli;exact hQ d G w a j hk
  ·have h1:=j.aE o (by simp);obtain⟨_,op,hop,_⟩:=F.aC o (by rw[j.aC];simp);rw[hall o.i (UY.1 hop).1]at h1;cases h1
 intro fuel;induction fuel with
 | zero=>
  intro listed pre rest d G w a j hvc hle;obtain⟨pre',rest',d',j',hc⟩:=j.aR F rest pre d hvc;have hall:∀i,i<ops.length->listed.getD i false=true:=by
   intro i hi;have hnil:=U7 (Nat.le_zero.1 hle);cases hl:listed.getD i false with
   | true=>rfl
   | false=>
    have:i∈(List.range ops.length).filter λi=>!listed.getD i false:=by simp[WV,hi];simpa using hl
    rw[hnil]at this;cases this
  refine⟨?_,last j' hc hall⟩;apply List.eq_nil_iff_forall_not_mem.2;intro i hi;obtain⟨h1,h2,_⟩:=j'.aT F hi;rw[hall i h2]at h1;cases h1
 | succ fuel ih=>
  intro listed pre rest d G w a j hvc hle;obtain⟨pre',rest',d',j',hc⟩:=j.aR F rest pre d hvc;refine⟨λhr=>last j' hc (j'.aV F hr),λi hi=>?_⟩;obtain⟨h1,h2,⟨op,hop⟩,h4⟩:=j'.aT F hi;have hls:i<listed.size:=by rw[j.aD];exact h2
  have hfu:((List.range ops.length).filter λq=>!(listed.setIfInBounds i true).getD q false).length<=fuel:=by
   have e:((List.range ops.length).filter λq=>!(listed.setIfInBounds i true).getD q false)=((List.range ops.length).filter λq=>!listed.getD q false).filter λq=>!decide (q=i):=by rw[List.filter_filter];apply List.filter_congr;intro q _;rw[kQ hls];cases decide (q=i)<;>cases listed.getD q false<;>rfl
   rw[e];have hm:i∈(List.range ops.length).filter λq=>!listed.getD q false:=by simp[WV,h2];simpa using h1
   have:(((List.range ops.length).filter λq=>!listed.getD q false).filter λq=>!decide (q=i)).length<((List.range ops.length).filter λq=>!listed.getD q false).length:=by refine List.length_filter_lt_length_iff_exists.2 ⟨i,hm,by simp⟩
   omega
  obtain⟨o,ho,rfl⟩:=F.aG i h2;rw[j'.aC]at ho;rcases VK.1 ho with ho | ho
  ·refine j'.aX F ho h1 h4 (λG' w' a' jj=>?_);rcases hc with⟨e1,hk⟩ | ⟨o',q,e1,hv,hgo,hvd⟩;·exact ih jj (by rw[e1];exact hk) hfu
   ·refine ih jj ?_ hfu;rw[e1];simp only[gP];rcases hgo with hg | ⟨x,want,hg,hx⟩;·rw[hg];exact hvd
    ·rw[hg];simp only[hx];exact⟨λ_=>hvd,λe=>by cases want<;>simp at e⟩
  ·rcases hc with⟨e1,hk⟩ | ⟨o',q,e1,hv,hgo,hvd⟩;·rw[e1]at ho;cases ho
   ·subst e1;rcases VP.1 ho with rfl | ho;·exact j'.aW F hv h4 hgo hvd (λd' G' w' a' jj hk=>ih jj hk hfu)
    ·exfalso;have hsp:=rM (pre:=pre'++[o']) (rest:=q) (by rw[Vr,List.singleton_append,<-j'.aC];exact F.aA) o' (by simp) o ho;have:=h4 o'.i (hsp.2.2.1 hv);rw[j'.aE o' (by simp)]at this;cases this
end
inductive AX where
 | aA
 | aD (id:Nat)
 | aC
inductive AC where
 | aJ
 | aG (ops:List AO)
 | aI (r:DR)
 | aA (a b:AC)
 | aF (c:fE) (a b:AC)
 | aE (id:Nat) (b:AC)
 | aD (b:AC)
 | aL (id:Nat)
 | aM
 | aK
section
variable {n:Nat} {keep:Nat->Bool} {G0:Gh} {w0:World} {P:Program}
def Wk (st st':St):Prop:=∀(n:Nat)(keep:Nat->Bool)(G0:Gh)(w0:World)(G:Gh)(w:World)(a:Act),SR n keep G0 w0 G w st a->∃G',SR n keep G0 w0 G' w st' a
theorem Wk.aA (st:St):Wk st st:=λ_ _ _ _ G _ _ h=>⟨G,h⟩
def vc (P:Program):AC->St->(AX->St->Prop)->Prop
 | .aJ,st,K=>K .aA st
 | .aG ops,st,K=>gX P ops st λst'=>K .aA {st' with R:=[]}
 | .aI r,st,K=>Dx P r st λst'=>K .aA st'
 | .aA a b,st,K=>vc P a st λx st'=>match x with
  | .aA=>vc P b st' K
  | .aD id=>K (.aD id) st'
  | .aC=>K .aC st'
 | .aF c a b,st,K=>match st.aA c with
  | .aE t=>(t=true->vc P a st K)/\(t=false->vc P b st K)
  | _=>False
 | .aE id b,st,K=>vc P b st λx st'=>match x with
  | .aA=>K .aA st'
  | .aD id'=>if id'=id then K .aA st' else K (.aD id') st'
  | .aC=>K .aC st'
 | .aD b,st,K=>∃I:Nat->St->Prop,(∃m s0,Wk st s0/\I m s0)/\∀m s,I m s->vc P b s λx s'=>match x with
  | .aA=>∃m' s0,m'<m/\Wk s' s0/\I m' s0
  | .aD id=>K (.aD id) s'
  | .aC=>K .aC s'
 | .aL id,st,K=>K (.aD id) st
 | .aM,st,K=>K .aC st
 | .aK,_,_=>False
def cC (P:Program)(n:Nat)(keep:Nat->Bool):Code->Option AC
 | .skip=>some .aJ
 | .region _ ops draw=>if draw then (if P.follows .mixedOrders then (uP P n keep ops.toList).map .aI else none) else (qb P n keep ops ops.toList).map .aG
 | .seq a b=>match cC P n keep a,cC P n keep b with
  | some x,some y=>some (.aA x y)
  | _,_=>none
 | .cond c a b=>match cC P n keep a,cC P n keep b with
  | some x,some y=>some (.aF (cd keep c) x y)
  | _,_=>none
 | .block id b=>(cC P n keep b).map (.aE id)
 | .loop b=>(cC P n keep b).map .aD
 | .exit id=>some (.aL id)
 | .ret=>some .aM
 | .scope b=>cC P n keep b
 | .label _=>some .aJ
 | _=>some .aK
def yP (n:Nat)(keep:Nat->Bool)(G0:Gh)(w0:World)(K:AX->St->Prop):Exit->Act->World->Prop
 | .normal,a,w=>∃G st,SR n keep G0 w0 G w st a/\K .aA st
 | .exit id,a,w=>∃G st,SR n keep G0 w0 G w st a/\K (.aD id) st
 | .ret,a,w=>∃G st,SR n keep G0 w0 G w st a/\K .aC st
 | _,_,_=>False
theorem SR.aI {G w st a}(sr:SR n keep G0 w0 G w st a):SR n keep G0 w0 G w {st with R:=[]} a:=
 ⟨sr.aA,sr.aE,sr.aC,sr.L,λ_ _=>.aI _,sr.aD⟩
variable {F:Fence} {m:Nat}
structure qN (F:Fence):Prop where
 fn:∀f,F.fn f
 aC:F.depth=none
 aA:∀{n:Nat}{P:Program}{f:FuncId}{args:Array Value}{w:World}{R:Ending->World->Prop},Calls P f args w R->CallsIn F n P f args w R
 aD:∀{n:Nat}{P:Program}{row:String}{args:Array Value}{w:World}{R:Value->World->Prop},Rows P row args w R->RowsIn F n P row args w R
theorem Ii {n:Nat}{P:Program}{row:String}{args:Array Value}{w:World}{R:Value->World->Prop}(h:Rows P row args w R):RowsIn Fence.wide n P row args w R:=
 λc cs _=>let⟨v,w',r,s⟩:=h c cs;⟨v,w',r,stepsIn_wide.2 s⟩
theorem tM:qN Fence.wide:=⟨λ_=>Vd,rfl,λh=>callsIn_wide.2 h,λh=>Ii h⟩
theorem Hq (l:Nat):qN (Fence.wide.inRound l):=⟨λ_=>Vd,rfl,fun {n}{_}{_}{_}{_}{_} h=>(callsIn_wide (n:=n)).2 h,fun {n}{_}{_}{_}{_}{_} h=>Ii (n:=n) h⟩
def wd (a:Act)(ds:List Deferred):Act:={a with defers:=ds}
theorem pQ {a:Act} (h:a.defers=[]):wd a []=a:=by cases a;cases h;rfl
theorem rU (a:Act)(ds:List Deferred):(wd a ds).eval=a.eval:=by funext x;cases x<;>rfl
theorem nJ (a:Act)(ds:List Deferred)(d:Option Tmp)(v:Value):(wd a ds).put d v=wd (a.put d v) ds:=by cases d<;>rfl
theorem IU (a:Act)(ds:List Deferred):(wd a ds).tmps=a.tmps:=rfl
theorem oU {ro:Option Nat}{ρ:Operand->Value}{o:Oper}{w w':World}{nx:Next}(hu:(execOp ρ o).run P w=.ok nx w')(e:∀d,nx≠.defer d):(o.semAt ro ρ).run P w=.ok nx w':=by
 by_cases h:∃c,o.op=.defer c
 ·obtain⟨c,hc⟩:=h;exfalso;unfold execOp at hu;rw[hc]at hu;simp only[Sem.run_bind,Sem.run_pure]at hu;cases hr:(resolve ρ c o.type).run P w with
  | ok d w1=>rw[hr]at hu;simp only[Result.andThen_ok]at hu;cases hu;exact e d rfl
  | halt x w1=>rw[hr]at hu;cases hu
 ·rw[Oper.semAt_eq ro ρ o (λc hc=>h ⟨c,hc⟩)];exact hu
theorem Ue {G w st a}(hF:qN F)(ds:List Deferred)(sr:SR n keep G0 w0 G w st a){o:Oper}{ao:iY}{d:jP}(hop:lj P (cd keep) o=some ao)(hd:rk n keep o.dst=some d){gd:Option (fE×Bool)}
  {k:St->Prop} (hk:mH P ⟨d,ao,gd⟩ st k) {next:Act->World->Prop} {Q:Exit->Act->World->Prop}
  (hn:∀G' w' st' a',SR n keep G0 w0 G' w' st' a'->k st'->next (wd a' ds) w'):o.wpIn F m P (wd a ds) w next Q:=by
 refine⟨λf _=>hF.fn f,?_⟩;rw[rU];unfold lj at hop;split at hop
 ·rename_i ro hro;cases hop;simp only[mH]at hk;split at hk
  ·rename_i v hv;obtain⟨u,hu,hV⟩:=Ig (P:=P) sr.aA sr.aF hro hv;rw[oU hu (by simp),Oper.uponIn_value,nJ];have e:({st.aC d v with h:=st.h}:St)=st.aC d v:=by cases d<;>rfl
   have:=sr.aG hd sr.aA (gI.aD G w) hV;rw[e]at this;exact hn G w _ _ this hk
  ·exact hk.elim
 ·split at hop
  ·rename_i ho hho;cases hop;simp only[mH]at hk;split at hk
   ·rename_i v h' hv;obtain⟨nx,u,w',G',hu,hnx,hg,hV,hst⟩:=Gy (P:=P) sr.aA sr.aF hho hv;rcases hnx with rfl | ⟨rfl,rfl⟩;·rw[oU hu (by simp),Oper.uponIn_value,nJ];exact hn G' w' _ _ (sr.aG hd hg hst hV) hk
    ·rw[oU hu (by simp),Oper.uponIn_skip,nJ];exact hn G' w' _ _ (sr.aG hd hg hst hV) hk
   ·exact hk.elim
  ·split at hop
   ·rename_i f args tys hcall;cases hop;simp only[mH]at hk;obtain⟨hf,hk⟩:=hk;have hrun:(execOp a.eval o).run P w=.ok (.enter f (args.map a.eval)) w:=by obtain⟨dst,op,type,pos,after,guard⟩:=o;have hcall':op=_:=hcall;subst hcall';simp only[execOp,resolve,Act.eval,Deferred.ofValue,Sem.run_bind,Sem.run_pure,Result.andThen_ok,invoke];rw[tV hf];simp
    rw[oU hrun (by simp),Oper.uponIn_enter];refine⟨λh=>(by rw[hF.aC]at h;cases h),hF.aA ((hk G w (args.map a.eval) sr.aA ⟨by simp,λj c v hc hv=>?_⟩).mono ?_)⟩;·exact VL.aA sr.aF args.toList j c v (by simpa using hc) (by simpa using hv)
    ·rintro e w' ⟨v,r,h',G',rfl,hK,hg,hV,hst⟩;show next ((wd a ds).put o.dst v) w';rw[nJ];exact hn G' w' _ _ (sr.aG hd hg hst hV) hK
   ·rename_i x args tys hne hcall;cases hop;simp only[mH]at hk;split at hk
    ·rename_i f fs cs hx;obtain⟨hf,hk⟩:=hk;have hxv:=sr.aF x;rw[hx]at hxv;generalize hv:a.eval x=fv at hxv;cases hxv with
     | aK _ _ us _ vs hlu hUs hl hVs=>
     have hrun:(execOp a.eval o).run P w=.ok (.enter f (us++args.map a.eval++vs)) w:=by obtain⟨dst,op,type,pos,after,guard⟩:=o;have hcall':op=_:=hcall;subst hcall';simp only[execOp,resolve,hv,Deferred.ofValue,Sem.run_bind,Sem.run_pure,Result.andThen_ok,invoke];rw[tV hf]
     rw[oU hrun (by simp),Oper.uponIn_enter];refine⟨λh=>(by rw[hF.aC]at h;cases h),hF.aA ((hk G w (us++args.map a.eval++vs) sr.aA (VL.aE (VL.aE ⟨hlu,hUs⟩ ⟨by simp,λj c v hc hv'=>VL.aA sr.aF args.toList j c v (by simpa using hc) (by simpa using hv')⟩) ⟨hl,hVs⟩)).mono ?_)⟩;·rintro e w' ⟨v,r,h',G',rfl,hK,hg,hV,hst⟩;show next ((wd a ds).put o.dst v) w';rw[nJ];exact hn G' w' _ _ (sr.aG hd hg hst hV) hK
    ·exact hk.elim
   ·cases hop
theorem yc (hF:qN F)(ds:List Deferred){ops:Array Oper}{Q:Exit->Act->World->Prop}{k:St->Prop}{r:List Oper}
  (hn:∀G' w' E a',SR n keep G0 w0 G' w' E a'->k E->wpListIn F m P ops Q r (wd a' ds) w'):
  ∀(l:List Oper)(al:List AO){G w st a},SR n keep G0 w0 G w st a->qb P n keep ops l=some al->gX P al st k->wpListIn F m P ops Q (l++r) (wd a ds) w:=by
 intro l;induction l with
 | nil=>intro al G w st a sr hc hk;simp only[qb,U_]at hc;subst hc;exact hn G w st a sr hk
 | cons o l ih=>
  intro al G w st a sr hc hk;simp only[qb]at hc;split at hc
  ·rename_i x O hx hl;cases hc;simp only[wU]at hx;split at hx
   ·rename_i d op gd hd W u;cases hx;simp only[gX]at hk;rw[WM];unfold wpListIn;rw[IU];have I:mH P ⟨d,op,gd⟩ st (λE=>gX P O E k)->o.wpIn F m P (wd a ds) w (wpListIn F m P ops Q (l++r)) Q:=
     λh=>Ue hF ds sr W hd h λG' w' E a' U Z=>ih O U hl Z
    have skip:gX P O (st.aC d (.aI [])) k->(∀f,o.about P w (wd a ds).eval=some f->F.fn f)/\wpListIn F m P ops Q (l++r) ((wd a ds).put o.dst undef) w:=
     λh=>⟨λf _=>hF.fn f,by rw[nJ];exact ih O (sr.aJ hd) hl h⟩
    cases M:o.guard with
    | none=>rw[M]at u;simp only[zE,U_]at u;subst u;rw[U4 (by simp[Region.wanted,M])];exact I hk
    | some jw=>
     obtain⟨j,C⟩:=jw;rw[M]at u;simp only[zE]at u;split at u
     ·rename_i t ht;cases u;obtain⟨g1,g2⟩:=Nn sr M ht;simp only at hk;split at hk
      ·rename_i b hb;rw[g1 b hb];by_cases e:b=C;·subst e;simp only[BEq.rfl,VS];exact I (hk.1 rfl)
       ·have:(b == C)=false:=by simpa using e
        simp only[this,Vn,VI];exact skip (hk.2 (by cases b<;>cases C<;>simp_all))
      ·rename_i cs hb;rw[g2 cs hb];simp only[Vn,VI];exact skip hk
      ·exact hk.elim
     ·cases u
   ·cases hx
  ·cases hc
section
variable {md:Region.Mode} {ops:Array Oper} {Q Q':Exit->Act->World->Prop}
theorem Kf (hq:∀a w,Q .normal a w->a.defers=[]) (hp:∀c a w,¬Q (.panic c) a w) (ho:∀a w,¬Q .outgrown a w):∀(C:Nat)(u:Array Bool)(a:Act)(w:World),wpAny P md ops Q C u a w->a.defers=[]:=by
 have hl:¬LetsOut Q:=λ⟨a,w,h⟩=>ho a w h;have pd:∀(a:Act)(d:Option Tmp)(v:Value),(a.put d v).defers=a.defers:=λa d v=>by cases d<;>rfl
 intro C;induction C with
 | zero=>intro u a w h;exact hq a w h.2
 | succ C ih=>
  intro u a w h;obtain⟨h1,h2⟩:=h;cases hr:Region.ready md ops u with
  | nil=>exact hq a w (h1 hr)
  | cons i r=>
   have h:=h2 i (by rw[hr];simp);unfold wpOp at h;split at h;·exact ih _ a w h
   ·rename_i o _;split at h
    ·rcases h with h | ⟨_,h⟩
     ·unfold Oper.wp Oper.upon at h;split at h;·have:=ih _ _ _ h;rwa [pd]at this
      ·have:=ih _ _ _ h;rwa [pd]at this
      ·have:=ih _ _ _ h;rw[pd]at this;simp at this
      ·obtain⟨e,w',fr,h,_⟩:=h [];cases e with
       | returned v=>have:=ih _ _ _ h;rwa [pd]at this
       | panicked c=>exact (hp _ _ _ h).elim
       | outgrown=>exact (hl h).elim
      ·obtain⟨v,w',h,_⟩:=h default [];have:=ih _ _ _ h;rwa [pd]at this
      ·exact (hp _ _ _ h).elim
      ·exact h.elim
     ·exact (hl h).elim
    ·have:=ih _ _ _ h;rwa [pd]at this
theorem Kg (hF:qN F)(ds:List Deferred) (hq:∀a w,Q .normal a w->a.defers=[]) (hp:∀c a w,¬Q (.panic c) a w) (ho:∀a w,¬Q .outgrown a w)
  (hn:∀a w,Q .normal a w->Q' .normal (wd a ds) w):∀(u:Nat)(e:Array Bool)(a:Act)(w:World),wpAny P md ops Q u e a w->wpAnyIn F m P md ops Q' u e (wd a ds) w:=by
 have hl:¬LetsOut Q:=λ⟨a,w,h⟩=>ho a w h
 have hd:¬(F.depth.isSome=true):=λh=>(by rw[hF.aC]at h;cases h)
 intro u
 induction u with
 | zero=>intro e a w h;exact⟨h.1,hn a w h.2⟩
 | succ u ih=>
  intro e a w h
  refine⟨λhr=>hn a w (h.1 hr),λi hi=>?_⟩
  have h:=h.2 i hi
  unfold wpOp at h
  unfold wpOpIn
  split at h
  ·rename_i he
   simp only[he]
   exact ih _ a w h
  ·rename_i o he
   simp only[he]
   rw[IU]
   split at h
   ·rename_i hw
    rw[U4 hw]
    rcases h with h | ⟨_,h⟩
    ·refine⟨λf _=>hF.fn f,?_⟩
     rw[rU]
     unfold Oper.wp Oper.upon at h
     split at h<;>rename_i C<;>try exact h.elim
     ·rw[oU C (by simp),Oper.uponIn_value,nJ];exact ih _ _ _ h
     ·rw[oU C (by simp),Oper.uponIn_skip,nJ];exact ih _ _ _ h
     ·have:=Kf hq hp ho _ _ _ _ h
      exfalso
      revert this
      cases o.dst<;>simp[Act.put]
     ·rw[oU C (by simp),Oper.uponIn_enter]
      refine⟨λh=>(hd h).elim,hF.aA (Calls.mono h ?_)⟩
      rintro (v | c | _) w' hk
      ·simp only at hk ⊢;rw[nJ];exact ih _ _ _ hk
      ·exact (hp _ _ _ hk).elim
      ·exact (hl hk).elim
     ·rw[oU C (by simp),Oper.uponIn_row]
      refine⟨λh=>(hd h).elim,hF.aD (Rows.mono h ?_)⟩
      intro v w' hk
      rw[nJ];exact ih _ _ _ hk
     ·exact (hp _ _ _ h).elim
    ·exact (hl h).elim
   ·rename_i hw
    rw[U6 hw]
    exact⟨λf _=>hF.fn f,by rw[nJ];exact ih _ _ _ h⟩
end
theorem Mg {r : DR} {e : Array Oper} (hc : uP P n keep e.toList = some r) {G : Gh} {w : World} {st : St} {a : Act} (sr : SR n keep G0 w0 G w st a) {K : St -> Prop}
    (hk : Dx P r st K) {Q : Exit -> Act -> World -> Prop} (hQ : ∀ G' w' M a', SR n keep G0 w0 G' w' M a' -> K M -> Q .normal a' w') : wpAny P .any e Q e.size (Array.replicate e.size false) a w.drew := by
  have F := K9 hc;have hs : e.toList.length = e.size := by simp
  have key : wpAny P .any e.toList.toArray Q e.toList.length (Array.replicate e.toList.length false) a w.drew := by
    have gd : fO G w.drew st.h := sr.aA.aT rfl;have kd : ic G w G w.drew := ic.aH rfl;obtain ⟨gr, O⟩ := gd.bK r.k;have u : ∀ i, (Array.replicate e.toList.length false).getD i false = false := by intro i; by_cases h : i < e.toList.length <;> simp at h <;> simp [h]
    refine Me F (L0 := st.L) (lo := st.h.length) (G0 := G0) (w0 := w0) (K := λd => K ⟨nU d.R r.aE st.L, [], d.h⟩) ?_ e.toList.length (pre := []) (rest := r.aC) (d := ⟨st.L, [], st.h ++ List.replicate r.k none, [], []⟩) (G := G.aM r.k) ?_ hk ?_
    · intro d G' w' a' j hK
      obtain ⟨hS, g, W⟩ := j.aF;have E : ∀ i, i < e.toList.length -> (Array.replicate e.toList.length true).getD i false = true := by intro i hi; simp at hi; simp [hi]
      have a1 : hS = d.h := by apply VM;intro m;refine W.aD m (λo ho _ hl => ?_);obtain ⟨_, op, I, _⟩ := F.aC o ho;rw [E _ (UY.1 I).1] at hl; cases hl
      subst a1;refine hQ G' w' _ a' ⟨g, j.aL, j.aN, λs U => ?_, λs _ => .aI _, j.aG⟩ hK;have hf := F.aH;rcases ME d.R s r.aE st.L with ⟨i, h1, h2⟩ | ⟨h1, h2⟩
      · simp only; rw [h2]
        rw [hf] at h1;obtain ⟨_, _, o, ho, C⟩ := (Gg _ 0 s i).1 h1;simp only [Nat.sub_zero] at ho;exact j.A i o s (E i (UY.1 ho).1) ho C
      · simp only; rw [h2]
        refine j.B s U (λi op hi I C => h1 i ?_);rw [hf];exact (Gg _ 0 s i).2 ⟨Vk _, U, op, by simpa using I, C⟩
    · have kG : ic G w (G.aM r.k) w.drew := kd.aG O.aA
      refine { aC := rfl, aD := by simp, aJ := (fun i q h => by rw [u] at h; cases h), aE := (fun o _ => u _), L := rfl, A := (fun i op t h => by rw [u] at h; cases h),
               B := (λt Z _ => (sr.L t Z).aA kG), aM := (λo ho => by simp at ho), aF := ⟨_, gr, rfl, by simp, (λ_ _ => rfl), (λo ho hl _ => ?_)⟩, aI := List.nodup_nil, aA := (λx hx => by simp at hx),
               aK := (λo ho => by simp at ho), aH := (λo ho hl => ?_), aL := sr.aE, aN := sr.aC, aG := (sr.aD.aI (gI.aK G w _)).aI O, lo := ?_ }
      · have hlt := nE F.aA o ho hl
        refine ⟨?_, ?_, ?_⟩
        · rw [Vp (by omega), WC, U4 (by omega)]
        · simp only [Gh.aM]; rw [U6 (by rw [<- sr.aA.aA]; omega)]
        · simp only [Gh.aM]; rw [<- sr.aA.aA]; omega
      · have hlt := nE F.aA o ho hl
        simp only;rw [Vp (by omega), WC, U4 (by omega)]
      · have := sr.aD.aA.N; rw [sr.aA.aA]; exact this
    · refine Vh (Wz _ _) (by simp)
  have e2 : e.toList.toArray = e := by simp
  rw [e2, hs] at key;exact key
theorem Mf (hF:qN F)(ds:List Deferred)(hm:P.follows .mixedOrders=true){E:Array Oper}{id:Nat}{r:DR}(hc:uP P n keep E.toList=some r)
  {G:Gh} {w:World} {st:St} {a:Act} (sr:SR n keep G0 w0 G w st a) {K:St->Prop} (hk:Dx P r st K) {Q':Exit->Act->World->Prop}
  (hQ:∀G' w' u a',SR n keep G0 w0 G' w' u a'->K u->Q' .normal (wd a' ds) w'):(Code.region id E true).wpIn F m P Q' (wd a ds) w:=by
 refine wpIn_region_any hm (Kg hF ds (Q:=λe a' w'=>e=.normal/\∃G' u,SR n keep G0 w0 G' w' u a'/\K u) ?_ ?_ ?_ ?_ _ _ _ _ (Mg hc sr hk ?_));·rintro a w ⟨_,G',u,C,_⟩;exact C.aC
 ·rintro c a w ⟨h,_⟩;cases h
 ·rintro a w ⟨h,_⟩;cases h
 ·rintro a w ⟨_,G',u,C,I⟩;exact hQ G' w u a C I
 ·intro G' w' u a' C I;exact⟨rfl,G',u,C,I⟩
theorem UR {c:Code}{Q:Exit->Act->World->Prop}{a:Act}{w:World}(h:c.wpIn F m P (Exit.noGoto Q) a w):(Code.scope c).wpIn F m P Q a w:=by
 intro b k cs C hb hr;have h0:(lone (b.atR a (.code (.scope c) :: k)) cs w).fenced P F:=fenced_calm hb hr rfl;have s:step P (lone (b.atR a (.code (.scope c) :: k)) cs w)=.next (lone (b.atR a (.code c :: .inScope c :: k)) cs w):=step_lone_go (by simp[stepG,stepG.exec,Frame.atR]);have hx:∀id,exitTo id (.inScope c :: k)=exitTo id k:=λid=>by simp[exitTo]
 obtain⟨e,a₁,w₁,hq,u⟩:=h b (.inScope c :: k) cs C hb hr;cases e with
 | normal=>exact⟨.normal,a₁,w₁,hq,.head h0 s (StepsIn.trans u (.one (fenced_calm hb hr rfl) (step_lone_go (by simp[stepG,stepG.exec,Frame.atR]))))⟩
 | exit id=>exact⟨_,a₁,w₁,hq,λk' hk=>.head h0 s (u.1 k' (by rw[hx];exact hk)),λE hk=>let⟨k₁,h1,h2⟩:=u.2 E (by rw[hx];exact hk);⟨k₁,h1,.head h0 s h2⟩⟩
 | goto l=>exact hq.elim
 | ret=>exact⟨_,a₁,w₁,hq,.of_steps (.one h0 s) u⟩
 | panic ch=>exact⟨_,a₁,w₁,hq,.of_steps (.one h0 s) u⟩
 | outgrown=>exact⟨_,a₁,w₁,hq,.of_steps (.one h0 s) u⟩
def Eo (n:Nat)(keep:Nat->Bool)(G0:Gh)(w0:World)(K:AX->St->Prop)(ds:List Deferred)(e:Exit)(a:Act)(w:World):Prop:=∃a0,a=wd a0 ds/\yP n keep G0 w0 K e a0 w
theorem vL (hF:qN F)(ds:List Deferred):∀(c:Code)(ac:AC),cC P n keep c=some ac->∀{K:AX->St->Prop}{G w st a},SR n keep G0 w0 G w st a->vc P ac st K->c.wpIn F m P (Eo n keep G0 w0 K ds) (wd a ds) w:=by
 intro c;induction c with
 | skip=>intro ac hc K G w st a sr hk;simp only[cC,U_]at hc;subst hc;exact wpIn_skip ⟨a,rfl,G,st,sr,hk⟩
 | ret=>intro ac hc K G w st a sr hk;simp only[cC,U_]at hc;subst hc;exact wpIn_ret ⟨a,rfl,G,st,sr,hk⟩
 | exit id=>intro ac hc K G w st a sr hk;simp only[cC,U_]at hc;subst hc;exact wpIn_exit ⟨a,rfl,G,st,sr,hk⟩
 | region id ops W=>
  intro ac hc K G w st a sr hk;cases W with
  | true=>
   simp only[cC,VS]at hc;split at hc;·rename_i hm;simp only[Vl]at hc;obtain⟨r,hr,rfl⟩:=hc;exact Mf hF ds hm hr sr hk (λG' w' E a' u C=>⟨a',rfl,G',E,u,C⟩)
   ·cases hc
  | false=>
  simp only[cC,Vn,VI,Vl]at hc;obtain⟨al,Z,rfl⟩:=hc;refine wpIn_region_list ?_;have:=yc (m:=m) (ops:=ops) (Q:=Eo n keep G0 w0 K ds) (r:=[]) hF ds (λG' w' E a' u C=>⟨a',rfl,G',_,u.aI,C⟩) ops.toList al sr Z hk;rw[VY]at this;exact this
 | seq x y ihx ihy=>
  intro ac hc K G w st a sr hk;simp only[cC]at hc;split at hc
  ·rename_i ax ay hx hy;cases hc;refine wpIn_seq (wpIn_mono (ihx ax hx sr hk) ?_);rintro e a' w' ⟨a0,rfl,hp⟩;cases e with
   | normal=>obtain⟨G',E,u,C⟩:=hp;exact ihy ay hy u C
   | exit id=>exact⟨a0,rfl,hp⟩
   | ret=>exact⟨a0,rfl,hp⟩
   | goto l=>exact⟨a0,rfl,hp⟩
   | panic c=>exact⟨a0,rfl,hp⟩
   | outgrown=>exact⟨a0,rfl,hp⟩
  ·cases hc
 | cond x y z ihy ihz=>
  intro ac hc K G w st a sr hk;simp only[cC]at hc;split at hc
  ·rename_i ay az hy hz;cases hc;simp only[vc]at hk;split at hk
   ·rename_i t ht;have hv:=sr.aF x;rw[ht]at hv;generalize he:a.eval x=v at hv;cases hv;refine wpIn_cond_split (by rw[rU];exact he) (λe=>?_) (λe=>?_);·exact ihy ay hy sr (hk.1 e)
    ·exact ihz az hz sr (hk.2 e)
   ·exact hk.elim
  ·cases hc
 | block id b ih=>
  intro ac hc K G w st a sr hk;simp only[cC,Vl]at hc;obtain⟨ab,hb,rfl⟩:=hc;refine wpIn_block (wpIn_mono (ih ab hb sr hk) ?_);rintro e a' w' ⟨a0,rfl,hp⟩;cases e with
  | normal=>exact⟨a0,rfl,hp⟩
  | exit id'=>
   obtain⟨G',E,u,C⟩:=hp;simp only at C;simp only[Exit.inBlock];split<;>rename_i h;·rw[U4 h]at C;exact⟨a0,rfl,G',E,u,C⟩
   ·rw[U6 h]at C;exact⟨a0,rfl,G',E,u,C⟩
  | ret=>exact⟨a0,rfl,hp⟩
  | goto l=>exact⟨a0,rfl,hp⟩
  | panic c=>exact⟨a0,rfl,hp⟩
  | outgrown=>exact⟨a0,rfl,hp⟩
 | loop b ih=>
  intro ac hc K G w st a sr hk;simp only[cC,Vl]at hc;obtain⟨ab,hb,rfl⟩:=hc;obtain⟨I,⟨k,s0,U,h0⟩,M⟩:=hk;obtain⟨G',u⟩:=U n keep G0 w0 G w a sr;refine wpIn_loop_ghost (λk a w=>∃a0 G s,a=wd a0 ds/\SR n keep G0 w0 G w s a0/\I k s) k ⟨a,G',s0,rfl,u,h0⟩ ?_;rintro k _ w ⟨a0,G,s,rfl,sr,hI⟩;refine wpIn_mono (ih ab hb sr (M k s hI)) ?_;rintro e a' w' ⟨a1,rfl,hp⟩;cases e with
  | normal=>obtain⟨G',E,u,m',s0,hlt,U,a2⟩:=hp;obtain⟨a3,O⟩:=U n keep G0 w0 G' w' a1 u;exact⟨m',hlt,a1,a3,s0,rfl,O,a2⟩
  | exit id=>exact⟨a1,rfl,hp⟩
  | ret=>exact⟨a1,rfl,hp⟩
  | goto l=>exact⟨a1,rfl,hp⟩
  | panic c=>exact⟨a1,rfl,hp⟩
  | outgrown=>exact⟨a1,rfl,hp⟩
 | rangeFunc f ps x y _ _=>intro ac hc K G w st a sr hk;simp only[cC,U_]at hc;subst hc;exact hk.elim
 | scope b ih=>
  intro ac hc K G w st a sr hk;refine UR (wpIn_mono (ih ac hc sr hk) ?_);rintro e a' w' ⟨a0,rfl,hp⟩;cases e with
  | goto l=>exact hp
  | _=>exact⟨a0,rfl,hp⟩
 | label l=>intro ac hc K G w st a sr hk;simp only[cC,U_]at hc;subst hc;exact wpIn_label ⟨a,rfl,G,st,sr,hk⟩
 | goto l=>intro ac hc K G w st a sr hk;simp only[cC,U_]at hc;subst hc;exact hk.elim
 | refuse w=>intro ac hc K G w st a sr hk;simp only[cC,U_]at hc;subst hc;exact hk.elim
theorem yd (c:Code)(ac:AC)(hc:cC P n keep c=some ac){K:AX->St->Prop}{G w st a}(sr:SR n keep G0 w0 G w st a)(hk:vc P ac st K):c.wp P (yP n keep G0 w0 K) a w:=by
 have h:=wpIn_wide.1 (vL (m:=0) tM [] c ac hc sr hk);rw[pQ sr.aC]at h;refine wp_mono h ?_;rintro e a' w' ⟨a0,rfl,hp⟩;cases e with
 | normal=>obtain⟨G',C,u,E⟩:=hp;rw[pQ u.aC];exact⟨G',C,u,E⟩
 | exit id=>obtain⟨G',C,u,E⟩:=hp;rw[pQ u.aC];exact⟨G',C,u,E⟩
 | ret=>obtain⟨G',C,u,E⟩:=hp;rw[pQ u.aC];exact⟨G',C,u,E⟩
 | goto l=>exact hp
 | panic c=>exact hp
 | outgrown=>exact hp
end
inductive kb where
 | aC (x:fE)
 | aA (x:fE) (agg:Bool) (n:Nat)
def oJ (P:Program)(keep:Nat->Bool):List ResultVar->Option (List kb)
 | []=>some []
 | .tmp t :: r=>(oJ P keep r).map (.aC (cd keep (.tmp t)) :: ·)
 | .cell a t :: r=>match u_ P t,P.info? t,oJ P keep r with
  | some b,some i,some l=>some (.aA (cd keep (.tmp a)) b i.size :: l)
  | _,_,_=>none
def kU (st:St):List kb->Option (List AV)
 | []=>some []
 | .aC x :: r=>(kU st r).map (st.aA x :: ·)
 | .aA x agg n :: r=>match ir st.h agg n (st.aA x),kU st r with
  | some v,some l=>some (v :: l)
  | _,_=>none
def pJ:List AV->AV
 | [x]=>x
 | l=>.aI l
structure fM where
 n:Nat
 aD:Nat->Bool
 aA:AC
 aC:List kb
def qc (P:Program)(keep:Nat->Bool)(f:FuncId):Option fM:=
 match P.funcs[f]? with
 | some fn=>match fn.body with
  | some c=>match cC P fn.ntmps keep c,oJ P keep fn.results.toList with
   | some ac,some res=>some ⟨fn.ntmps,keep,ac,res⟩
   | _,_=>none
  | none=>none
 | none=>none
def nv (p:Nat->Bool):Nat->List AV->fX
 | _,[]=>[]
 | i,v :: r=>if p i then (i,v) :: nv p (i+1) r else nv p (i+1) r
theorem GZ (p:Nat->Bool):∀(vs:List AV)(i s:Nat),lk s (nv p i vs)=.aR\/(i<=s/\vs[s-i]?=some (lk s (nv p i vs))):=by
 intro vs;induction vs with
 | nil=>intro i s;exact .inl rfl
 | cons v vs ih=>
  intro i s;have shift:lk s (nv p (i+1) vs)=.aR\/(i<=s/\(v :: vs)[s-i]?=some (lk s (nv p (i+1) vs))):=by
   rcases ih (i+1) s with h | ⟨h1,h2⟩;·exact .inl h
   ·exact .inr ⟨by omega,by rw[show s-i=(s-(i+1))+1 by omega];simpa using h2⟩
  simp only[nv];split
  ·simp only[lk];split;·rename_i h;subst h;exact .inr ⟨U8 _,by simp⟩
   ·exact shift
  ·exact shift
def nY (keep:Nat->Bool)(avs:List AV)(h:eX):St:=⟨nv keep 0 avs,nv (λs=>!keep s) 0 avs,h⟩
def iE (res:List kb)(K:AV->eX->Prop):AX->St->Prop
 | .aD _,_=>False
 | _,st=>match kU st res with
  | some l=>K (pJ l) st.h
  | none=>False
section
variable {n:Nat} {keep:Nat->Bool} {G0:Gh} {w0:World} {P:Program}
theorem Rc {G w st a}(sr:SR n keep G0 w0 G w st a):∀(rs:List ResultVar)(res:List kb)(l:List AV),oJ P keep rs=some res->kU st res=some l->
  ∃vs:List Value,(rs.mapM fun
   | .tmp t=>pure (a.tmps.getD t undef)
   | .cell x t=>do loadVar t (<-asAddr (a.tmps.getD x undef)):Sem (List Value)).run P w=.ok vs w/\l.length=vs.length /\
   ∀(j:Nat)(c:AV)(v:Value),l[j]?=some c->vs[j]?=some v->V G w c v:=by
 intro rs;induction rs with
 | nil=>intro res l hc hl;simp only[oJ,U_]at hc;subst hc;simp only[kU,U_]at hl;subst hl;exact⟨[],rfl,rfl,λj c v h=>by simp at h⟩
 | cons r rs ih=>
  intro res l hc hl;have cons:∀{c:AV}{v:Value}{l':List AV}{vs:List Value},V G w c v->l'.length=vs.length->(∀(j:Nat)(c:AV)(v:Value),l'[j]?=some c->vs[j]?=some v->V G w c v)->
    (c :: l').length=(v :: vs).length/\∀(j:Nat)(c':AV)(v':Value),(c :: l')[j]?=some c'->(v :: vs)[j]?=some v'->V G w c' v':=by
   intro c v l' vs h1 h2 h3;refine⟨by simp[h2],λj c' v' hc hv=>?_⟩;cases j with
   | zero=>simp at hc hv;subst hc;subst hv;exact h1
   | succ j=>exact h3 j c' v' (by simpa using hc) (by simpa using hv)
  cases r with
  | tmp t=>simp only[oJ,Vl]at hc;obtain⟨e,C,rfl⟩:=hc;simp only[kU,Vl]at hl;obtain⟨l',E,rfl⟩:=hl;obtain⟨vs,h1,h2,h3⟩:=ih e l' C E;have hv:=sr.aF (.tmp t);refine⟨a.tmps.getD t undef :: vs,?_,cons hv h2 h3⟩;simp only[List.mapM_cons,Sem.run_bind,Sem.run_pure,Result.andThen_ok,h1]
  | cell x t=>
   simp only[oJ]at hc;split at hc
   ·rename_i b i e hb hi C;cases hc;simp only[kU]at hl;split at hl
    ·rename_i c l' M E;cases hl;obtain⟨vs,h1,h2,h3⟩:=ih e l' C E;obtain⟨u,hu,hV⟩:=EP (P:=P) sr.aA (sr.aF (.tmp x)) M (xW hb) (oi hi);refine⟨u :: vs,?_,cons hV h2 h3⟩;have I:((do loadVar t (<-asAddr (a.tmps.getD x undef)):Sem Value)).run P w=.ok u w:=by
      have he:a.eval (.tmp x)=a.tmps.getD x undef:=rfl;rw[he]at hu;generalize a.tmps.getD x undef=q at hu;cases q with
      | pointer p=>cases p with
       | none=>simp[Instr.loadAt,Instr.sureAddr]at hu
       | some p=>simpa [Instr.loadAt,Instr.sureAddr,asAddr] using hu
      | _=>simp[Instr.loadAt,Instr.sureAddr]at hu
     simp only[List.mapM_cons,Sem.run_bind,Sem.run_pure];simp only[Sem.run_bind]at I;rw[I];simp only[Result.andThen_ok,h1]
    ·cases hl
   ·cases hc
theorem tT {G w st a}(sr:SR n keep G0 w0 G w st a){fn:Func}{res:List kb}{l:List AV}(hc:oJ P keep fn.results.toList=some res)(hl:kU st res=some l):
  ∃v,(results fn a.tmps).run P w=.ok v w/\V G w (pJ l) v:=by
 obtain⟨vs,h1,h2,h3⟩:=Rc sr fn.results.toList res l hc hl;have hm:(fn.results.mapM fun
   | .tmp t=>pure (a.tmps.getD t undef)
   | .cell x t=>do loadVar t (<-asAddr (a.tmps.getD x undef)):Sem (Array Value)).run P w=.ok vs.toArray w:=by
  have e:∀(x:Sem (List Value)),(Functor.map List.toArray x:Sem (Array Value)).run P w=(x.run P w).andThen λa w'=>.ok a.toArray w':=λx=>Sem.run_bind' P x _ w;rw[Array.mapM_eq_mapM_toList,e,h1];rfl
 refine⟨if h:vs.toArray.size=1 then vs.toArray[0] else .tuple vs.toArray,?_,?_⟩;·unfold results;rw[Sem.run_bind];exact (W_ (λr=>Result.andThen r _) hm).trans rfl
 ·unfold pJ;split
  ·rename_i x;have hs:vs.length=1:=by simpa using h2.symm
   rw[dif_pos (by simpa using hs)];exact h3 0 x _ rfl (by simp[hs])
  ·rename_i u;have hs:¬vs.toArray.size=1:=by
    intro hs;have:l.length=1:=by rw[h2];simpa using hs
    obtain⟨x,hx⟩:=List.length_eq_one_iff.1 this;exact u x hx
   rw[dif_neg hs];exact .aM _ _ (by simpa using h2) (λj c v hc hv=>h3 j c v hc (by simpa using hv))
theorem pD {f:FuncId}{fn:fM}(hf:qc P keep f=some fn){E:List AV}(hn:E.length<=fn.n){h:eX}{K:AV->eX->Prop}
  (hk:vc P fn.aA (nY keep E h) (iE fn.aC K)):fC P f E h K:=by
 unfold qc at hf;split at hf
 ·rename_i fd W;split at hf
  ·rename_i c hc;split at hf
   ·rename_i ac res Z M;cases hf;intro G w vs hg hv;refine calls_of_wp W hc ?_;have sr:SR fd.ntmps keep G w G w (nY keep E h) {tmps:=vs++Array.replicate (fd.ntmps-vs.size) undef,defers:=[]}:=by
     have hle:vs.size<=fd.ntmps:=by rw[<-hv.1];exact hn
     have U:∀(p:Nat->Bool)(s:Nat),V G w (lk s (nv p 0 E)) ((vs++Array.replicate (fd.ntmps-vs.size) undef).getD s undef):=by
      intro p s;rcases GZ p E 0 s with e | ⟨_,e⟩;·rw[e];exact .aI _
      ·simp only[Nat.sub_zero]at e;obtain⟨v,O,hV⟩:=hv.aC e;have hlt:=(Wf.1 O).1;have:(vs++Array.replicate (fd.ntmps-vs.size) undef).getD s undef=v:=by simp[WX,hlt];have:=O;simp[hlt]at this;exact this
       rw[this];exact hV
     exact⟨hg,by simp;omega,rfl,λs _=>U keep s,λs _=>U _ s,gI.aD G w⟩
    refine wp_mono (yd c ac Z sr hk) ?_;intro e a w' hp;have fin:∀{G' C},SR fd.ntmps keep G w G' w' C a->iE res K .aC C->a.defers=[]/\∃v,(results fd a.tmps).run P w'=.ok v w' /\
      ∃v0 r h' G',Ending.returned v=.returned v0/\K r h'/\fO G' w' h'/\V G' w' r v0/\gI G w G' w':=by
     intro G' C u hK;simp only[iE]at hK;split at hK;·rename_i l hl;obtain⟨v,I,hV⟩:=tT (P:=P) u M hl;exact⟨u.aC,v,I,v,_,_,G',rfl,hK,u.aA,hV,u.aD⟩
     ·exact hK.elim
    cases e with
    | normal=>obtain⟨G',C,u,hK⟩:=hp;exact fin u hK
    | ret=>obtain⟨G',C,u,hK⟩:=hp;exact fin u hK
    | exit id=>obtain⟨G',C,u,hK⟩:=hp;exact hK.elim
    | goto l=>exact hp.elim
    | panic c=>exact hp.elim
    | outgrown=>exact hp.elim
   ·cases hf
  ·cases hf
 ·cases hf
end
end Glb
