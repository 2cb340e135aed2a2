/-
  A library of its own.
-/
import Derived.Test.YtdeiamnhnfmilaaGreatGlbLibA
import Derived.Scope
import Derived.OrdersIn
import Derived.TacticsIn
import Derived.RangeFuncOwn
import Derived.Sort.LoopGhostIn
set_option linter.unusedSimpArgs false
set_option linter.unusedVariables false
namespace Glb
open Go
structure DO where
 i:Nat
 nm:Nat
 hv:Bool
 op:iV
 aA:Option (fB×Bool)
structure DS where
 L:fV
 R:fV
 h:eW
 aE:List (Nat×AV×Bool×Nat×AV)
 aC:List (Nat×Nat×e_)
def DS.aA (d:DS):fB->AV
 | .aC s=>lk s d.L
 | .aD s=>lk s d.R
 | .aA v=>v
def DS.aD (d:DS)(i:Nat)(v:AV):DS:={d with R:=(i,v) :: d.R}
def gW (lo k:Nat):AV->Bool
 | .aC m _ _ _=>decide (m<lo) || decide (lo+k<=m)
 | _=>true
def kl:List (Nat×Nat×e_)->eW->eW
 | [],h=>h
 | x :: r,h=>kl r (h.set x.2.1 none)
def j_:List (Nat×Nat×e_)->eW->eW
 | [],h=>h
 | x :: r,h=>(j_ r h).set x.2.1 (some x.2.2)
def mY:Option (Option e_)->Bool
 | some none=>true
 | _=>false
def mF (dep:Nat->Nat->Bool)(lo k i:Nat)(lts:List (Nat×Nat×e_))(h:eW):Bool:=
 (List.range k).all λq=>(lts.any λx=>dep i x.1 && x.2.1 == lo+q) || mY h[lo+q]?
def pA (dep:Nat->Nat->Bool)(i:Nat)(h:eW):List (Nat×AV×Bool×Nat×AV)->Prop
 | []=>True
 | p :: r=>(dep i p.1=true\/ir h p.2.2.1 p.2.2.2.1 p.2.1=some p.2.2.2.2)/\pA dep i h r
def tW (dep:Nat->Nat->Bool)(lo k i:Nat)(d:DS)(xs:List (Nat×Nat×e_))(v:AV)(h':eW)(next:DS->Prop):Prop:=
 mF dep lo k i d.aC h'=true/\pA dep i (j_ xs h') d.aE/\next {d.aD i v with h:=j_ xs h'}
def lu (P:Program)(dep:Nat->Nat->Bool)(lo k:Nat)(o:DO)(d:DS)(next:DS->Prop):Prop:=
 match o.hv,o.op with
 | false,.r (.aA agg n x)=>match ir d.h agg n (d.aA x) with
  | some v=>gW lo k (d.aA x)=true/\next {d.aD o.i v with aE:=(o.i,d.aA x,agg,n,v) :: d.aE}
  | none=>False
 | false,.r ro=>match gx d.aA [] ro with
  | some v=>next (d.aD o.i v)
  | none=>False
 | false,.h ho=>match jy d.aA (lo+o.nm) ho with
  | some (v,b)=>next {d.aD o.i v with h:=d.h.set (lo+o.nm) (some b),aC:=(o.i,lo+o.nm,b) :: d.aC}
  | none=>False
 | true,.h ho=>
  let xs:=d.aC.filter λx=>!dep o.i x.1
  match jX d.aA (kl xs d.h) ho with
  | some (v,h')=>tW dep lo k o.i d xs v h' next
  | none=>False
 | true,.aC f args=>
  let xs:=d.aC.filter λx=>!dep o.i x.1
  fP P f=true/\fC P f (args.map d.aA) (kl xs d.h) λv h'=>tW dep lo k o.i d xs v h' next
 | true,.aD x args=>
  let xs:=d.aC.filter λx=>!dep o.i x.1
  match d.aA x with
  | .aL f fs cs=>fP P f=true/\fC P f (fs++args.map d.aA++cs) (kl xs d.h) λv h'=>tW dep lo k o.i d xs v h' next
  | _=>False
 | _,_=>False
def gK (P:Program)(dep:Nat->Nat->Bool)(lo k:Nat):List DO->DS->(DS->Prop)->Prop
 | [],d,K=>K d
 | o :: r,d,K=>
  match o.aA with
  | none=>lu P dep lo k o d λd'=>gK P dep lo k r d' K
  | some (x,want)=>match d.aA x with
   | .aE b=>(b=want->lu P dep lo k o d λd'=>gK P dep lo k r d' K)/\(b=(!want)->gK P dep lo k r (d.aD o.i (.aI [])) K)
   | .aI _=>gK P dep lo k r (d.aD o.i (.aI [])) K
   | _=>False
def nX (R:fV):List (Nat×Nat)->fV->fV
 | [],L=>L
 | (t,i) :: r,L=>nX R r (kW t (lk i R) L)
structure DR where
 aD:List Nat
 k:Nat
 aC:List DO
 aE:List (Nat×Nat)
def DR.aA (r:DR)(i j:Nat):Bool:=(r.aD.getD i 0).testBit j
def CT (P:Program)(r:DR)(st:St)(K:St->Prop):Prop:=
 gK P r.aA st.h.length r.k r.aC ⟨st.L,[],st.h++List.replicate r.k none,[],[]⟩ λd=>K ⟨nX d.R r.aE st.L,[],d.h⟩
def vd (acc:List Nat)(o:Oper):Nat:=
 o.after.toList.foldl (λs e=>if Region.binds .any e then s ||| 2^e.on ||| acc.getD e.on 0 else s) 0
def jR:List Oper->List Nat->List Nat
 | [],acc=>acc
 | o :: r,acc=>jR r (acc++[vd acc o])
def vI (t:Tmp):List Oper->Nat->Option Nat
 | [],_=>none
 | o :: r,i=>if o.dst=some t then some i else vI t r (i+1)
def mK (keep:Nat->Bool)(ops:List Oper)(masks:List Nat)(i:Nat):Operand->fB
 | .tmp t=>match vI t ops 0 with
  | some j=>if (masks.getD i 0).testBit j then .aD j else if (masks.getD j 0).testBit i && keep t then .aC t else .aA .aR
  | none=>if keep t then .aC t else .aA .aR
 | .const v=>.aA (xA v)
 | .global g=>.aA (.aN (.pointer (some ⟨g,0,none⟩)))
 | .func f=>.aA (.aL f [] [])
def iV.aA:iV->Bool
 | .h (.mk _) | .h (.aD _) | .h (.aA _ _) | .h (.aF _ _ _ _ _)=>true
 | _=>false
def iV.aE:iV->Bool
 | .r _=>false
 | a=>!a.aA
def rq (tr:Operand->fB)(ops:List Oper):Option (Nat×Bool)->Option (Option (fB×Bool))
 | none=>some none
 | some (j,want)=>match (ops[j]?).bind (·.dst) with
  | some t=>some (some (tr (.tmp t),want))
  | none=>none
def uJ (P:Program)(keep:Nat->Bool)(ops:List Oper)(masks:List Nat):List Oper->Nat->Nat->Option (List DO)
 | [],_,_=>some []
 | o :: r,i,c=>
  match lJ P (mK keep ops masks i) o,rq (mK keep ops masks i) ops o.guard with
  | some op,some g=>(uJ P keep ops masks r (i+1) (if op.aA then c+1 else c)).map (⟨i,c,op.aE,op,g⟩ :: ·)
  | _,_=>none
def N6 (masks:List Nat)(all:List DO)(o:DO):Nat:=(all.filter λx=>x.hv && (masks.getD o.i 0).testBit x.i).length
def FN (i f:Nat):List (Nat×Nat)->List (Nat×Nat)
 | []=>[(i,f)]
 | x :: r=>if f<x.2 then (i,f) :: x :: r else x :: FN i f r
def O4 (masks:List Nat)(all:List DO):List Nat:=
 (all.foldl (λacc o=>FN o.i (2*N6 masks all o+(if o.hv then 1 else 0)) acc) []).map (·.1)
def pN (dep:Nat->Nat->Bool)(k:Nat):List DO->Bool
 | []=>true
 | o :: r=>r.all (λx=>!(x.i == o.i) && !dep o.i x.i && (!o.hv || dep x.i o.i) && (!o.op.aA || !x.op.aA || !(x.nm == o.nm))) && (!o.op.aA || decide (o.nm<k)) && pN dep k r
def w_:List Oper->Bool
 | []=>true
 | o :: r=>(match o.dst with | some t=>r.all λx=>!(x.dst == some t) | none=>true) && w_ r
def xc:List Oper->Nat->Bool
 | [],_=>true
 | o :: r,i=>o.after.toList.all (λe=>!Region.binds .any e || decide (e.on<i)) && xc r (i+1)
def nY (keep:Nat->Bool):List Oper->Nat->List (Nat×Nat)
 | [],_=>[]
 | o :: r,i=>match o.dst with
  | some t=>if keep t then (t,i) :: nY keep r (i+1) else nY keep r (i+1)
  | none=>nY keep r (i+1)
def uK (P:Program)(n:Nat)(keep:Nat->Bool)(ops:List Oper):Option DR:=
 let masks:=jR ops []
 match uJ P keep ops masks ops 0 0 with
 | some all=>
  let items:=(O4 masks all).filterMap (all[·]?)
  let k:=(all.filter (·.op.aA)).length
  if pN (λi j=>(masks.getD i 0).testBit j) k items && w_ ops && xc ops 0 && (List.range ops.length).all (λi=>items.any λo=>o.i == i)
    && ops.all (λo=>match o.dst with | some t=>decide (t<n) | none=>true) then
   some ⟨masks,k,items,nY keep ops 0⟩
  else none
 | none=>none
theorem SH (u:List Nat)(j:Nat):∀(l:List Edge)(s:Nat),
  (l.foldl (λs e=>if Region.binds .any e then s ||| 2^e.on ||| u.getD e.on 0 else s) s).testBit j=true->
  s.testBit j=true\/∃e∈l,Region.binds .any e=true/\(e.on=j\/(u.getD e.on 0).testBit j=true):=by
 intro l;induction l with
 | nil=>intro s h;exact .inl h
 | cons e l ih=>
  intro s h;simp only[Wu]at h;rcases ih _ h with h1 | ⟨e',E,h1⟩
  ·split at h1
   ·rename_i hb;simp only[Nat.testBit_or,VF,Nat.testBit_two_pow,Vb]at h1;rcases h1 with (h1 | h1) | h1;·exact .inl h1
    ·exact .inr ⟨e,by simp,hb,.inl h1⟩
    ·exact .inr ⟨e,by simp,hb,.inr h1⟩
   ·exact .inl h1
  ·exact .inr ⟨e',by simp[E],h1⟩
theorem Og:∀(ops:List Oper)(e:List Nat),(jR ops e).length=e.length+ops.length:=by
 intro ops;induction ops with
 | nil=>intro e;simp[jR]
 | cons o r ih=>intro e;simp only[jR,ih];simp;omega
theorem F_:∀(ops:List Oper)(e:List Nat)(j:Nat),j<e.length->(jR ops e).getD j 0=e.getD j 0:=by
 intro ops;induction ops with
 | nil=>intro e j _;rfl
 | cons o r ih=>intro e j hj;simp only[jR];rw[ih _ j (by simp;omega)];simp[UZ hj]
theorem Ga:∀(ops:List Oper)(u:List Nat)(i:Nat)(o:Oper),ops[i]?=some o->
  ∃e:List Nat,(jR ops u).getD (u.length+i) 0=vd e o/\e.length=u.length+i/\∀j,j<u.length+i->e.getD j 0=(jR ops u).getD j 0:=by
 intro ops;induction ops with
 | nil=>intro u i o h;simp at h
 | cons x r ih=>
  intro u i o h;cases i with
  | zero=>
   simp at h;subst h;refine⟨u,?_,by simp,λj hj=>?_⟩;·simp only[jR];rw[F_ _ _ _ (by simp)];simp
   ·simp only[jR];rw[F_ _ _ _ (by simp;omega)];simp at hj;simp[UZ hj]
  | succ i=>simp only[jR];obtain⟨e,h1,h2,h3⟩:=ih (u++[vd u x]) i o (by simpa using h);simp only[Ut,UG,UJ]at h1 h2 h3;exact⟨e,by rw[<-h1];congr 1;omega,by omega,λj hj=>h3 j (by omega)⟩
theorem BK {ops:List Oper} (he:∀(i:Nat)(o:Oper),ops[i]?=some o->∀e∈o.after.toList,Region.binds .any e=true->e.on<i) {i j:Nat} {o:Oper} (ho:ops[i]?=some o)
  (hd:((jR ops []).getD i 0).testBit j=true):∃e∈o.after.toList,Region.binds .any e=true/\(e.on=j\/((jR ops []).getD e.on 0).testBit j=true):=by
 obtain⟨u,h1,h2,h3⟩:=Ga ops [] i o ho;simp only[UJ,Wp]at h1 h2 h3;rw[h1]at hd;unfold vd at hd;rcases SH u j _ _ hd with h | ⟨e,hm,hb,h⟩;·simp at h
 ·refine⟨e,hm,hb,?_⟩;rcases h with h | h;·exact .inl h
  ·rw[h3 _ (he i o ho e hm hb)]at h;exact .inr h
theorem LI:∀(ops:List Oper)(k:Nat),xc ops k=true->∀(i:Nat)(o:Oper),ops[i]?=some o->∀e∈o.after.toList,Region.binds .any e=true->e.on<k+i:=by
 intro ops;induction ops with
 | nil=>intro k _ i o h;simp at h
 | cons x r ih=>
  intro k hk i o h e he hb;simp only[xc,US]at hk;cases i with
  | zero=>simp at h;subst h;have:=VQ.1 hk.1 e he;simp[hb]at this;omega
  | succ i=>have:=ih (k+1) hk.2 i o (by simpa using h) e he hb;omega
theorem LA:∀(ops:List Oper),w_ ops=true->∀(i j:Nat)(o p:Oper)(t:Tmp),ops[i]?=some o->ops[j]?=some p->o.dst=some t->p.dst=some t->i=j:=by
 intro ops;induction ops with
 | nil=>intro _ i j o p t h;simp at h
 | cons x r ih=>
  intro hk i j o p t hi hj ho hp;simp only[w_,US]at hk;have aux:∀(q:Oper)(m:Nat),r[m]?=some q->q.dst=some t->x.dst=some t->False:=by intro q m hm hq hx;have h1:=hk.1;rw[hx]at h1;have:=VQ.1 h1 q (List.mem_of_getElem? hm);simp[hq]at this
  cases i with
  | zero=>
   simp at hi;subst hi;cases j with
   | zero=>rfl
   | succ j=>exact (aux p j (by simpa using hj) hp ho).elim
  | succ i=>
   cases j with
   | zero=>simp at hj;subst hj;exact (aux o i (by simpa using hi) ho hp).elim
   | succ j=>rw[ih hk.2 i j o p t (by simpa using hi) (by simpa using hj) ho hp]
theorem Ul (t:Tmp):∀(ops:List Oper)(k:Nat),match vI t ops k with
  | some j=>k<=j/\∃o,ops[j-k]?=some o/\o.dst=some t
  | none=>∀(i:Nat)(o:Oper),ops[i]?=some o->o.dst≠some t:=by
 intro ops;induction ops with
 | nil=>intro k;simp[vI]
 | cons x r ih=>
  intro k;simp only[vI];by_cases h:x.dst=some t;·rw[Uv h];exact⟨Uy _,x,by simp,h⟩
  ·rw[Uw h];have:=ih (k+1);split at this;·rename_i j hj;obtain⟨h1,o,h2,h3⟩:=this;exact⟨by omega,o,by rw[show j-k=(j-(k+1))+1 by omega];simpa using h2,h3⟩
   ·rename_i hj;intro i o hi;cases i with
    | zero=>simp at hi;subst hi;exact h
    | succ i=>exact this i o (by simpa using hi)
theorem Kb {P:Program}{keep:Nat->Bool}{ops:List Oper}{masks:List Nat}:∀(l:List Oper)(i c:Nat)(all:List DO),uJ P keep ops masks l i c=some all->
  all.length=l.length/\∀(j:Nat)(d:DO),all[j]?=some d->d.i=i+j/\d.hv=d.op.aE/\∃o,l[j]?=some o/\lJ P (mK keep ops masks (i+j)) o=some d.op/\rq (mK keep ops masks (i+j)) ops o.guard=some d.aA:=by
 intro l;induction l with
 | nil=>intro i c all h;simp only[uJ,UB]at h;subst h;exact⟨rfl,λj d h=>by simp at h⟩
 | cons o r ih=>
  intro i c all h;simp only[uJ]at h;split at h
  ·rename_i op g hop hg;simp only[UN]at h;obtain⟨all',hall,rfl⟩:=h;obtain⟨h1,h2⟩:=ih _ _ _ hall;refine⟨by simp[h1],λj d hd=>?_⟩;cases j with
   | zero=>simp at hd;subst hd;exact⟨rfl,rfl,o,rfl,hop,hg⟩
   | succ j=>
    obtain⟨a,b,o',c',e,f⟩:=h2 j d (by simpa using hd);have:i+1+j=i+(j+1):=by omega
    rw[this]at a e f;exact⟨a,b,o',by simpa using c',e,f⟩
  ·cases h
theorem SI (E:List Nat)(j:Nat):∀(l:List Edge)(s:Nat),(s.testBit j=true\/∃e∈l,Region.binds .any e=true/\(e.on=j\/(E.getD e.on 0).testBit j=true))->
  (l.foldl (λs e=>if Region.binds .any e then s ||| 2^e.on ||| E.getD e.on 0 else s) s).testBit j=true:=by
 intro l;induction l with
 | nil=>
  intro s h;rcases h with h | ⟨e,he,_⟩;·exact h
  ·simp at he
 | cons e l ih=>
  intro s h;simp only[Wu];apply ih;rcases h with h | ⟨e',u,hb,h⟩
  ·left;split;·simp[Nat.testBit_or,h]
   ·exact h
  ·rcases Vg.1 u with rfl | u
   ·left;rw[Uv hb];rcases h with h | h;·simp[Nat.testBit_or,h]
    ·rw[Nat.testBit_or,h,WK]
   ·exact .inr ⟨e',u,hb,h⟩
theorem Fi {ops:List Oper} (he:∀(i:Nat)(o:Oper),ops[i]?=some o->∀e∈o.after.toList,Region.binds .any e=true->e.on<i) {i j:Nat} {o:Oper} (ho:ops[i]?=some o)
  {e:Edge} (hm:e∈o.after.toList) (hb:Region.binds .any e=true) (h:e.on=j\/((jR ops []).getD e.on 0).testBit j=true):((jR ops []).getD i 0).testBit j=true:=by
 obtain⟨u,h1,h2,h3⟩:=Ga ops [] i o ho;simp only[UJ,Wp]at h1 h2 h3;rw[h1];unfold vd;refine SI u j _ _ (.inr ⟨e,hm,hb,?_⟩);rcases h with h | h;·exact .inl h
 ·rw[h3 _ (he i o ho e hm hb)];exact .inr h
theorem Gc {ops:List Oper}{i:Nat} (h:ops[i]?=none):(jR ops []).getD i 0=0:=by
 have hl:(jR ops []).length<=i:=by rw[Og];simpa using (List.getElem?_eq_none_iff.1 h)
 simp[U8 hl]
theorem Ln {ops:List Oper} (he:∀(i:Nat)(o:Oper),ops[i]?=some o->∀e∈o.after.toList,Region.binds .any e=true->e.on<i):∀(i j k:Nat),
  ((jR ops []).getD i 0).testBit j=true->((jR ops []).getD j 0).testBit k=true->((jR ops []).getD i 0).testBit k=true:=by
 intro i;induction i using Nat.strongRecOn with
 | _ i ih=>
  intro j k h1 h2;cases ho:ops[i]? with
  | none=>rw[Gc ho]at h1;simp at h1
  | some o=>
   obtain⟨e,hm,hb,h⟩:=BK he ho h1;rcases h with h | h;·subst h;exact Fi he ho hm hb (.inr h2)
   ·exact Fi he ho hm hb (.inr (ih e.on (he i o ho e hm hb) j k h h2))
theorem Lm {ops:List Oper} (he:∀(i:Nat)(o:Oper),ops[i]?=some o->∀e∈o.after.toList,Region.binds .any e=true->e.on<i):∀(i j:Nat),
  ((jR ops []).getD i 0).testBit j=true->j<i:=by
 intro i;induction i using Nat.strongRecOn with
 | _ i ih=>
  intro j h1;cases ho:ops[i]? with
  | none=>rw[Gc ho]at h1;simp at h1
  | some o=>
   obtain⟨e,hm,hb,h⟩:=BK he ho h1;have hlt:=he i o ho e hm hb;rcases h with h | h;·omega
   ·have:=ih e.on hlt j h;omega
structure DF (P:Program)(n:Nat)(keep:Nat->Bool)(ops:List Oper)(r:DR):Prop where
 aI:r.aD=jR ops []
 aC:∀o∈r.aC,o.hv=o.op.aE/\∃op,ops[o.i]?=some op/\lJ P (mK keep ops r.aD o.i) op=some o.op/\rq (mK keep ops r.aD o.i) ops op.guard=some o.aA
 aA:pN r.aA r.k r.aC=true
 aF:∀(i j:Nat)(o p:Oper)(t:Tmp),ops[i]?=some o->ops[j]?=some p->o.dst=some t->p.dst=some t->i=j
 aE:∀(i:Nat)(o:Oper),ops[i]?=some o->∀e∈o.after.toList,Region.binds .any e=true->e.on<i
 aG:∀i,i<ops.length->∃o∈r.aC,o.i=i
 lt:∀op∈ops,∀t,op.dst=some t->t<n
 aH:r.aE=nY keep ops 0
theorem Kc {P:Program}{n:Nat}{keep:Nat->Bool}{ops:List Oper}{r:DR}(h:uK P n keep ops=some r):DF P n keep ops r:=by
 unfold uK at h;simp only at h;split at h
 ·rename_i all E;split at h
  ·rename_i hc;cases h;simp only[US]at hc;obtain⟨⟨⟨⟨h1,h2⟩,h3⟩,h4⟩,h5⟩:=hc;refine⟨rfl,λo ho=>?_,h1,LA ops h2,λi o hi e he hb=>by have:=LI ops 0 h3 i o hi e he hb;omega,λi hi=>?_,λop I t ht=>?_,rfl⟩;·simp only[List.mem_filterMap]at ho;obtain⟨j,_,hj⟩:=ho;obtain⟨_,u⟩:=Kb ops 0 0 all E;obtain⟨e1,e2,op,e3,e4,e5⟩:=u j o hj;simp only[Wp]at e1 e4 e5;subst e1;exact⟨e2,op,e3,e4,e5⟩
   ·have:=VQ.1 h4 i (by simpa using hi);rw[WH]at this;obtain⟨o,ho,he⟩:=this;exact⟨o,ho,by simpa using he⟩
   ·have:=VQ.1 h5 op I;rw[ht]at this;simpa using this
  ·cases h
 ·cases h
theorem nJ {dep:Nat->Nat->Bool}{k:Nat}:∀{l:List DO},pN dep k l=true->∀o∈l,o.op.aA=true->o.nm<k:=by
 intro l;induction l with
 | nil=>intro _ o h;simp at h
 | cons x r ih=>
  intro h o ho hl;simp only[pN,US]at h;rcases Vg.1 ho with rfl | ho;·have:=h.1.2;simp[hl]at this;exact this
  ·exact ih h.2 o ho hl
theorem rM {dep:Nat->Nat->Bool}{k:Nat}:∀{pre rest:List DO},pN dep k (pre++rest)=true->∀o∈pre,∀x∈rest,
  x.i≠o.i/\dep o.i x.i=false/\(o.hv=true->dep x.i o.i=true)/\(o.op.aA=true->x.op.aA=true->x.nm≠o.nm):=by
 intro pre;induction pre with
 | nil=>intro rest _ o h;simp at h
 | cons y pre ih=>
  intro rest h o ho x hx;simp only[Wo,pN,US]at h;rcases Vg.1 ho with rfl | ho
  ·have:=VQ.1 h.1.1 x (by simp[hx]);simp only[US,Bool.not_eq_true',VF,beq_eq_false_iff_ne]at this;obtain⟨⟨⟨a,b⟩,c⟩,d⟩:=this;refine⟨a,b,λhv=>?_,λh1 h2=>?_⟩
   ·rcases c with c | c;·rw[hv]at c;cases c
    ·exact c
   ·rcases d with (d | d) | d;·rw[h1]at d;cases d
    ·rw[h2]at d;cases d
    ·exact d
  ·exact ih h.2 o ho x hx
theorem qy:∀(xs:List (Nat×Nat×e_)) (h:eW) (m:Nat),(kl xs h).length=h.length /\
  ((∃x∈xs,x.2.1=m)->m<h.length->(kl xs h)[m]?=some none)/\((∀x∈xs,x.2.1≠m)->(kl xs h)[m]?=h[m]?):=by
 intro xs;induction xs with
 | nil=>intro h m;exact⟨rfl,λ⟨x,hx,_⟩=>by simp at hx,λ_=>rfl⟩
 | cons x r ih=>
  intro h m;obtain⟨a,b,c⟩:=ih (h.set x.2.1 none) m;refine⟨by simpa [kl] using a,?_,?_⟩
  ·rintro⟨y,hy,hm⟩ hlt;by_cases hr:∃z∈r,z.2.1=m;·exact b hr (by simpa using hlt)
   ·have u:∀z∈r,z.2.1≠m:=λz hz e=>hr ⟨z,hz,e⟩;rcases Vg.1 hy with rfl | hy;·simp only[kl];rw[c u,hm,Ux hlt]
    ·exact absurd hm (u y hy)
  ·intro hn;simp only[kl];rw[c (λz hz=>hn z (by simp[hz])),Uq (hn x (by simp))]
theorem oP:∀(xs:List (Nat×Nat×e_)) (h:eW) (m:Nat),(j_ xs h).length=h.length/\((∀x∈xs,x.2.1≠m)->(j_ xs h)[m]?=h[m]?):=by
 intro xs;induction xs with
 | nil=>intro h m;exact⟨rfl,λ_=>rfl⟩
 | cons x r ih=>intro h m;obtain⟨a,b⟩:=ih h m;refine⟨by simpa [j_] using a,λhn=>?_⟩;simp only[j_];rw[Uq (hn x (by simp)),b (λz hz=>hn z (by simp[hz]))]
theorem Hz:∀(xs:List (Nat×Nat×e_)) (h:eW),(xs.map (·.2.1)).Nodup->∀x∈xs,x.2.1<h.length->(j_ xs h)[x.2.1]?=some (some x.2.2):=by
 intro xs;induction xs with
 | nil=>intro h _ x hx;simp at hx
 | cons y r ih=>
  intro h hn x hx hlt;simp only[U5,WM,Vz,not_exists,not_and]at hn;simp only[j_];rcases Vg.1 hx with rfl | hx;·rw[Ux (by rw[(oP r h 0).1];exact hlt)]
  ·rw[Uq (λe=>hn.1 x hx e.symm)];exact ih h hn.2 x hx hlt
theorem JC:∀(E:List (Nat×Nat×e_)) {G:Gh} {w:World} {h:eW},fO G w h->(E.map (·.2.1)).Nodup->
  (∀x∈E,h[x.2.1]?=some (some x.2.2)/\(∃sz es gr,x.2.2=.aA sz es gr)/\∃b,G.aA x.2.1=some b)->
  ∃Gk,fO Gk w (kl E h)/\ib G w Gk w/\(∀n,Gk.aA n=G.aA n)/\(∀n,Gk.aE n↔G.aE n) /\
   ∀{G' w' h'},gy Gk w G' w'->fO G' w' h'->(∀x∈E,h'[x.2.1]?=some none)->
    ∃I,fO I w' (j_ E h')/\gy G w I w'/\ib G' w' I w'/\(∀n,I.aA n=G'.aA n)/\(∀n,I.aE n↔G'.aE n):=by
 intro E;induction E with
 | nil=>intro G w h g _ _;exact⟨G,g,ib.aI G w,λ_=>rfl,λ_=>VW,fun {G' w' h'} s g' _=>⟨G',g',s,ib.aI G' w',λ_=>rfl,λ_=>VW⟩⟩
 | cons x r ih=>
  intro G w h g hn hE;simp only[U5,WM,Vz,not_exists,not_and]at hn;obtain⟨hx,⟨sz,es,gr,hb⟩,b,M⟩:=hE x (by simp);rw[hb]at hx;have g1:=g.aR hx;obtain⟨Gk,h1,h2,h3,h4,h5⟩:=ih g1 hn.2 (λy hy=>by obtain⟨p,q,s⟩:=hE y (by simp[hy]);exact⟨by rw[Uq (λe=>hn.1 y hy e.symm)];exact p,q,s⟩);refine⟨Gk,h1,(G.aO w x.2.1).aG h2,h3,h4,fun {G' w' h'} s g' u=>?_⟩;obtain⟨G1,a1,a2,a3,a4,a5⟩:=h5 s g' (λy hy=>u y (by simp[hy]));have O:(j_ r h')[x.2.1]?=some none:=by rw[(oP r h' x.2.1).2 (λz hz e=>hn.1 z hz e)];exact u x (by simp)
  obtain⟨b1,b2⟩:=g.bD hx M a2 a1 O;refine⟨G1.aP x.2.1,?_,b2,?_,λn=>a4 n,λn=>a5 n⟩;·simp only[j_,hb];exact b1
  ·exact a3.aG ⟨Uy _,λ_ _ _ h=>h,λ_ _ h=>h,λt b h=>by cases t<;>exact h,λ_ _ _=>rfl,λ_ _=>rfl⟩
section
variable {P:Program} {n:Nat} {keep:Nat->Bool} {ops:List Oper} {r:DR} {L0:fV} {lo:Nat} {G0:Gh} {w0:World}
def DT (P:Program)(r:DR)(L0:fV)(lo:Nat)(d:DS)(o:DO):Prop:=
 ∃γ:fB->AV,(∀j,r.aA o.i j=true->γ (.aD j)=lk j d.R)/\(∀t,γ (.aC t)=lk t L0)/\(∀v,γ (.aA v)=v) /\
  ((∃x want,o.aA=some (x,want)/\((γ x=.aE (!want))\/∃cs,γ x=.aI cs)/\lk o.i d.R=.aI []/\(o.op.aA=true->d.h[lo+o.nm]?=some none)) \/
   ((o.aA=none\/∃x want,o.aA=some (x,want)/\γ x=.aE want) /\
   ((∃agg nn x,o.op=.r (.aA agg nn x)/\gW lo r.k (γ x)=true/\ir d.h agg nn (γ x)=some (lk o.i d.R)/\(o.i,γ x,agg,nn,lk o.i d.R)∈d.aE) \/
    (∃ro,o.op=.r ro/\(∀h,gx γ h ro=some (lk o.i d.R))) \/
    (∃ho b,o.op=.h ho/\o.op.aA=true/\jy γ (lo+o.nm) ho=some (lk o.i d.R,b)/\d.h[lo+o.nm]?=some (some b)))))
structure HS (r:DR)(lo:Nat)(listed:Array Bool)(d:DS)(G:Gh)(hS:eW):Prop where
 aC:hS.length=d.h.length
 aE:lo+r.k<=hS.length
 aD:∀m,(∀o∈r.aC,o.op.aA=true->listed.getD o.i false=false->m≠lo+o.nm)->hS[m]?=d.h[m]?
 aA:∀o∈r.aC,o.op.aA=true->listed.getD o.i false=false->hS[lo+o.nm]?=some none/\G.aA (lo+o.nm)=none/\¬G.aE (lo+o.nm)
abbrev Dw (r:DR)(lo:Nat)(listed:Array Bool)(pre:List DO)(h:eW)(R:fV)(G:Gh)(x:Nat×Nat×e_):Prop:=
 ∃o∈pre,o.op.aA=true/\x.1=o.i/\x.2.1=lo+o.nm/\(∃sz es gr,x.2.2=.aA sz es gr) /\
  ((∀q∈pre,q.hv=true->listed.getD q.i false=true->r.aA q.i x.1=false)->h[x.2.1]?=some (some x.2.2)) /\
  (listed.getD o.i false=true->∃b,G.aA x.2.1=some b)/\lk x.1 R≠.aI []
structure J (P:Program)(n:Nat)(keep:Nat->Bool)(ops:List Oper)(r:DR)(L0:fV)(lo:Nat)(G0:Gh)(w0:World)(listed:Array Bool)(pre rest:List DO)(d:DS)(G:Gh)(w:World)(a:Act):Prop where
 aC:r.aC=pre++rest
 aD:listed.size=ops.length
 aJ:∀i j,listed.getD i false=true->r.aA i j=true->listed.getD j false=true
 aE:∀o∈rest,listed.getD o.i false=false
 L:d.L=L0
 A:∀(i:Nat)(op:Oper)(t:Tmp),listed.getD i false=true->ops[i]?=some op->op.dst=some t->V G w (lk i d.R) (a.tmps.getD t undef)
 B:∀t,keep t=true->(∀(i:Nat)(op:Oper),listed.getD i false=true->ops[i]?=some op->op.dst≠some t)->V G w (lk t L0) (a.tmps.getD t undef)
 aM:∀o∈pre,listed.getD o.i false=false->DT P r L0 lo d o
 aF:∃hS,fO G w hS/\HS r lo listed d G hS
 aI:(d.aC.map (·.2.1)).Nodup
 aA:∀x∈d.aC,Dw r lo listed pre d.h d.R G x
 aK:∀o∈pre,o.op.aA=true->(∃x∈d.aC,x.1=o.i)\/d.h[lo+o.nm]?=some none
 aH:∀o∈rest,o.op.aA=true->d.h[lo+o.nm]?=some none
 aL:a.tmps.size=n
 aN:a.defers=[]
 aG:gy G0 w0 G w
 lo:G0.N<=lo
theorem DF.aD (F:DF P n keep ops r):∀i j,r.aA i j=((jR ops []).getD i 0).testBit j:=λi j=>by simp only[DR.aA,F.aI]
theorem DF.aJ (F:DF P n keep ops r){i j k:Nat}(h1:r.aA i j=true)(h2:r.aA j k=true):r.aA i k=true:=by rw[F.aD]at *;exact Ln F.aE i j k h1 h2
theorem J.aT {u:Array Bool}{pre rest:List DO}{d:DS}{G:Gh}{w:World}{a:Act}(F:DF P n keep ops r)(j:J P n keep ops r L0 lo G0 w0 u pre rest d G w a){i:Nat}
  (hr:i∈Region.ready .any ops.toArray u):u.getD i false=false/\i<ops.length/\(∃op,ops[i]?=some op)/\∀q,r.aA i q=true->u.getD q false=true:=by
 rw[mem_ready]at hr;obtain⟨h0,o,ho,I⟩:=hr;have E:ops[i]?=some o:=by simpa using ho
 have hlt:i<ops.length:=(Up.1 E).1;refine⟨?_,hlt,⟨o,E⟩,λq hq=>?_⟩
 ·have:i<u.size:=by rw[j.aD];exact hlt
  simp[this]at h0 ⊢;exact h0
 ·rw[F.aD]at hq;obtain⟨e,hm,hb,h⟩:=BK F.aE E hq;have he:=I e (by simpa using hm) hb;rcases h with h | h;·rw[<-h];exact he
  ·exact j.aJ _ _ he (by rw[F.aD];exact h)
theorem J.aU {e:Array Bool}{pre rest:List DO}{d:DS}{G:Gh}{w:World}{a:Act}(F:DF P n keep ops r)(j:J P n keep ops r L0 lo G0 w0 e pre rest d G w a){i:Nat}
  (hi:e.getD i false=false) (hd:∀q,r.aA i q=true->e.getD q false=true) {γ:fB->AV}
  (h1:∀q,r.aA i q=true->γ (.aD q)=lk q d.R) (h2:∀t,γ (.aC t)=lk t L0) (h3:∀v,γ (.aA v)=v):mB G w (mK keep ops r.aD i) γ a:=by
 intro x;cases x with
 | const v=>simp only[mK,h3];exact V.aZ G w v
 | global g=>simp only[mK,h3];exact .aP _
 | func f=>simp only[mK,h3];exact .aK f [] #[] [] #[] rfl (λj c v h=>by simp at h) rfl (λj c v h=>by simp at h)
 | tmp t=>
  have hw:=Ul t ops 0;simp only[mK];split at hw
  ·rename_i q hq;obtain⟨_,op,O,I⟩:=hw;simp only[Nat.sub_zero]at O;split;·rename_i hb;have U:r.aA i q=true:=hb;rw[h1 q U];exact j.A q op t (hd q U) O I
   ·split;·rename_i hb;simp only[US]at hb;rw[h2];refine j.B t hb.2 (λp M hp u E=>?_);have:q=p:=F.aF q p op M t O u I E;subst this;have:=j.aJ q i hp hb.1;rw[hi]at this;cases this
    ·rw[h3];exact .aI _
  ·rename_i hq;split;·rename_i hk;rw[h2];exact j.B t hk (λp M _ u=>hw p M u)
   ·rw[h3];exact .aI _
theorem kX {u:Array Bool}{i q:Nat}(hi:i<u.size):(u.setIfInBounds i true).getD q false=(decide (q=i) || u.getD q false):=by
 by_cases h:q=i
 ·subst h;simp[hi]
 ·simp[h,VZ (λe=>h e.symm)]
theorem J.aS {e:Array Bool}{pre rest:List DO}{d:DS}{G:Gh}{w:World}{a:Act}(j:J P n keep ops r L0 lo G0 w0 e pre rest d G w a){i:Nat}(hi:i<ops.length)
  (hd:∀q,r.aA i q=true->e.getD q false=true):∀x q,(e.setIfInBounds i true).getD x false=true->r.aA x q=true->(e.setIfInBounds i true).getD q false=true:=by
 have hs:i<e.size:=by rw[j.aD];exact hi
 intro x q hx u;rw[kX hs]at hx ⊢;simp only[VF,Vb]at hx ⊢;rcases hx with rfl | hx;·exact .inr (hd q u)
 ·exact .inr (j.aJ x q hx u)
theorem J.AB (F:DF P n keep ops r){u:Array Bool}{pre rest:List DO}{d:DS}{G:Gh}{w:World}{a:Act}(j:J P n keep ops r L0 lo G0 w0 u pre rest d G w a){i:Nat}{op:Oper} (ho:ops[i]?=some op)
  {G':Gh} {w':World} (k:ib G w G' w') {R':fV} (hR:∀q,q≠i->u.getD q false=true->lk q R'=lk q d.R) {v:Value} (hv:V G' w' (lk i R') v):
  (∀(q:Nat)(I:Oper)(t:Tmp),(u.setIfInBounds i true).getD q false=true->ops[q]?=some I->I.dst=some t->V G' w' (lk q R') ((a.put op.dst v).tmps.getD t undef)) /\
  (∀t,keep t=true->(∀(q:Nat)(I:Oper),(u.setIfInBounds i true).getD q false=true->ops[q]?=some I->I.dst≠some t)->V G' w' (lk t L0) ((a.put op.dst v).tmps.getD t undef)) /\
  (a.put op.dst v).tmps.size=n/\(a.put op.dst v).defers=[]:=by
 have hlt:i<ops.length:=(Up.1 ho).1;have hs:i<u.size:=by rw[j.aD];exact hlt
 have O:∀t,(a.put op.dst v).tmps.getD t undef=if op.dst=some t then v else a.tmps.getD t undef:=by
  intro t;cases hd:op.dst with
  | none=>simp[Act.put]
  | some s=>
   have W:s<a.tmps.size:=by rw[j.aL];exact F.lt op (List.mem_of_getElem? ho) s hd
   simp only[Act.put];rw[tp W];by_cases e:t=s;·subst e;simp
   ·have:¬s=t:=λx=>e x.symm;simp[e,this]
 refine⟨λq I t hq E M=>?_,λt hk U=>?_,?_,?_⟩
 ·rw[O];by_cases e:q=i;·subst e;rw[ho]at E;cases E;rw[Uv M];exact hv
  ·rw[kX hs]at hq;simp only[e,V9,Bool.false_or]at hq;rw[Uw (λh=>e (F.aF q i I op t E ho M h)),hR q e hq];exact (j.A q I t hq E M).aA k
 ·rw[O,Uw (U i op (by rw[kX hs];simp) ho)];exact (j.B t hk (λq I hq E=>U q I (by rw[kX hs,hq];simp) E)).aA k
 ·cases hd:op.dst<;>simp[Act.put,j.aL]
 ·cases hd:op.dst<;>simp[Act.put,j.aN]
theorem J.aQ (F:DF P n keep ops r){e:Array Bool}{pre rest:List DO}{d:DS}{G:Gh}{w:World}{a:Act}(j:J P n keep ops r L0 lo G0 w0 e pre rest d G w a){o:DO}(ho:o∈pre)(hl:o.op.aA=true){m:Nat}(hm:m=lo+o.nm):m<G.N:=by obtain⟨hS,g,hs⟩:=j.aF;have:=nJ F.aA o (by rw[j.aC];simp[ho]) hl;have:=hs.aE;rw[<-g.aA];omega
theorem J.aP (F : DF P n keep ops r) {u : Array Bool} {pre rest : List DO} {d : DS} {G : Gh} {w : World} {a : Act} (j : J P n keep ops r L0 lo G0 w0 u pre rest d G w a) {i : Nat} {op : Oper} (ho : ops[i]? = some op)
    (hd : ∀ q, r.aA i q = true -> u.getD q false = true) (E : ∀ o ∈ rest, o.i ≠ i)
    {G' : Gh} {w' : World} (k : ib G w G' w') {v : Value} (hv : V G' w' (lk i d.R) v) (U : gy G0 w0 G' w')
    (M : ∃ hS, fO G' w' hS /\ HS r lo (u.setIfInBounds i true) d G' hS) (hl : ∀ x ∈ d.aC, x.1 = i -> ∃ b, G'.aA x.2.1 = some b) :
    J P n keep ops r L0 lo G0 w0 (u.setIfInBounds i true) pre rest d G' w' (a.put op.dst v) := by
  have hlt : i < ops.length := (Up.1 ho).1;have hs : i < u.size := by rw [j.aD]; exact hlt
  obtain ⟨hA, hB, O, a2⟩ := j.AB F ho k (R' := d.R) (λ_ _ _ => rfl) hv;have sub : ∀ q, (u.setIfInBounds i true).getD q false = false -> u.getD q false = false := by intro q hq;rw [kX hs] at hq;simp only [V3] at hq;exact hq.2
  refine { aC := j.aC, aD := by simp [j.aD], aJ := j.aS hlt hd, aE := fun o h => ?_, L := j.L, A := hA, B := hB, aM := fun o h hq => j.aM o h (sub _ hq), aF := M, aI := j.aI,
           aA := λx h => ?_, aK := j.aK, aH := j.aH, aL := O, aN := a2, aG := U, lo := j.lo }
  · rw [kX hs, j.aE o h]; simp [E o h]
  · obtain ⟨o, h1, h2, h3, h4, h5, h6, h7⟩ := j.aA x h
    refine ⟨o, h1, h2, h3, h4, h5, λhq => h6 (λq a1 Z W => hq q a1 Z (by rw [kX hs, W]; simp)), λI => ?_, h7.2⟩;rw [kX hs] at I;simp only [VF, Vb] at I;rcases I with e | I
    · exact hl x h (by rw [h3, e])
    · obtain ⟨b, hb⟩ := h7.1 I
      exact ⟨b, k.aA _ _ (j.aQ F h1 h2 h4) hb⟩
theorem Cn {dep:Nat->Nat->Bool}{k:Nat}:∀{l:List DO},pN dep k l=true->∀o∈l,∀x∈l,(o.i=x.i->o=x)/\(o.op.aA=true->x.op.aA=true->o.nm=x.nm->o=x):=by
 intro l;induction l with
 | nil=>intro _ o h;simp at h
 | cons y r ih=>
  intro h o ho x hx;have E:=λz hz=>rM (pre:=[y]) (rest:=r) (by simpa using h) y (by simp) z hz;simp only[pN,US]at h;rcases Vg.1 ho with rfl | I<;>rcases Vg.1 hx with rfl | u;·exact⟨λ_=>rfl,λ_ _ _=>rfl⟩
  ·obtain⟨a,_,_,d⟩:=E x u;exact⟨λe=>absurd e.symm a,λh1 h2 e=>absurd e.symm (d h1 h2)⟩
  ·obtain⟨a,_,_,d⟩:=E o I;exact⟨λe=>absurd e a,λh1 h2 e=>absurd e (d h2 h1)⟩
  ·exact ih h.2 o I x u
theorem Kf {tr:Operand->fB}{o:Oper}{ro:nR}(h:lJ P tr o=some (.r ro)):cR P tr o=some ro:=by
 unfold lJ at h;split at h;·rename_i q hq;cases h;exact hq
 ·split at h;·cases h
  ·split at h<;>cases h
theorem Eo {tr:Operand->fB}{o:Oper}{ho:nN}(h:lJ P tr o=some (.h ho)):cH P tr o=some ho:=by
 unfold lJ at h;split at h;·cases h
 ·split at h;·rename_i q hq;cases h;exact hq
  ·split at h<;>cases h
theorem BT {G:Gh}{w:World}{a:Act}{ops:Array Oper}{o:Oper}{j:Nat}{want:Bool}{t:Tmp}{av:AV} (hv:V G w av (a.eval (.tmp t))) (hg:o.guard=some (j,want)) (ht:(ops[j]?).bind (·.dst)=some t):
  (∀b,av=.aE b->Region.wanted o (yielded ops a.tmps)=(b == want))/\(∀cs,av=.aI cs->Region.wanted o (yielded ops a.tmps)=false):=by
 have hy:yielded ops a.tmps j=match a.tmps[t]? with | some (.bool b)=>some b | _=>none:=by simp only[yielded,ht,VE];rfl
 have hev:a.eval (.tmp t)=(a.tmps[t]?).getD undef:=by simp[Act.eval]
 rw[hev]at hv;constructor
 ·rintro b rfl;cases hq:a.tmps[t]? with
  | none=>rw[hq]at hv;cases hv
  | some v=>rw[hq]at hv;simp only[U6]at hv;cases hv;simp only[Region.wanted,hg,hy,hq];cases b<;>cases want<;>rfl
 ·rintro cs rfl;cases hq:a.tmps[t]? with
  | none=>simp[Region.wanted,hg,hy,hq]
  | some v=>rw[hq]at hv;simp only[U6]at hv;cases hv;simp[Region.wanted,hg,hy,hq]
theorem J.aX (F:DF P n keep ops r){listed:Array Bool}{pre rest:List DO}{d:DS}{G:Gh}{w:World}{a:Act}(j:J P n keep ops r L0 lo G0 w0 listed pre rest d G w a){o:DO}(ho:o∈pre)
  (hi:listed.getD o.i false=false) (hd:∀q,r.aA o.i q=true->listed.getD q false=true) {Q:Exit->Act->World->Prop} {K:Act->World->Prop}
  (hK:∀G' w' a',J P n keep ops r L0 lo G0 w0 (listed.setIfInBounds o.i true) pre rest d G' w' a'->K a' w'):wpOp P ops.toArray Q o.i K a w:=by
 have hmem:o∈r.aC:=by rw[j.aC];simp[ho]
 obtain⟨hhv,op,hop,hcop,hcg⟩:=F.aC o hmem;have hlt:o.i<ops.length:=(Up.1 hop).1;have hls:o.i<listed.size:=by rw[j.aD];exact hlt
 obtain⟨γ,g1,g2,g3,hcase⟩:=j.aM o ho hi;have hstands:=j.aU F hi hd g1 g2 g3;have hrest:∀x∈rest,x.i≠o.i:=λx hx=>(rM (by rw[<-j.aC];exact F.aA) o ho x hx).1;obtain⟨hS,gam,hs⟩:=j.aF;have same:∀o'∈r.aC,o'.i=o.i->o'=o:=λo' h' e=>(Cn F.aA o' h' o hmem).1 e;have hopA:ops.toArray[o.i]?=some op:=by simpa using hop
 have hs':o.op.aA=false\/d.h[lo+o.nm]?=some none->HS r lo (listed.setIfInBounds o.i true) d G hS:=by
  intro hnl;have sub:∀q,(listed.setIfInBounds o.i true).getD q false=false->listed.getD q false=false/\q≠o.i:=by intro q hq;rw[kX hls]at hq;simp only[V3,VD]at hq;exact⟨hq.2,hq.1⟩
  refine⟨hs.aC,hs.aE,λm hm=>?_,λo' h1 h2 h3=>hs.aA o' h1 h2 (sub _ h3).1⟩;by_cases e:o.op.aA=true/\m=lo+o.nm
  ·rcases hnl with hnl | hnl;·rw[hnl]at e;cases e.1
   ·rw[e.2,hnl];exact (hs.aA o hmem e.1 hi).1
  ·refine hs.aD m (λo' h1 h2 h3=>?_);by_cases e':o'.i=o.i;·have:=same o' h1 e';subst this;exact λx=>e ⟨h2,x⟩
   ·exact hm o' h1 h2 (by rw[kX hls,h3];simp[e'])
 unfold wpOp;simp only[hopA];have guardX:∀x want,o.aA=some (x,want)->∃jj t,op.guard=some (jj,want)/\(ops.toArray[jj]?).bind (·.dst)=some t/\x=mK keep ops r.aD o.i (.tmp t):=by
  intro x want hg;rw[hg]at hcg;unfold rq at hcg;split at hcg;·cases hcg
  ·rename_i jj want' hgo;split at hcg;·rename_i t ht;cases hcg;exact⟨jj,t,hgo,by simpa using ht,rfl⟩
   ·cases hcg
 rcases hcase with⟨x,want,hg,hx,hval,hnone⟩ | ⟨hgd,hbody⟩
 · -- it is passed over
  obtain⟨jj,t,hgo,ht,rfl⟩:=guardX x want hg;obtain⟨s1,s2⟩:=BT (hstands (.tmp t)) hgo ht;have hw:Region.wanted op (yielded ops.toArray a.tmps)=false:=by
   rcases hx with hx | ⟨cs,hx⟩;·rw[s1 _ hx];cases want<;>rfl
   ·exact s2 cs hx
  rw[hw];simp only[UQ,Vd];refine hK G w _ (j.aP F hop hd hrest (ib.aI G w) (by rw[hval];exact .aM [] #[] rfl (λj c v h=>by simp at h)) j.aG ⟨hS,gam,hs' ?_⟩ ?_)
  ·cases hlq:o.op.aA with
   | false=>exact .inl rfl
   | true=>exact .inr (hnone hlq)
  ·intro y hy e;obtain⟨o',h1,h2,h3,h4,h5,h6,h7,h8⟩:=j.aA y hy;rw[e,hval]at h8;exact absurd rfl h8
 ·have hw:Region.wanted op (yielded ops.toArray a.tmps)=true:=by
   rcases hgd with hg | ⟨x,want,hg,hx⟩
   ·rw[hg]at hcg;unfold rq at hcg;split at hcg;·rename_i hgo;simp[Region.wanted,hgo]
    ·split at hcg<;>cases hcg
   ·obtain⟨jj,t,hgo,ht,rfl⟩:=guardX x want hg;rw[(BT (hstands (.tmp t)) hgo ht).1 _ hx];simp
  rw[hw];simp only[Vm];left;have reads:∀ro,o.op=.r ro->gx γ hS ro=some (lk o.i d.R)->op.wp P a w K Q:=by intro ro hro hrev;rw[hro]at hcop;obtain⟨u,hu,hV⟩:=Hp (P:=P) gam hstands (Kf hcop) hrev;unfold Oper.wp;rw[hu,Oper.upon_value];refine hK G w _ (j.aP F hop hd hrest (ib.aI G w) hV j.aG ⟨hS,gam,hs' (.inl (by rw[hro];rfl))⟩ ?_);intro y hy e;obtain⟨o',h1,h2,h3,_⟩:=j.aA y hy;have:=same o' (by rw[j.aC];simp[h1]) (by rw[<-h3,e]);subst this;rw[hro]at h2;cases h2
  rcases hbody with⟨agg,nn,x,hro,hres,hld,_⟩ | ⟨ro,hro,hrev⟩ | ⟨ho',b,hro,hlq,hlight,hblk⟩
  ·refine reads _ hro ?_;simp only[gx];rw[<-hld];cases hγ:γ x with
   | aC m sz i' o'=>rw[hγ]at hres;simp only[gW,VF,Vb]at hres;have hm:hS[m]?=d.h[m]?:=hs.aD m (λo' h1 h2 _ e=>by have:=nJ F.aA o' h1 h2;omega);simp only[ir,hm]
   | _=>rfl
  ·exact reads _ hro (hrev hS)
  ·rw[hro]at hcop;obtain⟨sz,es,gr,rfl⟩:=B_ hlight;obtain⟨s,mkv,he,hm,cells,ty,u,hrun,l1,l2,l3,l4,l5⟩:=F7 (P:=P) hstands (Eo hcop) hlight;obtain⟨f1,f2,f3⟩:=hs.aA o hmem hlq hi;have hN:lo+o.nm<G.N:=j.aQ F ho hlq rfl;have kp:=gam.aY f2 f3 (.cells cells ty);have gp:=gam.bF hN f1 f2 f3 (cells:=cells) (ty:=ty) l1 l2 l3 l4;have hvv:=l5 (G.aG (lo+o.nm) w.heap.size) (lo+o.nm) hN (by simp[Gh.aG]);rw[hm]at hvv;unfold Oper.wp;rw[he];simp only[Sem.run_bind,hrun,Result.andThen_ok,Sem.run_pure,Oper.upon_value];refine hK _ _ _ (j.aP F hop hd hrest kp hvv (j.aG.aM gam (by have:=j.lo;omega) f2 f3 _ _) ⟨_,gp,?_⟩ ?_)
   ·have hltS:lo+o.nm<hS.length:=by rw[gam.aA];exact hN
    refine⟨by simp[hs.aC],by simpa using hs.aE,λm hmm=>?_,λo' h1 h2 h3=>?_⟩
    ·by_cases e:m=lo+o.nm
     ·subst e;rw[Ux hltS,hblk]
     ·rw[Uq (λx=>e x.symm)];refine hs.aD m (λo' h1 h2 h3=>?_);by_cases e':o'.i=o.i;·have:=same o' h1 e';subst this;exact e
      ·exact hmm o' h1 h2 (by rw[kX hls,h3];simp[e'])
    ·rw[kX hls]at h3;simp only[V3,VD]at h3;have hne:lo+o'.nm≠lo+o.nm:=by intro e;have:=(Cn F.aA o' h1 o hmem).2 h2 hlq (by omega);exact h3.1 (by rw[this])
     obtain⟨a1,a2,a3⟩:=hs.aA o' h1 h2 h3.2;refine⟨by rw[Uq (λx=>hne x.symm)];exact a1,?_,a3⟩;simp only[Gh.aG,hne,Vd];exact a2
   ·intro y hy e;obtain⟨o',h1,h2,h3,h4,_⟩:=j.aA y hy;have:=same o' (by rw[j.aC];simp[h1]) (by rw[<-h3,e]);subst this;exact⟨w.heap.size,by rw[h4];simp[Gh.aG]⟩
end
section
variable {P:Program} {n:Nat} {keep:Nat->Bool} {ops:List Oper} {r:DR} {L0:fV} {lo:Nat} {G0:Gh} {w0:World}
theorem pL {i q:Nat}{v:AV}{R:fV}(h:q≠i):lk q ((i,v) :: R)=lk q R:=by simp only[lk];rw[Uw (λe=>h e.symm)]
theorem rK {i:Nat}{v:AV}{R:fV}:lk i ((i,v) :: R)=v:=by simp[lk]
theorem J.aO (F : DF P n keep ops r) {E : Array Bool} {pre rest : List DO} {d d' : DS} {o : DO} {G : Gh} {w : World} {a : Act} (j : J P n keep ops r L0 lo G0 w0 E pre (o :: rest) d G w a) {v : AV}
    (hL : d'.L = d.L) (hR : d'.R = (o.i, v) :: d.R) (Z : d'.h.length = d.h.length) (hh : ∀ m, (o.op.aA = true -> m ≠ lo + o.nm) -> d'.h[m]? = d.h[m]?) (hp : ∀ p ∈ d.aE, p ∈ d'.aE)
    (hw : DT P r L0 lo d' o)
    (M : (d'.aC = d.aC /\ (o.op.aA = true -> d'.h[lo + o.nm]? = some none)) \/ (o.op.aA = true /\ v ≠ .aI [] /\ ∃ sz es gr, d'.aC = (o.i, lo + o.nm, .aA sz es gr) :: d.aC /\ d'.h[lo + o.nm]? = some (some (.aA sz es gr)))) :
    J P n keep ops r L0 lo G0 w0 E (pre ++ [o]) rest d' G w a := by
  have I : r.aC = (pre ++ [o]) ++ rest := by rw [j.aC]; simp
  have ho : o ∈ r.aC := by rw [j.aC]; simp
  have hi := j.aE o (by simp)
  have split := λx hx y hy => rM (pre := pre) (rest := o :: rest) (by rw [<- j.aC]; exact F.aA) x hx y hy
  have O : ∀ x ∈ pre, o.i ≠ x.i := λx hx => (split x hx o (by simp)).1
  have u : ∀ x ∈ pre, o.op.aA = true -> x.op.aA = true -> lo + x.nm ≠ lo + o.nm := λx hx h1 h2 e => (split x hx o (by simp)).2.2.2 h2 h1 (by omega)
  refine { aC := I, aD := j.aD, aJ := j.aJ, aE := fun x hx => j.aE x (by simp [hx]), L := by rw [hL, j.L], A := fun i op t h1 h2 h3 => ?_, B := j.B, aM := fun x hx U => ?_, aF := ?_,
           aI := ?_, aA := λx hx => ?_, aK := λx hx U => ?_, aH := λx hx U => ?_, aL := j.aL, aN := j.aN, aG := j.aG, lo := j.lo }
  · rw [hR, pL (by rintro rfl; rw [hi] at h1; cases h1)]
    exact j.A i op t h1 h2 h3
  · rcases U4.1 hx with hx | hx
    · have a2 := O x hx
      have a4 : lk x.i d'.R = lk x.i d.R := by rw [hR, pL (λe => a2 e.symm)]
      have a3 : r.aA x.i o.i = false := (split x hx o (by simp)).2.1
      obtain ⟨γ, g1, g2, g3, hc⟩ := j.aM x hx U
      refine ⟨γ, λq hq => ?_, g2, g3, ?_⟩
      · rw [hR, pL (by rintro rfl; rw [a3] at hq; cases hq)]; exact g1 q hq
      · rw [a4]
        rcases hc with ⟨y, W, h1, h2, h3, h4⟩ | ⟨h1, h2⟩
        · exact .inl ⟨y, W, h1, h2, h3, λhl => by rw [hh _ (λh' => u x hx h' hl)]; exact h4 hl⟩
        · refine .inr ⟨h1, ?_⟩
          rcases h2 with ⟨agg, nn, y, e1, e2, e3, e4⟩ | ⟨ro, e1, e2⟩ | ⟨a1, b, e1, e2, e3, e4⟩
          · refine .inl ⟨agg, nn, y, e1, e2, ?_, hp _ e4⟩
            rw [<- e3]
            cases hγ : γ y with
            | aC m sz i' o' =>
              rw [hγ] at e2
              simp only [gW, VF, Vb] at e2
              have : d'.h[m]? = d.h[m]? := hh m (λhl e => by have := nJ F.aA o ho hl; omega)
              simp only [ir, this]
            | _ => rfl
          · exact .inr (.inl ⟨ro, e1, e2⟩)
          · exact .inr (.inr ⟨a1, b, e1, e2, e3, by rw [hh _ (λh' => u x hx h' e2)]; exact e4⟩)
    · have : x = o := by simpa using hx
      subst this; exact hw
  · obtain ⟨hS, g, hs⟩ := j.aF
    refine ⟨hS, g, by rw [Z]; exact hs.aC, hs.aE, λm hm => ?_, hs.aA⟩
    rw [hs.aD m hm, hh m (λhl => hm o ho hl hi)]
  · rcases M with ⟨e, _⟩ | ⟨hl, _, sz, es, gr, e, _⟩
    · rw [e]; exact j.aI
    · rw [e]
      simp only [U5, WM, Vz, not_exists, not_and]
      refine ⟨λx hx e' => ?_, j.aI⟩
      obtain ⟨q, q1, q2, q3, q4, _⟩ := j.aA x hx
      exact u q q1 hl q2 (by rw [<- q4, e'])
  · have old : ∀ x ∈ d.aC, Dw r lo E (pre ++ [o]) d'.h d'.R G x := by
      intro x hx
      obtain ⟨q, q1, q2, q3, q4, q5, q6, q7, q8⟩ := j.aA x hx
      refine ⟨q, by simp [q1], q2, q3, q4, q5, λhq => ?_, q7, ?_⟩
      · rw [hh _ (λhl e => u q q1 hl q2 (by rw [<- q4, e]))]
        exact q6 (λz hz => hq z (by simp [hz]))
      · rw [hR, q3, pL (λe => O q q1 e.symm), <- q3]; exact q8
    rcases M with ⟨e, _⟩ | ⟨hl, hv, sz, es, gr, e, hb⟩
    · rw [e] at hx; exact old x hx
    · rw [e] at hx
      rcases Vg.1 hx with rfl | hx
      · exact ⟨o, by simp, hl, rfl, rfl, ⟨sz, es, gr, rfl⟩, λ_ => hb, (λh => by rw [hi] at h; cases h), by rw [hR, rK]; exact hv⟩
      · exact old x hx
  · rcases U4.1 hx with hx | hx
    · rcases j.aK x hx U with ⟨y, hy, e⟩ | h
      · left
        rcases M with ⟨e', _⟩ | ⟨_, _, _, _, _, e', _⟩
        · exact ⟨y, by rw [e']; exact hy, e⟩
        · exact ⟨y, by rw [e']; simp [hy], e⟩
      · right; rw [hh _ (λhl => u x hx hl U)]; exact h
    · have : x = o := by simpa using hx
      subst this
      rcases M with ⟨_, h⟩ | ⟨_, _, sz, es, gr, e, _⟩
      · exact .inr (h U)
      · exact .inl ⟨(x.i, lo + x.nm, .aA sz es gr), by rw [e]; simp, rfl⟩
  · have := (rM (pre := pre ++ [o]) (rest := rest) (by rw [<- I]; exact F.aA) o (by simp) x hx).2.2.2
    rw [hh _ (λhl e => this hl U (by omega))]
    exact j.aH x (by simp [hx]) U
def sC (d:DS)(o:DO):Prop:=o.aA=none\/∃x want,o.aA=some (x,want)/\d.aA x=.aE want
theorem QE {γ:fB->AV}{ro:nR}{v:AV}(e:∀agg nn x,ro≠.aA agg nn x) (h:gx γ [] ro=some v):∀h',gx γ h' ro=some v:=by intro h';rw[<-h];cases ro<;>first | rfl | exact absurd rfl (e _ _ _)
theorem J.aR (F:DF P n keep ops r){K:DS->Prop}{listed:Array Bool}{G:Gh}{w:World}{a:Act}:∀(rest pre:List DO)(d:DS),J P n keep ops r L0 lo G0 w0 listed pre rest d G w a->gK P r.aA lo r.k rest d K->
  ∃pre' rest' d',J P n keep ops r L0 lo G0 w0 listed pre' rest' d' G w a /\
   ((rest'=[]/\K d')\/∃o q,rest'=o :: q/\o.hv=true/\sC d' o/\lu P r.aA lo r.k o d' λd''=>gK P r.aA lo r.k q d'' K):=by
 intro rest;induction rest with
 | nil=>intro pre d j h;exact⟨pre,[],d,j,.inl ⟨rfl,h⟩⟩
 | cons o rest ih=>
  intro pre d j h;have ho:o∈r.aC:=by rw[j.aC];simp
  have hL:∀t,d.aA (.aC t)=lk t L0:=λt=>by simp only[DS.aA,j.L]
  obtain⟨hhv,op,hop,hcop,hcg⟩:=F.aC o ho;have irr:∀{q v},r.aA o.i q=true->lk q ((o.i,v) :: d.R)=lk q d.R:=by intro q v hq;have:=Lm F.aE o.i q (by rw[<-F.aD];exact hq);exact pL (by omega)
  have skip:∀x want,o.aA=some (x,want)->(d.aA x=.aE (!want)\/∃cs,d.aA x=.aI cs)->gK P r.aA lo r.k rest (d.aD o.i (.aI [])) K->
    ∃pre' rest' d',J P n keep ops r L0 lo G0 w0 listed pre' rest' d' G w a /\
    ((rest'=[]/\K d')\/∃o q,rest'=o :: q/\o.hv=true/\sC d' o/\lu P r.aA lo r.k o d' λd''=>gK P r.aA lo r.k q d'' K):=by
   intro x want hg hx hv;refine ih (pre++[o]) (d.aD o.i (.aI [])) (j.aO F (d':=d.aD o.i (.aI [])) (v:=.aI []) rfl rfl rfl (λ_ _=>rfl) (λ_ h=>h) ?_ (.inl ⟨rfl,λhl=>j.aH o (by simp) hl⟩)) hv;exact⟨d.aA,λq hq=>(irr hq).symm,hL,λ_=>rfl,.inl ⟨x,want,hg,hx,rK,λhl=>j.aH o (by simp) hl⟩⟩
  have go:sC d o->lu P r.aA lo r.k o d (λd''=>gK P r.aA lo r.k rest d'' K)->
    ∃pre' rest' d',J P n keep ops r L0 lo G0 w0 listed pre' rest' d' G w a /\
    ((rest'=[]/\K d')\/∃o q,rest'=o :: q/\o.hv=true/\sC d' o/\lu P r.aA lo r.k o d' λd''=>gK P r.aA lo r.k q d'' K):=by
   intro hgo hv;cases hh:o.hv with
   | true=>exact⟨pre,o :: rest,d,j,.inr ⟨o,rest,rfl,hh,hgo,hv⟩⟩
   | false=>
    have gd:o.aA=none\/∃x want,o.aA=some (x,want)/\d.aA x=.aE want:=hgo;simp only[lu,hh]at hv;split at hv
    ·rename_i agg nn x _ hop';split at hv
     ·rename_i u hu;obtain⟨hres,hv⟩:=hv;have hnl:o.op.aA=false:=by rw[hop'];rfl
      refine ih (pre++[o]) _ (j.aO F (d':={d.aD o.i u with aE:=(o.i,d.aA x,agg,nn,u) :: d.aE}) (v:=u) rfl rfl rfl (λ_ _=>rfl) (λp hp=>Ws _ hp) ?_ (.inl ⟨rfl,λhl=>by rw[hnl]at hl;cases hl⟩)) hv;refine⟨d.aA,λq hq=>(irr hq).symm,hL,λ_=>rfl,.inr ⟨gd,.inl ⟨agg,nn,x,hop',hres,?_,?_⟩⟩⟩;·simp only[DS.aD,rK];exact hu
      ·simp only[DS.aD,rK];simp
     ·exact hv.elim
    ·rename_i ro hne _ hop';split at hv
     ·rename_i u hu;have hnl:o.op.aA=false:=by rw[hop'];rfl
      refine ih (pre++[o]) _ (j.aO F (d':=d.aD o.i u) (v:=u) rfl rfl rfl (λ_ _=>rfl) (λp hp=>hp) ?_ (.inl ⟨rfl,λhl=>by rw[hnl]at hl;cases hl⟩)) hv;refine⟨d.aA,λq hq=>(irr hq).symm,hL,λ_=>rfl,.inr ⟨gd,.inr (.inl ⟨ro,hop',?_⟩)⟩⟩;simp only[DS.aD,rK];exact QE (λagg nn x e=>hne agg nn x e) hu
     ·exact hv.elim
    ·rename_i ho' _ hop';split at hv
     ·rename_i u b hu;obtain⟨sz,es,gr,rfl⟩:=B_ hu;have hlq:o.op.aA=true:=by rw[hop'];cases ho'<;>first | rfl | (simp[jy]at hu)
      have hlen:lo+o.nm<d.h.length:=by obtain⟨hS,g,hs⟩:=j.aF;have:=nJ F.aA o ho hlq;have:=hs.aE;have:=hs.aC;omega
      have hne:u≠.aI []:=by rintro rfl;cases ho'<;>simp only[jy]at hu<;>(repeat' split at hu)<;>simp at hu
      refine ih (pre++[o]) _ (j.aO F (d':={d.aD o.i u with h:=d.h.set (lo+o.nm) (some (.aA sz es gr)),aC:=(o.i,lo+o.nm,.aA sz es gr) :: d.aC}) (v:=u) rfl rfl (by simp) (λm hm=>Uq (λe=>hm hlq e.symm)) (λp hp=>hp) ?_ (.inr ⟨hlq,hne,sz,es,gr,rfl,Ux hlen⟩)) hv;refine⟨d.aA,λq hq=>(irr hq).symm,hL,λ_=>rfl,.inr ⟨gd,.inr (.inr ⟨ho',.aA sz es gr,hop',hlq,?_,Ux hlen⟩)⟩⟩;simp only[DS.aD,rK];exact hu
     ·exact hv.elim
    all_goals first | exact hv.elim | contradiction
  simp only[gK]at h;split at h;·rename_i hg;exact go (.inl hg) h
  ·rename_i x want hg;split at h
   ·rename_i b hb;by_cases e:b=want;·subst e;exact go (.inr ⟨x,b,hg,hb⟩) (h.1 rfl)
    ·have e':b=(!want):=by cases b<;>cases want<;>simp_all
     subst e';exact skip x want hg (.inl hb) (h.2 rfl)
   ·rename_i cs hb;exact skip x want hg (.inr ⟨cs,hb⟩) h
   ·exact h.elim
end
theorem Gr {α β:Type}(f:α->β)(p:α->Bool):∀(l:List α),(l.map f).Nodup->((l.filter p).map f).Nodup:=by
 intro l;induction l with
 | nil=>intro h;exact h
 | cons x r ih=>
  intro h;simp only[U5,WM]at h;simp only[List.filter_cons];split;·simp only[U5,WM];exact⟨λhm=>h.1 (by obtain⟨y,hy,e⟩:=Vz.1 hm;exact Vz.2 ⟨y,(Wi.1 hy).1,e⟩),ih h.2⟩
  ·exact ih h.2
theorem LS {α β:Type}(f:α->β):∀(l:List α),(l.map f).Nodup->∀x∈l,∀y∈l,f x=f y->x=y:=by
 intro l;induction l with
 | nil=>intro _ x h;simp at h
 | cons z r ih=>
  intro h x hx y hy e;simp only[U5,WM,Vz,not_exists,not_and]at h;rcases Vg.1 hx with rfl | E<;>rcases Vg.1 hy with rfl | u;·rfl
  ·exact absurd e.symm (h.1 y u)
  ·exact absurd e (h.1 x E)
  ·exact ih h.2 x E y u e
theorem Ji {dep:Nat->Nat->Bool}{i:Nat}{h:eW}:∀{l:List (Nat×AV×Bool×Nat×AV)},pA dep i h l->∀p∈l,dep i p.1=true\/ir h p.2.2.1 p.2.2.2.1 p.2.1=some p.2.2.2.2:=by
 intro l;induction l with
 | nil=>intro _ p hp;simp at hp
 | cons x r ih=>
  intro h p hp;rcases Vg.1 hp with rfl | hp;·exact h.1
  ·exact ih h.2 p hp
section
variable {P:Program} {n:Nat} {keep:Nat->Bool} {ops:List Oper} {r:DR} {L0:fV} {lo:Nat} {G0:Gh} {w0:World}
def jz (r:DR)(d:DS)(o:DO):List (Nat×Nat×e_):=d.aC.filter λx=>!r.aA o.i x.1
theorem J.aY (F : DF P n keep ops r) {I : Array Bool} {pre rest : List DO} {d : DS} {G : Gh} {w : World} {a : Act} {o : DO} (j : J P n keep ops r L0 lo G0 w0 I pre (o :: rest) d G w a) (hv : o.hv = true)
    (hd : ∀ q, r.aA o.i q = true -> I.getD q false = true) {op : Oper} (b8 : ops[o.i]? = some op) :
    ∃ Gk, fO Gk w (kl (jz r d o) d.h) /\ ib G w Gk w /\
      ∀ {G' w' h' v u} {next : DS -> Prop}, gy Gk w G' w' -> fO G' w' h' -> V G' w' v u -> tW r.aA lo r.k o.i d (jz r d o) v h' next ->
        ∃ am, J P n keep ops r L0 lo G0 w0 (I.setIfInBounds o.i true) (pre ++ [o]) rest { d.aD o.i v with h := j_ (jz r d o) h' } am w' (a.put op.dst u) /\
          next { d.aD o.i v with h := j_ (jz r d o) h' } := by
  have a1 : r.aC = (pre ++ [o]) ++ rest := by rw [j.aC]; simp
  have ho : o ∈ r.aC := by rw [j.aC]; simp
  have hi := j.aE o (by simp);have hlt : o.i < ops.length := (Up.1 b8).1;have ak : o.i < I.size := by rw [j.aD]; exact hlt
  have split := λx hx y hy => rM (pre := pre) (rest := o :: rest) (by rw [<- j.aC]; exact F.aA) x hx y hy;have bl : o.op.aA = false := by
    have := (F.aC o ho).1;rw [hv] at this;cases h : o.op with
    | r ro => rfl
    | h ho => rw [h] at this; simpa [iV.aE] using this.symm
    | aC f az => rfl
    | aD x az => rfl
  have mem : ∀ x ∈ pre, x ∈ r.aC := λx hx => by rw [j.aC]; simp [hx]
  have inj := λx hx y hy => Cn F.aA x hx y hy;obtain ⟨hS, gam, hs⟩ := j.aF;have ah : ∀ x ∈ jz r d o, d.h[x.2.1]? = some (some x.2.2) := by
    intro x hx;obtain ⟨a8, a7⟩ := Wi.1 hx;obtain ⟨q, q1, q2, q3, q4, q5, q6, q7, q8⟩ := j.aA x a8;refine q6 (λz hz bg hzl => ?_);cases bq : r.aA z.i x.1 with
    | false => rfl
    | true =>have := F.aJ ((split z hz o (by simp)).2.2.1 bg) bq;rw [this] at a7; simp at a7
  generalize hE : (jz r d o).filter (λx => I.getD x.1 false) = E;have U : ∀ x, x ∈ E ↔ x ∈ jz r d o /\ I.getD x.1 false = true := by intro x; rw [<- hE, Wi]
  have O : ∀ x, x ∈ jz r d o ↔ x ∈ d.aC /\ r.aA o.i x.1 = false := by intro x; simp [jz]
  have aa : ((jz r d o).map (·.2.1)).Nodup := Gr _ _ _ j.aI;have ae : (E.map (·.2.1)).Nodup := by rw [<- hE]; exact Gr _ _ _ aa
  have bf : ∀ x ∈ d.aC, I.getD x.1 false = true -> hS[x.2.1]? = d.h[x.2.1]? := by intro x hx M;obtain ⟨q, q1, q2, q3, q4, _⟩ := j.aA x hx;refine hs.aD _ (λo' h1 h2 h3 e => ?_);have := (inj o' h1 q (mem q q1)).2 h2 q2 (by omega);subst this;rw [q3, h3] at M; cases M
  obtain ⟨Gk, gk, kk, bc, b9, back⟩ := JC E gam ae (λx hx => by obtain ⟨a8, a7⟩ := (U x).1 hx;obtain ⟨ao, b6⟩ := (O x).1 a8;obtain ⟨q, q1, q2, q3, q4, q5, q6, q7, q8⟩ := j.aA x ao;exact ⟨by rw [bf x ao a7]; exact ah x a8, q5, q7 (by rw [<- q3]; exact a7)⟩);have bp : kl E hS = kl (jz r d o) d.h := by
    apply Vf;intro m;have lE := (qy E hS m).1;have lX := (qy (jz r d o) d.h m).1;rcases VX m hS.length with hm | hm;rotate_left
    · rw [U8 (by omega), U8 (by rw [lX, <- hs.aC]; exact hm)]
    have bn : m < d.h.length := by rw [<- hs.aC]; exact hm
    by_cases hx : ∃ x ∈ jz r d o, x.2.1 = m
    · rw [(qy (jz r d o) d.h m).2.1 hx bn]
      obtain ⟨x, a8, a7⟩ := hx;by_cases M : I.getD x.1 false = true
      · exact (qy E hS m).2.1 ⟨x, (U x).2 ⟨a8, M⟩, a7⟩ hm
      · rw [(qy E hS m).2.2 (λy hy e => by have b5 := (U y).1 hy;have := LS (·.2.1) _ aa y b5.1 x a8 (by simp only [e, a7]);subst this; exact M b5.2)]
        obtain ⟨q, q1, q2, q3, q4, _⟩ := j.aA x ((O x).1 a8).1;rw [<- a7, q4];exact (hs.aA q (mem q q1) q2 (by rw [<- q3]; simpa using M)).1
    · have W : ∀ x ∈ jz r d o, x.2.1 ≠ m := λx h1 h2 => hx ⟨x, h1, h2⟩
      rw [(qy (jz r d o) d.h m).2.2 W, (qy E hS m).2.2 (λy hy => W y ((U y).1 hy).1)];by_cases hu : ∃ o' ∈ r.aC, o'.op.aA = true /\ I.getD o'.i false = false /\ m = lo + o'.nm
      · obtain ⟨o', h1, h2, h3, rfl⟩ := hu
        rw [(hs.aA o' h1 h2 h3).1];rw [j.aC] at h1;rcases U4.1 h1 with h1 | h1
        · rcases j.aK o' h1 h2 with ⟨y, hy, e⟩ | h
          · exfalso
            obtain ⟨q, q1, q2, q3, q4, _⟩ := j.aA y hy;have : q = o' := (inj q (mem q q1) o' (mem o' h1)).1 (by rw [<- q3, e]);subst this;refine W y ((O y).2 ⟨hy, ?_⟩) q4;cases br : r.aA o.i y.1 with
            | false => rfl
            | true => have := hd _ br; rw [e, h3] at this; cases this
          · exact h.symm
        · exact (j.aH o' h1 h2).symm
      · exact hs.aD m (λo' h1 h2 h3 e => hu ⟨o', h1, h2, h3, e⟩)
  rw [bp] at gk;refine ⟨Gk, gk, kk, fun {G' w' h' v u next} st g' bj hb => ?_⟩;obtain ⟨al, bt, aj⟩ := hb;have af : Gk.N = d.h.length := by rw [<- gk.aA, (qy (jz r d o) d.h 0).1]
  have len' : d.h.length <= h'.length := by rw [g'.aA, <- af]; exact st.aA.N
  have lok : lo + r.k <= d.h.length := by rw [<- hs.aC]; exact hs.aE
  have free : ∀ q, q < r.k -> (∃ x ∈ d.aC, r.aA o.i x.1 = true /\ x.2.1 = lo + q) \/ h'[lo + q]? = some none := by
    intro q hq;have := VQ.1 al q (by simpa using hq);simp only [VF, WH, US, beq_iff_eq] at this;rcases this with h | h
    · exact .inl h
    · right
      unfold mY at h;split at h
      · assumption
      · cases h
  have a2 : ∀ x ∈ r.aC, x.op.aA = true -> r.aA o.i x.i = false -> h'[lo + x.nm]? = some none := by
    intro x hx M bi;rcases free x.nm (nJ F.aA x hx M) with ⟨y, hy, an, e⟩ | h
    · obtain ⟨q, q1, q2, q3, q4, _⟩ := j.aA y hy
      have := (inj q (mem q q1) x hx).2 q2 M (by omega);subst this;rw [q3, bi] at an; cases an
    · exact h
  obtain ⟨am, bu, ad, be, bd, ba⟩ := back st g' (λx hx => by obtain ⟨a8, a7⟩ := (U x).1 hx;obtain ⟨ao, b6⟩ := (O x).1 a8;obtain ⟨q, q1, q2, q3, q4, _⟩ := j.aA x ao;rw [q4]; exact a2 q (mem q q1) q2 (by rw [<- q3]; exact b6));have a3 : ∀ x ∈ r.aC, x.op.aA = true -> (∀ y ∈ d.aC, y.1 ≠ x.i) -> ∀ y ∈ jz r d o, y.2.1 ≠ lo + x.nm := by intro x hx M a9 y hy e;obtain ⟨a6, _⟩ := (O y).1 hy;obtain ⟨q, q1, q2, q3, q4, _⟩ := j.aA y a6;have := (inj q (mem q q1) x hx).2 q2 M (by omega);subst this;exact a9 y a6 q3
  have Z : ∀ x ∈ jz r d o, (j_ (jz r d o) h')[x.2.1]? = some (some x.2.2) := λx hx => Hz _ h' aa x hx (by obtain ⟨q, q1, q2, q3, q4, _⟩ := j.aA x ((O x).1 hx).1;have := nJ F.aA q (mem q q1) q2;omega);have a4 : ib G w am w' := ad.aA;have au : V am w' v u := bj.aA be;obtain ⟨hA, hB, bk, bs⟩ := j.AB F b8 a4 (R' := (o.i, v) :: d.R) (λq hq _ => pL hq) (by rw [rK]; exact au);have ax : ∀ q, (I.setIfInBounds o.i true).getD q false = false -> I.getD q false = false /\ q ≠ o.i := by intro q hq;rw [kX ak] at hq;simp only [V3, VD] at hq;exact ⟨hq.2, hq.1⟩
  refine ⟨am, { aC := a1, aD := by simp [j.aD], aJ := j.aS hlt hd, aE := fun x hx => ?_, L := j.L, A := hA, B := hB, aM := fun x hx M => ?_, aF := ⟨_, bu, ?_⟩, aI := j.aI, aA := fun x hx => ?_,
                 aK := λx hx M => ?_, aH := λx hx M => ?_, aL := bk, aN := bs, aG := j.aG.aI ad, lo := j.lo }, aj⟩
  · rw [kX ak, j.aE x (by simp [hx])]
    have := (rM (pre := pre ++ [o]) (rest := rest) (by rw [<- a1]; exact F.aA) o (by simp) x hx).1;simp [this]
  · obtain ⟨ai, ar⟩ := ax _ M
    have W : x ∈ pre := by
      rcases U4.1 hx with h | h
      · exact h
      · have : x = o := by simpa using h
        subst this; exact absurd rfl ar
    have bo : lk x.i ((o.i, v) :: d.R) = lk x.i d.R := pL ar;have bm : r.aA x.i o.i = false := (split x W o (by simp)).2.1;have a5 : r.aA o.i x.i = false := by
      cases h : r.aA o.i x.i with
      | false => rfl
      | true => have := hd _ h; rw [ai] at this; cases this
    obtain ⟨γ, g1, g2, g3, hc⟩ := j.aM x W ai;refine ⟨γ, λq hq => ?_, g2, g3, ?_⟩
    · show γ (.aD q) = lk q ((o.i, v) :: d.R)
      rw [pL (by rintro rfl; rw [bm] at hq; cases hq)]; exact g1 q hq
    · simp only [DS.aD]
      rw [bo];rcases hc with ⟨y, ap, h1, h2, h3, h4⟩ | ⟨h1, h2⟩
      · refine .inl ⟨y, ap, h1, h2, h3, λhl => ?_⟩
        have a9 : ∀ y ∈ d.aC, y.1 ≠ x.i := by intro y hy e;obtain ⟨q, q1, q2, q3, q4, q5, q6, q7, q8⟩ := j.aA y hy;rw [e, h3] at q8; exact q8 rfl
        rw [(oP (jz r d o) h' _).2 (a3 x (mem x W) hl a9)];exact a2 x (mem x W) hl a5
      · refine .inr ⟨h1, ?_⟩
        rcases h2 with ⟨agg, nn, y, e1, e2, e3, e4⟩ | ⟨ro, e1, e2⟩ | ⟨aw, b, e1, e2, e3, e4⟩
        · refine .inl ⟨agg, nn, y, e1, e2, ?_, e4⟩
          have := Ji bt _ e4;simp only at this;rcases this with h | h
          · rw [a5] at h; cases h
          · exact h
        · exact .inr (.inl ⟨ro, e1, e2⟩)
        · refine .inr (.inr ⟨aw, b, e1, e2, e3, ?_⟩)
          rcases j.aK x W e2 with ⟨y, hy, e⟩ | h
          · have ay : y ∈ jz r d o := (O y).2 ⟨hy, by rw [e]; exact a5⟩
            have k1 := ah y ay;have k2 := Z y ay;obtain ⟨q, q1, q2, q3, q4, _⟩ := j.aA y hy;have : q = x := (inj q (mem q q1) x (mem x W)).1 (by rw [<- q3, e]);subst this;rw [q4] at k1 k2;rw [e4] at k1;rw [k2, <- k1]
          · rw [h] at e4; cases e4
  · have ag := (oP E h' 0).1
    have aq := (oP (jz r d o) h' 0).1;refine ⟨by simp only [DS.aD]; rw [ag, aq], by rw [ag]; omega, λm hm => ?_, λx hx M bh => ?_⟩
    · simp only [DS.aD]
      by_cases ac : ∃ x ∈ jz r d o, x.2.1 = m
      · obtain ⟨x, hx, e⟩ := ac
        subst e;by_cases M : I.getD x.1 false = true
        · rw [Z x hx]
          refine Hz _ h' ae x ((U x).2 ⟨hx, M⟩) ?_;obtain ⟨q, q1, q2, q3, q4, _⟩ := j.aA x ((O x).1 hx).1;have := nJ F.aA q (mem q q1) q2;omega
        · obtain ⟨q, q1, q2, q3, q4, _⟩ := j.aA x ((O x).1 hx).1
          exfalso;refine hm q (mem q q1) q2 ?_ q4;rw [kX ak, <- q3];have : x.1 ≠ o.i := by rw [q3]; exact λe => (split q q1 o (by simp)).1 e.symm
          simp [this]; simpa using M
      · have W : ∀ x ∈ jz r d o, x.2.1 ≠ m := λx h1 h2 => ac ⟨x, h1, h2⟩
        rw [(oP (jz r d o) h' m).2 W, (oP E h' m).2 (λx hx => W x ((U x).1 hx).1)]
    · obtain ⟨ab, ar⟩ := ax _ bh
      have a5 : r.aA o.i x.i = false := by
        cases h : r.aA o.i x.i with
        | false => rfl
        | true => have := hd _ h; rw [ab] at this; cases this
      obtain ⟨f1, f2, f3⟩ := hs.aA x hx M ab;have hN : lo + x.nm < Gk.N := by have := nJ F.aA x hx M; rw [af]; omega
      refine ⟨?_, ?_, ?_⟩
      · rw [(oP E h' _).2 (λy hy e => ?_)]
        · exact a2 x hx M a5
        · obtain ⟨a6, b0⟩ := (U y).1 hy
          obtain ⟨q, q1, q2, q3, q4, _⟩ := j.aA y ((O y).1 a6).1;have := (inj q (mem q q1) x hx).2 q2 M (by omega);subst this;rw [q3, ab] at b0; cases b0
      · rw [bd, st.aF _ hN, bc]; exact f2
      · rw [ba, st.aJ _ hN, b9]; exact f3
  · obtain ⟨q, q1, q2, q3, q4, q5, q6, q7, q8⟩ := j.aA x hx
    have b7 : q.i ≠ o.i := λe => (split q q1 o (by simp)).1 e.symm;refine ⟨q, by simp [q1], q2, q3, q4, q5, λhq => ?_, λhl => ?_, ?_⟩
    · have := hq o (by simp) hv (by rw [kX ak]; simp)
      exact Z x ((O x).2 ⟨hx, this⟩)
    · rw [kX ak] at hl
      simp only [b7, V9, Bool.false_or] at hl;obtain ⟨b, hb⟩ := q7 hl;exact ⟨b, a4.aA _ _ (j.aQ F q1 q2 q4) hb⟩
    · show lk x.1 ((o.i, v) :: d.R) ≠ .aI []
      rw [pL (by rw [q3]; exact b7)]; exact q8
  · have W : x ∈ pre := by
      rcases U4.1 hx with h | h
      · exact h
      · have : x = o := by simpa using h
        subst this; rw [bl] at M; cases M
    by_cases hy : ∃ y ∈ d.aC, y.1 = x.i
    · exact .inl hy
    · right
      have a9 : ∀ y ∈ d.aC, y.1 ≠ x.i := λy h1 h2 => hy ⟨y, h1, h2⟩;simp only [DS.aD];rw [(oP (jz r d o) h' _).2 (a3 x (mem x W) M a9)];rcases free x.nm (nJ F.aA x (mem x W) M) with ⟨y, a6, an, e⟩ | h
      · obtain ⟨q, q1, q2, q3, q4, _⟩ := j.aA y a6
        have := (inj q (mem q q1) x (mem x W)).2 q2 M (by omega);subst this;exact absurd q3 (a9 y a6)
      · exact h
  · have ac : x ∈ r.aC := by rw [a1]; simp [hx]
    have a9 : ∀ y ∈ d.aC, y.1 ≠ x.i := by intro y hy e;obtain ⟨q, q1, q2, q3, q4, _⟩ := j.aA y hy;exact (split q q1 x (by simp [hx])).1 (by rw [<- q3, e])
    simp only [DS.aD];rw [(oP (jz r d o) h' _).2 (a3 x ac M a9)];rcases free x.nm (nJ F.aA x ac M) with ⟨y, a6, an, e⟩ | h
    · obtain ⟨q, q1, q2, q3, q4, _⟩ := j.aA y a6
      have := (inj q (mem q q1) x ac).2 q2 M (by omega);subst this;exact absurd q3 (a9 y a6)
    · exact h
end
theorem LX (R:fV)(s:Nat):∀(l:List (Nat×Nat)) (L:fV),(∃i,(s,i)∈l/\lk s (nX R l L)=lk i R)\/((∀i,(s,i)∉l)/\lk s (nX R l L)=lk s L):=by
 intro l;induction l with
 | nil=>intro L;exact .inr ⟨λi h=>by simp at h,rfl⟩
 | cons x r ih=>
  intro L;obtain⟨t,i⟩:=x;simp only[nX];rcases ih (kW t (lk i R) L) with⟨q,h1,h2⟩ | ⟨h1,h2⟩;·exact .inl ⟨q,by simp[h1],h2⟩
  ·rw[h2,fj];by_cases e:s=t;·subst e;left;exact⟨i,by simp,by simp⟩
   ·right;refine⟨λq hq=>?_,by simp[e]⟩;rcases Vg.1 hq with hq | hq;·cases hq;exact e rfl
    ·exact h1 q hq
theorem Fv {keep:Nat->Bool}:∀(ops:List Oper)(k:Nat)(t i:Nat),(t,i)∈nY keep ops k↔k<=i/\keep t=true/\∃o,ops[i-k]?=some o/\o.dst=some t:=by
 intro ops;induction ops with
 | nil=>intro k t i;simp[nY]
 | cons x r ih=>
  intro k t i;have step:(t,i)∈nY keep r (k+1)↔k+1<=i/\keep t=true/\∃o,(x :: r)[i-k]?=some o/\o.dst=some t:=by
   rw[ih];constructor;·rintro⟨h1,h2,o,h3,h4⟩;exact⟨h1,h2,o,by rw[show i-k=(i-(k+1))+1 by omega];simpa using h3,h4⟩
   ·rintro⟨h1,h2,o,h3,h4⟩;rw[show i-k=(i-(k+1))+1 by omega]at h3;exact⟨h1,h2,o,by simpa using h3,h4⟩
  have u:(t,i)∈nY keep r (k+1)->k<=i/\keep t=true/\∃o,(x :: r)[i-k]?=some o/\o.dst=some t:=λh=>by obtain⟨h1,h2⟩:=step.1 h;exact⟨by omega,h2⟩
  have E:(k<=i/\keep t=true/\∃o,(x :: r)[i-k]?=some o/\o.dst=some t)->(i=k/\keep t=true/\x.dst=some t)\/(t,i)∈nY keep r (k+1):=by
   rintro⟨h1,h2,o,h3,h4⟩;by_cases e:i=k;·subst e;simp at h3;subst h3;exact .inl ⟨rfl,h2,h4⟩
   ·exact .inr (step.2 ⟨by omega,h2,o,h3,h4⟩)
  simp only[nY];cases hd:x.dst with
  | none=>
   simp only;exact⟨u,λh=>by
    rcases E h with⟨_,_,h⟩ | h;·rw[hd]at h;cases h
    ·exact h⟩
  | some s=>
   simp only;split
   ·rename_i hk;constructor
    ·intro h;rcases Vg.1 h with h | h;·cases h;exact⟨Uy _,hk,x,by simp,hd⟩
     ·exact u h
    ·intro h;rcases E h with⟨e1,_,e2⟩ | h;·rw[hd]at e2;cases e2;subst e1;simp
     ·simp[h]
   ·rename_i hk;exact⟨u,λh=>by
     rcases E h with⟨_,e,e2⟩ | h;·rw[hd]at e2;cases e2;exact absurd e hk
     ·exact h⟩
section
variable {P:Program} {n:Nat} {keep:Nat->Bool} {ops:List Oper} {r:DR} {L0:fV} {lo:Nat} {G0:Gh} {w0:World}
theorem Kd {tr:Operand->fB}{o:Oper}{f:FuncId}{args:List fB}(h:lJ P tr o=some (.aC f args)):
  ∃az e,o.op=.call {callee:=.value (.func f),args:=az,argTypes:=e}/\args=az.toList.map tr:=by
 unfold lJ at h;split at h;·cases h
 ·split at h;·cases h
  ·split at h;·rename_i u;cases h;exact⟨_,_,u,rfl⟩
   ·cases h
   ·cases h
theorem Ke {tr:Operand->fB}{o:Oper}{x:fB}{args:List fB}(h:lJ P tr o=some (.aD x args)):
  ∃y az e,o.op=.call {callee:=.value y,args:=az,argTypes:=e}/\x=tr y/\args=az.toList.map tr:=by
 unfold lJ at h;split at h;·cases h
 ·split at h;·cases h
  ·split at h;·cases h
   ·rename_i u;cases h;exact⟨_,_,_,u,rfl,rfl⟩
   ·cases h
theorem J.aW (F:DF P n keep ops r){listed:Array Bool}{pre rest:List DO}{d:DS}{G:Gh}{w:World}{a:Act}{o:DO}(j:J P n keep ops r L0 lo G0 w0 listed pre (o :: rest) d G w a)(hv:o.hv=true)
  (hd:∀q,r.aA o.i q=true->listed.getD q false=true) (hgo:sC d o) {K:DS->Prop} (hvc:lu P r.aA lo r.k o d K) {Q:Exit->Act->World->Prop} {next:Act->World->Prop}
  (hK:∀d' G' w' a',J P n keep ops r L0 lo G0 w0 (listed.setIfInBounds o.i true) (pre++[o]) rest d' G' w' a'->K d'->next a' w'):wpOp P ops.toArray Q o.i next a w:=by
 have ho:o∈r.aC:=by rw[j.aC];simp
 have hi:=j.aE o (by simp);obtain⟨hhv,op,hop,hcop,hcg⟩:=F.aC o ho;obtain⟨Gk,gk,kk,fin⟩:=j.aY F hv hd hop;have hstG:mB G w (mK keep ops r.aD o.i) d.aA a:=j.aU F hi hd (λ_ _=>rfl) (λt=>by simp only[DS.aA,j.L]) (λ_=>rfl);have hst:mB Gk w (mK keep ops r.aD o.i) d.aA a:=λx=>(hstG x).aA kk;have hopA:ops.toArray[o.i]?=some op:=by simpa using hop
 have hw:Region.wanted op (yielded ops.toArray a.tmps)=true:=by
  rcases hgo with hg | ⟨x,want,hg,hx⟩
  ·rw[hg]at hcg;unfold rq at hcg;split at hcg;·rename_i hgo;simp[Region.wanted,hgo]
   ·split at hcg<;>cases hcg
  ·rw[hg]at hcg;unfold rq at hcg;split at hcg;·cases hcg
   ·rename_i jj want' hgo;split at hcg;·rename_i t ht;cases hcg;rw[(BT (hstG (.tmp t)) hgo (by simpa using ht)).1 _ hx];simp
    ·cases hcg
 unfold wpOp;simp only[hopA];rw[hw];simp only[Vm];left;simp only[lu,hv]at hvc;split at hvc;·contradiction
 ·contradiction
 ·contradiction
 · -- a store,an append
  rename_i ho' _ hop';split at hvc
  ·rename_i v h' hh;rw[hop']at hcop;obtain⟨nx,u,w',G',hu,hnx,hg,hV,hstp⟩:=FK (P:=P) gk hst (Eo hcop) hh;obtain⟨G'',jj,hk⟩:=fin hstp hg hV hvc;unfold Oper.wp;rw[hu];rcases hnx with rfl | ⟨rfl,rfl⟩;·exact hK _ _ _ _ jj hk
   ·exact hK _ _ _ _ jj hk
  ·exact hvc.elim
 · -- a call
  rename_i f args _ hop';obtain⟨hf,hvc⟩:=hvc;rw[hop']at hcop;obtain⟨az,tys,hcall,rfl⟩:=Kd hcop;have hrun:(execOp a.eval op).run P w=.ok (.enter f (az.map a.eval)) w:=by obtain⟨dst,op',type,pos,after,guard⟩:=op;have hcall':op'=_:=hcall;subst hcall';simp only[execOp,resolve,Act.eval,Deferred.ofValue,Sem.run_bind,Sem.run_pure,Result.andThen_ok,invoke];rw[tS hf];simp
  unfold Oper.wp;rw[hrun,Oper.upon_enter];refine (hvc Gk w (az.map a.eval) gk ⟨by simp,λq c v hc hv'=>?_⟩).mono ?_;·exact VL.aA hst az.toList q c v (by simpa using hc) (by simpa using hv')
  ·rintro e w' ⟨v,rr,h',G',rfl,hb,hg,hV,hstp⟩;obtain⟨G'',jj,hk⟩:=fin hstp hg hV hb;exact hK _ _ _ _ jj hk
 · -- a call of a value
  rename_i x args _ hop';split at hvc
  ·rename_i f fs cs hx;obtain⟨hf,hvc⟩:=hvc;rw[hop']at hcop;obtain⟨y,az,tys,hcall,rfl,rfl⟩:=Ke hcop;have hxv:=hst y;rw[hx]at hxv;generalize hvq:a.eval y=fv at hxv;cases hxv with
   | aK _ _ us _ vs hlu hUs hl hVs=>
   have hrun:(execOp a.eval op).run P w=.ok (.enter f (us++az.map a.eval++vs)) w:=by obtain⟨dst,op',type,pos,after,guard⟩:=op;have hcall':op'=_:=hcall;subst hcall';simp only[execOp,resolve,hvq,Deferred.ofValue,Sem.run_bind,Sem.run_pure,Result.andThen_ok,invoke];rw[tS hf]
   unfold Oper.wp;rw[hrun,Oper.upon_enter];refine (hvc Gk w (us++az.map a.eval++vs) gk (VL.aE (VL.aE ⟨hlu,hUs⟩ ⟨by simp,λq c v hc hv'=>VL.aA hst az.toList q c v (by simpa using hc) (by simpa using hv')⟩) ⟨hl,hVs⟩)).mono ?_;·rintro e w' ⟨v,rr,h',G',rfl,hb,hg,hV,hstp⟩;obtain⟨G'',jj,hk⟩:=fin hstp hg hV hb;exact hK _ _ _ _ jj hk
  ·exact hvc.elim
 ·exact hvc.elim
theorem J.aV (F:DF P n keep ops r){u:Array Bool}{pre rest:List DO}{d:DS}{G:Gh}{w:World}{a:Act}(j:J P n keep ops r L0 lo G0 w0 u pre rest d G w a)
  (hr:Region.ready .any ops.toArray u=[]):∀i,i<ops.length->u.getD i false=true:=by
 intro i;induction i using Nat.strongRecOn with
 | _ i ih=>
  intro hi;cases hl:u.getD i false with
  | true=>rfl
  | false=>
   have hs:i<u.size:=by rw[j.aD];exact hi
   have:i∈Region.ready .any ops.toArray u:=by rw[mem_ready];refine⟨by simp[hs]at hl ⊢;exact hl,ops[i],by simp[hi],λe he hb=>?_⟩;have:=F.aE i ops[i] (by simp[hi]) e (by simpa using he) hb;exact ih e.on this (by omega)
   rw[hr]at this;cases this
theorem Ls (F:DF P n keep ops r){K:DS->Prop}{Q:Exit->Act->World->Prop}
  (hQ:∀d G w a,J P n keep ops r L0 lo G0 w0 (Array.replicate ops.length true) r.aC [] d G w a->K d->Q .normal a w):
  ∀(fuel:Nat){listed:Array Bool}{pre rest:List DO}{d:DS}{G:Gh}{w:World}{a:Act},J P n keep ops r L0 lo G0 w0 listed pre rest d G w a->gK P r.aA lo r.k rest d K->
   ((List.range ops.length).filter λi=>!listed.getD i false).length<=fuel->wpAny P .any ops.toArray Q fuel listed a w:=by
 have last:∀{listed:Array Bool}{pre rest:List DO}{d:DS}{G:Gh}{w:World}{a:Act},J P n keep ops r L0 lo G0 w0 listed pre rest d G w a->
   ((rest=[]/\K d)\/∃o q,rest=o :: q/\o.hv=true/\sC d o/\lu P r.aA lo r.k o d λd''=>gK P r.aA lo r.k q d'' K)->(∀i,i<ops.length->listed.getD i false=true)->Q .normal a w:=by
  intro listed pre rest d G w a j hc hall;have hli:listed=Array.replicate ops.length true:=by
   apply Array.ext;·simp[j.aD]
   ·intro i h1 h2;have:=hall i (by rw[<-j.aD];exact h1);simp[h1]at this;simp[this]
  rcases hc with⟨rfl,hk⟩ | ⟨o,q,rfl,hv,_⟩
  ·have hp:pre=r.aC:=by rw[j.aC];simp
   subst hp;subst hli;exact hQ d G w a j hk
  ·have h1:=j.aE o (by simp);obtain⟨_,op,hop,_⟩:=F.aC o (by rw[j.aC];simp);rw[hall o.i (Up.1 hop).1]at h1;cases h1
 intro fuel;induction fuel with
 | zero=>
  intro listed pre rest d G w a j hvc hle;obtain⟨pre',rest',d',j',hc⟩:=j.aR F rest pre d hvc;have hall:∀i,i<ops.length->listed.getD i false=true:=by
   intro i hi;have hnil:=Uz (Nat.le_zero.1 hle);cases hl:listed.getD i false with
   | true=>rfl
   | false=>
    have:i∈(List.range ops.length).filter λi=>!listed.getD i false:=by simp[Wi,hi];simpa using hl
    rw[hnil]at this;cases this
  refine⟨?_,last j' hc hall⟩;apply List.eq_nil_iff_forall_not_mem.2;intro i hi;obtain⟨h1,h2,_⟩:=j'.aT F hi;rw[hall i h2]at h1;cases h1
 | succ fuel ih=>
  intro listed pre rest d G w a j hvc hle;obtain⟨pre',rest',d',j',hc⟩:=j.aR F rest pre d hvc;refine⟨λhr=>last j' hc (j'.aV F hr),λi hi=>?_⟩;obtain⟨h1,h2,⟨op,hop⟩,h4⟩:=j'.aT F hi;have hls:i<listed.size:=by rw[j.aD];exact h2
  have hfu:((List.range ops.length).filter λq=>!(listed.setIfInBounds i true).getD q false).length<=fuel:=by
   have e:((List.range ops.length).filter λq=>!(listed.setIfInBounds i true).getD q false)=((List.range ops.length).filter λq=>!listed.getD q false).filter λq=>!decide (q=i):=by rw[List.filter_filter];apply List.filter_congr;intro q _;rw[kX hls];cases decide (q=i)<;>cases listed.getD q false<;>rfl
   rw[e];have hm:i∈(List.range ops.length).filter λq=>!listed.getD q false:=by simp[Wi,h2];simpa using h1
   have:(((List.range ops.length).filter λq=>!listed.getD q false).filter λq=>!decide (q=i)).length<((List.range ops.length).filter λq=>!listed.getD q false).length:=by refine List.length_filter_lt_length_iff_exists.2 ⟨i,hm,by simp⟩
   omega
  obtain⟨o,ho,rfl⟩:=F.aG i h2;rw[j'.aC]at ho;rcases U4.1 ho with ho | ho
  ·refine j'.aX F ho h1 h4 (λG' w' a' jj=>?_);rcases hc with⟨e1,hk⟩ | ⟨o',q,e1,hv,hgo,hvd⟩;·exact ih jj (by rw[e1];exact hk) hfu
   ·refine ih jj ?_ hfu;rw[e1];simp only[gK];rcases hgo with hg | ⟨x,want,hg,hx⟩;·rw[hg];exact hvd
    ·rw[hg];simp only[hx];exact⟨λ_=>hvd,λe=>by cases want<;>simp at e⟩
  ·rcases hc with⟨e1,hk⟩ | ⟨o',q,e1,hv,hgo,hvd⟩;·rw[e1]at ho;cases ho
   ·subst e1;rcases Vg.1 ho with rfl | ho;·exact j'.aW F hv h4 hgo hvd (λd' G' w' a' jj hk=>ih jj hk hfu)
    ·exfalso;have hsp:=rM (pre:=pre'++[o']) (rest:=q) (by rw[UW,List.singleton_append,<-j'.aC];exact F.aA) o' (by simp) o ho;have:=h4 o'.i (hsp.2.2.1 hv);rw[j'.aE o' (by simp)]at this;cases this
end
inductive AX where
 | aA
 | aD (id:Nat)
 | aC
inductive AC where
 | aK
 | aI (ops:List AO)
 | aJ (r:DR)
 | aA (a b:AC)
 | aH (c:fB) (a b:AC)
 | aG (id:Nat) (b:AC)
 | aE (b:AC)
 | aM (id:Nat)
 | aN
 | aL
section
variable {n:Nat} {keep:Nat->Bool} {G0:Gh} {w0:World} {P:Program}
def Wk (st st':St):Prop:=∀(n:Nat)(keep:Nat->Bool)(G0:Gh)(w0:World)(G:Gh)(w:World)(a:Act),SR n keep G0 w0 G w st a->∃G',SR n keep G0 w0 G' w st' a
theorem Wk.aA (st:St):Wk st st:=λ_ _ _ _ G _ _ h=>⟨G,h⟩
def vc (P:Program):AC->St->(AX->St->Prop)->Prop
 | .aK,st,K=>K .aA st
 | .aI ops,st,K=>gU P ops st λst'=>K .aA {st' with R:=[]}
 | .aJ r,st,K=>CT P r st λst'=>K .aA st'
 | .aA a b,st,K=>vc P a st λx st'=>match x with
  | .aA=>vc P b st' K
  | .aD id=>K (.aD id) st'
  | .aC=>K .aC st'
 | .aH c a b,st,K=>match st.aA c with
  | .aE t=>(t=true->vc P a st K)/\(t=false->vc P b st K)
  | _=>False
 | .aG id b,st,K=>vc P b st λx st'=>match x with
  | .aA=>K .aA st'
  | .aD id'=>if id'=id then K .aA st' else K (.aD id') st'
  | .aC=>K .aC st'
 | .aE b,st,K=>∃I:Nat->St->Prop,(∃m s0,Wk st s0/\I m s0)/\∀m s,I m s->vc P b s λx s'=>match x with
  | .aA=>∃m' s0,m'<m/\Wk s' s0/\I m' s0
  | .aD id=>K (.aD id) s'
  | .aC=>K .aC s'
 | .aM id,st,K=>K (.aD id) st
 | .aN,st,K=>K .aC st
 | .aL,_,_=>False
def cC (P:Program)(n:Nat)(keep:Nat->Bool):Code->Option AC
 | .skip=>some .aK
 | .region _ ops draw=>if draw then (if P.follows .mixedOrders then (uK P n keep ops.toList).map .aJ else none) else (qi P n keep ops ops.toList).map .aI
 | .seq a b=>match cC P n keep a,cC P n keep b with
  | some x,some y=>some (.aA x y)
  | _,_=>none
 | .cond c a b=>match cC P n keep a,cC P n keep b with
  | some x,some y=>some (.aH (cd keep c) x y)
  | _,_=>none
 | .block id b=>(cC P n keep b).map (.aG id)
 | .loop b=>(cC P n keep b).map .aE
 | .exit id=>some (.aM id)
 | .ret=>some .aN
 | .scope b=>cC P n keep b
 | .label _=>some .aK
 | _=>some .aL
def yF (n:Nat)(keep:Nat->Bool)(G0:Gh)(w0:World)(K:AX->St->Prop):Exit->Act->World->Prop
 | .normal,a,w=>∃G st,SR n keep G0 w0 G w st a/\K .aA st
 | .exit id,a,w=>∃G st,SR n keep G0 w0 G w st a/\K (.aD id) st
 | .ret,a,w=>∃G st,SR n keep G0 w0 G w st a/\K .aC st
 | _,_,_=>False
theorem SR.aI {G w st a}(sr:SR n keep G0 w0 G w st a):SR n keep G0 w0 G w {st with R:=[]} a:=
 ⟨sr.aA,sr.aE,sr.aC,sr.L,λ_ _=>.aI _,sr.aD⟩
variable {F:Fence} {m:Nat}
structure qS (F:Fence):Prop where
 fn:∀f,F.fn f
 aC:F.depth=none
 aA:∀{n:Nat}{P:Program}{f:FuncId}{args:Array Value}{w:World}{R:Ending->World->Prop},Calls P f args w R->CallsIn F n P f args w R
 aD:∀{n:Nat}{P:Program}{row:String}{args:Array Value}{w:World}{R:Value->World->Prop},Rows P row args w R->RowsIn F n P row args w R
theorem Hr {n:Nat}{P:Program}{row:String}{args:Array Value}{w:World}{R:Value->World->Prop}(h:Rows P row args w R):RowsIn Fence.wide n P row args w R:=
 λc cs _=>let⟨v,w',r,s⟩:=h c cs;⟨v,w',r,stepsIn_wide.2 s⟩
theorem tL:qS Fence.wide:=⟨λ_=>UF,rfl,λh=>callsIn_wide.2 h,λh=>Hr h⟩
theorem GH (l:Nat):qS (Fence.wide.inRound l):=⟨λ_=>UF,rfl,fun {n}{_}{_}{_}{_}{_} h=>(callsIn_wide (n:=n)).2 h,fun {n}{_}{_}{_}{_}{_} h=>Hr (n:=n) h⟩
def wd (a:Act)(ds:List Deferred):Act:={a with defers:=ds}
theorem pT {a:Act} (h:a.defers=[]):wd a []=a:=by cases a;cases h;rfl
theorem rZ (a:Act)(ds:List Deferred):(wd a ds).eval=a.eval:=by funext x;cases x<;>rfl
theorem nM (a:Act)(ds:List Deferred)(d:Option Tmp)(v:Value):(wd a ds).put d v=wd (a.put d v) ds:=by cases d<;>rfl
theorem HX (a:Act)(ds:List Deferred):(wd a ds).tmps=a.tmps:=rfl
theorem oW {ro:Option Nat}{ρ:Operand->Value}{o:Oper}{w w':World}{nx:Next}(hu:(execOp ρ o).run P w=.ok nx w')(e:∀d,nx≠.defer d):(o.semAt ro ρ).run P w=.ok nx w':=by
 by_cases h:∃c,o.op=.defer c
 ·obtain⟨c,hc⟩:=h;exfalso;unfold execOp at hu;rw[hc]at hu;simp only[Sem.run_bind,Sem.run_pure]at hu;cases hr:(resolve ρ c o.type).run P w with
  | ok d w1=>rw[hr]at hu;simp only[Result.andThen_ok]at hu;cases hu;exact e d rfl
  | halt x w1=>rw[hr]at hu;cases hu
 ·rw[Oper.semAt_eq ro ρ o (λc hc=>h ⟨c,hc⟩)];exact hu
theorem Tz {G w st a}(hF:qS F)(ds:List Deferred)(sr:SR n keep G0 w0 G w st a){o:Oper}{ao:iV}{d:jP}(hop:lJ P (cd keep) o=some ao)(hd:rp n keep o.dst=some d){gd:Option (fB×Bool)}
  {k:St->Prop} (hk:mM P ⟨d,ao,gd⟩ st k) {next:Act->World->Prop} {Q:Exit->Act->World->Prop}
  (hn:∀G' w' st' a',SR n keep G0 w0 G' w' st' a'->k st'->next (wd a' ds) w'):o.wpIn F m P (wd a ds) w next Q:=by
 refine⟨λf _=>hF.fn f,?_⟩;rw[rZ];unfold lJ at hop;split at hop
 ·rename_i ro hro;cases hop;simp only[mM]at hk;split at hk
  ·rename_i v hv;obtain⟨u,hu,hV⟩:=Hp (P:=P) sr.aA sr.aF hro hv;rw[oW hu (by simp),Oper.uponIn_value,nM];have e:({st.aC d v with h:=st.h}:St)=st.aC d v:=by cases d<;>rfl
   have:=sr.aG hd sr.aA (gy.aD G w) hV;rw[e]at this;exact hn G w _ _ this hk
  ·exact hk.elim
 ·split at hop
  ·rename_i ho hho;cases hop;simp only[mM]at hk;split at hk
   ·rename_i v h' hv;obtain⟨nx,u,w',G',hu,hnx,hg,hV,hst⟩:=FK (P:=P) sr.aA sr.aF hho hv;rcases hnx with rfl | ⟨rfl,rfl⟩;·rw[oW hu (by simp),Oper.uponIn_value,nM];exact hn G' w' _ _ (sr.aG hd hg hst hV) hk
    ·rw[oW hu (by simp),Oper.uponIn_skip,nM];exact hn G' w' _ _ (sr.aG hd hg hst hV) hk
   ·exact hk.elim
  ·split at hop
   ·rename_i f args tys hcall;cases hop;simp only[mM]at hk;obtain⟨hf,hk⟩:=hk;have hrun:(execOp a.eval o).run P w=.ok (.enter f (args.map a.eval)) w:=by obtain⟨dst,op,type,pos,after,guard⟩:=o;have hcall':op=_:=hcall;subst hcall';simp only[execOp,resolve,Act.eval,Deferred.ofValue,Sem.run_bind,Sem.run_pure,Result.andThen_ok,invoke];rw[tS hf];simp
    rw[oW hrun (by simp),Oper.uponIn_enter];refine⟨λh=>(by rw[hF.aC]at h;cases h),hF.aA ((hk G w (args.map a.eval) sr.aA ⟨by simp,λj c v hc hv=>?_⟩).mono ?_)⟩;·exact VL.aA sr.aF args.toList j c v (by simpa using hc) (by simpa using hv)
    ·rintro e w' ⟨v,r,h',G',rfl,hK,hg,hV,hst⟩;show next ((wd a ds).put o.dst v) w';rw[nM];exact hn G' w' _ _ (sr.aG hd hg hst hV) hK
   ·rename_i x args tys hne hcall;cases hop;simp only[mM]at hk;split at hk
    ·rename_i f fs cs hx;obtain⟨hf,hk⟩:=hk;have hxv:=sr.aF x;rw[hx]at hxv;generalize hv:a.eval x=fv at hxv;cases hxv with
     | aK _ _ us _ vs hlu hUs hl hVs=>
     have hrun:(execOp a.eval o).run P w=.ok (.enter f (us++args.map a.eval++vs)) w:=by obtain⟨dst,op,type,pos,after,guard⟩:=o;have hcall':op=_:=hcall;subst hcall';simp only[execOp,resolve,hv,Deferred.ofValue,Sem.run_bind,Sem.run_pure,Result.andThen_ok,invoke];rw[tS hf]
     rw[oW hrun (by simp),Oper.uponIn_enter];refine⟨λh=>(by rw[hF.aC]at h;cases h),hF.aA ((hk G w (us++args.map a.eval++vs) sr.aA (VL.aE (VL.aE ⟨hlu,hUs⟩ ⟨by simp,λj c v hc hv'=>VL.aA sr.aF args.toList j c v (by simpa using hc) (by simpa using hv')⟩) ⟨hl,hVs⟩)).mono ?_)⟩;·rintro e w' ⟨v,r,h',G',rfl,hK,hg,hV,hst⟩;show next ((wd a ds).put o.dst v) w';rw[nM];exact hn G' w' _ _ (sr.aG hd hg hst hV) hK
    ·exact hk.elim
   ·cases hop
theorem xQ (hF:qS F)(ds:List Deferred){ops:Array Oper}{Q:Exit->Act->World->Prop}{k:St->Prop}{r:List Oper}
  (hn:∀G' w' I a',SR n keep G0 w0 G' w' I a'->k I->wpListIn F m P ops Q r (wd a' ds) w'):
  ∀(l:List Oper)(al:List AO){G w st a},SR n keep G0 w0 G w st a->qi P n keep ops l=some al->gU P al st k->wpListIn F m P ops Q (l++r) (wd a ds) w:=by
 intro l;induction l with
 | nil=>intro al G w st a sr hc hk;simp only[qi,UB]at hc;subst hc;exact hn G w st a sr hk
 | cons o l ih=>
  intro al G w st a sr hc hk;simp only[qi]at hc;split at hc
  ·rename_i x U hx hl;cases hc;simp only[wH]at hx;split at hx
   ·rename_i d op gd hd Z u;cases hx;simp only[gU]at hk;rw[Wo];unfold wpListIn;rw[HX];have M:mM P ⟨d,op,gd⟩ st (λI=>gU P U I k)->o.wpIn F m P (wd a ds) w (wpListIn F m P ops Q (l++r)) Q:=
     λh=>Tz hF ds sr Z hd h λG' w' I a' W a1=>ih U W hl a1
    have skip:gU P U (st.aC d (.aI [])) k->(∀f,o.about P w (wd a ds).eval=some f->F.fn f)/\wpListIn F m P ops Q (l++r) ((wd a ds).put o.dst undef) w:=
     λh=>⟨λf _=>hF.fn f,by rw[nM];exact ih U (sr.aJ hd) hl h⟩
    cases O:o.guard with
    | none=>rw[O]at u;simp only[zi,UB]at u;subst u;rw[Uv (by simp[Region.wanted,O])];exact M hk
    | some jw=>
     obtain⟨j,E⟩:=jw;rw[O]at u;simp only[zi]at u;split at u
     ·rename_i t ht;cases u;obtain⟨g1,g2⟩:=My sr O ht;simp only at hk;split at hk
      ·rename_i b hb;rw[g1 b hb];by_cases e:b=E;·subst e;simp only[BEq.rfl,Vm];exact M (hk.1 rfl)
       ·have:(b == E)=false:=by simpa using e
        simp only[this,UQ,Vd];exact skip (hk.2 (by cases b<;>cases E<;>simp_all))
      ·rename_i cs hb;rw[g2 cs hb];simp only[UQ,Vd];exact skip hk
      ·exact hk.elim
     ·cases u
   ·cases hx
  ·cases hc
section
variable {md:Region.Mode} {ops:Array Oper} {Q Q':Exit->Act->World->Prop}
theorem Jr (hq:∀a w,Q .normal a w->a.defers=[]) (hp:∀c a w,¬Q (.panic c) a w) (ho:∀a w,¬Q .outgrown a w):∀(E:Nat)(u:Array Bool)(a:Act)(w:World),wpAny P md ops Q E u a w->a.defers=[]:=by
 have hl:¬LetsOut Q:=λ⟨a,w,h⟩=>ho a w h;have pd:∀(a:Act)(d:Option Tmp)(v:Value),(a.put d v).defers=a.defers:=λa d v=>by cases d<;>rfl
 intro E;induction E with
 | zero=>intro u a w h;exact hq a w h.2
 | succ E ih=>
  intro u a w h;obtain⟨h1,h2⟩:=h;cases hr:Region.ready md ops u with
  | nil=>exact hq a w (h1 hr)
  | cons i r=>
   have h:=h2 i (by rw[hr];simp);unfold wpOp at h;split at h;·exact ih _ a w h
   ·rename_i o _;split at h
    ·rcases h with h | ⟨_,h⟩
     ·unfold Oper.wp Oper.upon at h;split at h;·have:=ih _ _ _ h;rwa [pd]at this
      ·have:=ih _ _ _ h;rwa [pd]at this
      ·have:=ih _ _ _ h;rw[pd]at this;simp at this
      ·obtain⟨e,w',fr,h,_⟩:=h [];cases e with
       | returned v=>have:=ih _ _ _ h;rwa [pd]at this
       | panicked c=>exact (hp _ _ _ h).elim
       | outgrown=>exact (hl h).elim
      ·obtain⟨v,w',h,_⟩:=h default [];have:=ih _ _ _ h;rwa [pd]at this
      ·exact (hp _ _ _ h).elim
      ·exact h.elim
     ·exact (hl h).elim
    ·have:=ih _ _ _ h;rwa [pd]at this
theorem Js (hF:qS F)(ds:List Deferred) (hq:∀a w,Q .normal a w->a.defers=[]) (hp:∀c a w,¬Q (.panic c) a w) (ho:∀a w,¬Q .outgrown a w)
  (hn:∀a w,Q .normal a w->Q' .normal (wd a ds) w):∀(u:Nat)(e:Array Bool)(a:Act)(w:World),wpAny P md ops Q u e a w->wpAnyIn F m P md ops Q' u e (wd a ds) w:=by
 have hl:¬LetsOut Q:=λ⟨a,w,h⟩=>ho a w h
 have hd:¬(F.depth.isSome=true):=λh=>(by rw[hF.aC]at h;cases h)
 intro u
 induction u with
 | zero=>intro e a w h;exact⟨h.1,hn a w h.2⟩
 | succ u ih=>
  intro e a w h
  refine⟨λhr=>hn a w (h.1 hr),λi hi=>?_⟩
  have h:=h.2 i hi
  unfold wpOp at h
  unfold wpOpIn
  split at h
  ·rename_i he
   simp only[he]
   exact ih _ a w h
  ·rename_i o he
   simp only[he]
   rw[HX]
   split at h
   ·rename_i hw
    rw[Uv hw]
    rcases h with h | ⟨_,h⟩
    ·refine⟨λf _=>hF.fn f,?_⟩
     rw[rZ]
     unfold Oper.wp Oper.upon at h
     split at h<;>rename_i E<;>try exact h.elim
     ·rw[oW E (by simp),Oper.uponIn_value,nM];exact ih _ _ _ h
     ·rw[oW E (by simp),Oper.uponIn_skip,nM];exact ih _ _ _ h
     ·have:=Jr hq hp ho _ _ _ _ h
      exfalso
      revert this
      cases o.dst<;>simp[Act.put]
     ·rw[oW E (by simp),Oper.uponIn_enter]
      refine⟨λh=>(hd h).elim,hF.aA (Calls.mono h ?_)⟩
      rintro (v | c | _) w' hk
      ·simp only at hk ⊢;rw[nM];exact ih _ _ _ hk
      ·exact (hp _ _ _ hk).elim
      ·exact (hl hk).elim
     ·rw[oW E (by simp),Oper.uponIn_row]
      refine⟨λh=>(hd h).elim,hF.aD (Rows.mono h ?_)⟩
      intro v w' hk
      rw[nM];exact ih _ _ _ hk
     ·exact (hp _ _ _ h).elim
    ·exact (hl h).elim
   ·rename_i hw
    rw[Uw hw]
    exact⟨λf _=>hF.fn f,by rw[nM];exact ih _ _ _ h⟩
end
theorem Lu {r : DR} {e : Array Oper} (hc : uK P n keep e.toList = some r) {G : Gh} {w : World} {st : St} {a : Act} (sr : SR n keep G0 w0 G w st a) {K : St -> Prop}
    (hk : CT P r st K) {Q : Exit -> Act -> World -> Prop} (hQ : ∀ G' w' O a', SR n keep G0 w0 G' w' O a' -> K O -> Q .normal a' w') : wpAny P .any e Q e.size (Array.replicate e.size false) a w.drew := by
  have F := Kc hc;have hs : e.toList.length = e.size := by simp
  have key : wpAny P .any e.toList.toArray Q e.toList.length (Array.replicate e.toList.length false) a w.drew := by
    have gd : fO G w.drew st.h := sr.aA.aT rfl;have kd : ib G w G w.drew := ib.aH rfl;obtain ⟨gr, U⟩ := gd.bL r.k;have u : ∀ i, (Array.replicate e.toList.length false).getD i false = false := by intro i; by_cases h : i < e.toList.length <;> simp at h <;> simp [h]
    refine Ls F (L0 := st.L) (lo := st.h.length) (G0 := G0) (w0 := w0) (K := λd => K ⟨nX d.R r.aE st.L, [], d.h⟩) ?_ e.toList.length (pre := []) (rest := r.aC) (d := ⟨st.L, [], st.h ++ List.replicate r.k none, [], []⟩) (G := G.aM r.k) ?_ hk ?_
    · intro d G' w' a' j hK
      obtain ⟨hS, g, Z⟩ := j.aF;have I : ∀ i, i < e.toList.length -> (Array.replicate e.toList.length true).getD i false = true := by intro i hi; simp at hi; simp [hi]
      have a2 : hS = d.h := by apply Vf;intro m;refine Z.aD m (λo ho _ hl => ?_);obtain ⟨_, op, M, _⟩ := F.aC o ho;rw [I _ (Up.1 M).1] at hl; cases hl
      subst a2;refine hQ G' w' _ a' ⟨g, j.aL, j.aN, λs W => ?_, λs _ => .aI _, j.aG⟩ hK;have hf := F.aH;rcases LX d.R s r.aE st.L with ⟨i, h1, h2⟩ | ⟨h1, h2⟩
      · simp only; rw [h2]
        rw [hf] at h1;obtain ⟨_, _, o, ho, E⟩ := (Fv _ 0 s i).1 h1;simp only [Nat.sub_zero] at ho;exact j.A i o s (I i (Up.1 ho).1) ho E
      · simp only; rw [h2]
        refine j.B s W (λi op hi M E => h1 i ?_);rw [hf];exact (Fv _ 0 s i).2 ⟨UK _, W, op, by simpa using M, E⟩
    · have kG : ib G w (G.aM r.k) w.drew := kd.aG U.aA
      refine { aC := rfl, aD := by simp, aJ := (fun i q h => by rw [u] at h; cases h), aE := (fun o _ => u _), L := rfl, A := (fun i op t h => by rw [u] at h; cases h),
               B := (λt a1 _ => (sr.L t a1).aA kG), aM := (λo ho => by simp at ho), aF := ⟨_, gr, rfl, by simp, (λ_ _ => rfl), (λo ho hl _ => ?_)⟩, aI := List.nodup_nil, aA := (λx hx => by simp at hx),
               aK := (λo ho => by simp at ho), aH := (λo ho hl => ?_), aL := sr.aE, aN := sr.aC, aG := (sr.aD.aI (gy.aK G w _)).aI U, lo := ?_ }
      · have hlt := nJ F.aA o ho hl
        refine ⟨?_, ?_, ?_⟩
        · rw [U1 (by omega), VY, Uv (by omega)]
        · simp only [Gh.aM]; rw [Uw (by rw [<- sr.aA.aA]; omega)]
        · simp only [Gh.aM]; rw [<- sr.aA.aA]; omega
      · have hlt := nJ F.aA o ho hl
        simp only;rw [U1 (by omega), VY, Uv (by omega)]
      · have := sr.aD.aA.N; rw [sr.aA.aA]; exact this
    · refine UH (VB _ _) (by simp)
  have e2 : e.toList.toArray = e := by simp
  rw [e2, hs] at key;exact key
theorem Lt (hF:qS F)(ds:List Deferred)(hm:P.follows .mixedOrders=true){I:Array Oper}{id:Nat}{r:DR}(hc:uK P n keep I.toList=some r)
  {G:Gh} {w:World} {st:St} {a:Act} (sr:SR n keep G0 w0 G w st a) {K:St->Prop} (hk:CT P r st K) {Q':Exit->Act->World->Prop}
  (hQ:∀G' w' u a',SR n keep G0 w0 G' w' u a'->K u->Q' .normal (wd a' ds) w'):(Code.region id I true).wpIn F m P Q' (wd a ds) w:=by
 refine wpIn_region_any hm (Js hF ds (Q:=λe a' w'=>e=.normal/\∃G' u,SR n keep G0 w0 G' w' u a'/\K u) ?_ ?_ ?_ ?_ _ _ _ _ (Lu hc sr hk ?_));·rintro a w ⟨_,G',u,E,_⟩;exact E.aC
 ·rintro c a w ⟨h,_⟩;cases h
 ·rintro a w ⟨h,_⟩;cases h
 ·rintro a w ⟨_,G',u,E,M⟩;exact hQ G' w u a E M
 ·intro G' w' u a' E M;exact⟨rfl,G',u,E,M⟩
theorem Uk {c:Code}{Q:Exit->Act->World->Prop}{a:Act}{w:World}(h:c.wpIn F m P (Exit.noGoto Q) a w):(Code.scope c).wpIn F m P Q a w:=by
 intro b k cs E hb hr;have h0:(lone (b.atR a (.code (.scope c) :: k)) cs w).fenced P F:=fenced_calm hb hr rfl;have s:step P (lone (b.atR a (.code (.scope c) :: k)) cs w)=.next (lone (b.atR a (.code c :: .inScope c :: k)) cs w):=step_lone_go (by simp[stepG,stepG.exec,Frame.atR]);have hx:∀id,exitTo id (.inScope c :: k)=exitTo id k:=λid=>by simp[exitTo]
 obtain⟨e,a₁,w₁,hq,u⟩:=h b (.inScope c :: k) cs E hb hr;cases e with
 | normal=>exact⟨.normal,a₁,w₁,hq,.head h0 s (StepsIn.trans u (.one (fenced_calm hb hr rfl) (step_lone_go (by simp[stepG,stepG.exec,Frame.atR]))))⟩
 | exit id=>exact⟨_,a₁,w₁,hq,λk' hk=>.head h0 s (u.1 k' (by rw[hx];exact hk)),λI hk=>let⟨k₁,h1,h2⟩:=u.2 I (by rw[hx];exact hk);⟨k₁,h1,.head h0 s h2⟩⟩
 | goto l=>exact hq.elim
 | ret=>exact⟨_,a₁,w₁,hq,.of_steps (.one h0 s) u⟩
 | panic ch=>exact⟨_,a₁,w₁,hq,.of_steps (.one h0 s) u⟩
 | outgrown=>exact⟨_,a₁,w₁,hq,.of_steps (.one h0 s) u⟩
def DD (n:Nat)(keep:Nat->Bool)(G0:Gh)(w0:World)(K:AX->St->Prop)(ds:List Deferred)(e:Exit)(a:Act)(w:World):Prop:=∃a0,a=wd a0 ds/\yF n keep G0 w0 K e a0 w
theorem vG (hF:qS F)(ds:List Deferred):∀(c:Code)(ac:AC),cC P n keep c=some ac->∀{K:AX->St->Prop}{G w st a},SR n keep G0 w0 G w st a->vc P ac st K->c.wpIn F m P (DD n keep G0 w0 K ds) (wd a ds) w:=by
 intro c;induction c with
 | skip=>intro ac hc K G w st a sr hk;simp only[cC,UB]at hc;subst hc;exact wpIn_skip ⟨a,rfl,G,st,sr,hk⟩
 | ret=>intro ac hc K G w st a sr hk;simp only[cC,UB]at hc;subst hc;exact wpIn_ret ⟨a,rfl,G,st,sr,hk⟩
 | exit id=>intro ac hc K G w st a sr hk;simp only[cC,UB]at hc;subst hc;exact wpIn_exit ⟨a,rfl,G,st,sr,hk⟩
 | region id ops Z=>
  intro ac hc K G w st a sr hk;cases Z with
  | true=>
   simp only[cC,Vm]at hc;split at hc;·rename_i hm;simp only[UN]at hc;obtain⟨r,hr,rfl⟩:=hc;exact Lt hF ds hm hr sr hk (λG' w' M a' u E=>⟨a',rfl,G',M,u,E⟩)
   ·cases hc
  | false=>
  simp only[cC,UQ,Vd,UN]at hc;obtain⟨al,a2,rfl⟩:=hc;refine wpIn_region_list ?_;have:=xQ (m:=m) (ops:=ops) (Q:=DD n keep G0 w0 K ds) (r:=[]) hF ds (λG' w' M a' u E=>⟨a',rfl,G',_,u.aI,E⟩) ops.toList al sr a2 hk;rw[Vo]at this;exact this
 | seq x y ihx ihy=>
  intro ac hc K G w st a sr hk;simp only[cC]at hc;split at hc
  ·rename_i ax ay hx hy;cases hc;refine wpIn_seq (wpIn_mono (ihx ax hx sr hk) ?_);rintro e a' w' ⟨a0,rfl,hp⟩;cases e with
   | normal=>obtain⟨G',M,u,E⟩:=hp;exact ihy ay hy u E
   | exit id=>exact⟨a0,rfl,hp⟩
   | ret=>exact⟨a0,rfl,hp⟩
   | goto l=>exact⟨a0,rfl,hp⟩
   | panic c=>exact⟨a0,rfl,hp⟩
   | outgrown=>exact⟨a0,rfl,hp⟩
  ·cases hc
 | cond x y z ihy ihz=>
  intro ac hc K G w st a sr hk;simp only[cC]at hc;split at hc
  ·rename_i ay az hy hz;cases hc;simp only[vc]at hk;split at hk
   ·rename_i t ht;have hv:=sr.aF x;rw[ht]at hv;generalize he:a.eval x=v at hv;cases hv;refine wpIn_cond_split (by rw[rZ];exact he) (λe=>?_) (λe=>?_);·exact ihy ay hy sr (hk.1 e)
    ·exact ihz az hz sr (hk.2 e)
   ·exact hk.elim
  ·cases hc
 | block id b ih=>
  intro ac hc K G w st a sr hk;simp only[cC,UN]at hc;obtain⟨ab,hb,rfl⟩:=hc;refine wpIn_block (wpIn_mono (ih ab hb sr hk) ?_);rintro e a' w' ⟨a0,rfl,hp⟩;cases e with
  | normal=>exact⟨a0,rfl,hp⟩
  | exit id'=>
   obtain⟨G',M,u,E⟩:=hp;simp only at E;simp only[Exit.inBlock];split<;>rename_i h;·rw[Uv h]at E;exact⟨a0,rfl,G',M,u,E⟩
   ·rw[Uw h]at E;exact⟨a0,rfl,G',M,u,E⟩
  | ret=>exact⟨a0,rfl,hp⟩
  | goto l=>exact⟨a0,rfl,hp⟩
  | panic c=>exact⟨a0,rfl,hp⟩
  | outgrown=>exact⟨a0,rfl,hp⟩
 | loop b ih=>
  intro ac hc K G w st a sr hk;simp only[cC,UN]at hc;obtain⟨ab,hb,rfl⟩:=hc;obtain⟨I,⟨k,s0,W,h0⟩,O⟩:=hk;obtain⟨G',u⟩:=W n keep G0 w0 G w a sr;refine wpIn_loop_ghost (λk a w=>∃a0 G s,a=wd a0 ds/\SR n keep G0 w0 G w s a0/\I k s) k ⟨a,G',s0,rfl,u,h0⟩ ?_;rintro k _ w ⟨a0,G,s,rfl,sr,hI⟩;refine wpIn_mono (ih ab hb sr (O k s hI)) ?_;rintro e a' w' ⟨a1,rfl,hp⟩;cases e with
  | normal=>obtain⟨G',M,u,m',s0,hlt,W,a3⟩:=hp;obtain⟨a4,U⟩:=W n keep G0 w0 G' w' a1 u;exact⟨m',hlt,a1,a4,s0,rfl,U,a3⟩
  | exit id=>exact⟨a1,rfl,hp⟩
  | ret=>exact⟨a1,rfl,hp⟩
  | goto l=>exact⟨a1,rfl,hp⟩
  | panic c=>exact⟨a1,rfl,hp⟩
  | outgrown=>exact⟨a1,rfl,hp⟩
 | rangeFunc f ps x y _ _=>intro ac hc K G w st a sr hk;simp only[cC,UB]at hc;subst hc;exact hk.elim
 | scope b ih=>
  intro ac hc K G w st a sr hk;refine Uk (wpIn_mono (ih ac hc sr hk) ?_);rintro e a' w' ⟨a0,rfl,hp⟩;cases e with
  | goto l=>exact hp
  | _=>exact⟨a0,rfl,hp⟩
 | label l=>intro ac hc K G w st a sr hk;simp only[cC,UB]at hc;subst hc;exact wpIn_label ⟨a,rfl,G,st,sr,hk⟩
 | goto l=>intro ac hc K G w st a sr hk;simp only[cC,UB]at hc;subst hc;exact hk.elim
 | refuse w=>intro ac hc K G w st a sr hk;simp only[cC,UB]at hc;subst hc;exact hk.elim
theorem xR (c:Code)(ac:AC)(hc:cC P n keep c=some ac){K:AX->St->Prop}{G w st a}(sr:SR n keep G0 w0 G w st a)(hk:vc P ac st K):c.wp P (yF n keep G0 w0 K) a w:=by
 have h:=wpIn_wide.1 (vG (m:=0) tL [] c ac hc sr hk);rw[pT sr.aC]at h;refine wp_mono h ?_;rintro e a' w' ⟨a0,rfl,hp⟩;cases e with
 | normal=>obtain⟨G',E,u,I⟩:=hp;rw[pT u.aC];exact⟨G',E,u,I⟩
 | exit id=>obtain⟨G',E,u,I⟩:=hp;rw[pT u.aC];exact⟨G',E,u,I⟩
 | ret=>obtain⟨G',E,u,I⟩:=hp;rw[pT u.aC];exact⟨G',E,u,I⟩
 | goto l=>exact hp
 | panic c=>exact hp
 | outgrown=>exact hp
end
inductive kh where
 | aC (x:fB)
 | aA (x:fB) (agg:Bool) (n:Nat)
def oK (P:Program)(keep:Nat->Bool):List ResultVar->Option (List kh)
 | []=>some []
 | .tmp t :: r=>(oK P keep r).map (.aC (cd keep (.tmp t)) :: ·)
 | .cell a t :: r=>match uV P t,P.info? t,oK P keep r with
  | some b,some i,some l=>some (.aA (cd keep (.tmp a)) b i.size :: l)
  | _,_,_=>none
def lj (st:St):List kh->Option (List AV)
 | []=>some []
 | .aC x :: r=>(lj st r).map (st.aA x :: ·)
 | .aA x agg n :: r=>match ir st.h agg n (st.aA x),lj st r with
  | some v,some l=>some (v :: l)
  | _,_=>none
def pM:List AV->AV
 | [x]=>x
 | l=>.aI l
structure fJ where
 n:Nat
 aD:Nat->Bool
 aA:AC
 aC:List kh
def qj (P:Program)(keep:Nat->Bool)(f:FuncId):Option fJ:=
 match P.funcs[f]? with
 | some fn=>match fn.body with
  | some c=>match cC P fn.ntmps keep c,oK P keep fn.results.toList with
   | some ac,some res=>some ⟨fn.ntmps,keep,ac,res⟩
   | _,_=>none
  | none=>none
 | none=>none
def nG (p:Nat->Bool):Nat->List AV->fV
 | _,[]=>[]
 | i,v :: r=>if p i then (i,v) :: nG p (i+1) r else nG p (i+1) r
theorem F8 (p:Nat->Bool):∀(vs:List AV)(i s:Nat),lk s (nG p i vs)=.aR\/(i<=s/\vs[s-i]?=some (lk s (nG p i vs))):=by
 intro vs;induction vs with
 | nil=>intro i s;exact .inl rfl
 | cons v vs ih=>
  intro i s;have shift:lk s (nG p (i+1) vs)=.aR\/(i<=s/\(v :: vs)[s-i]?=some (lk s (nG p (i+1) vs))):=by
   rcases ih (i+1) s with h | ⟨h1,h2⟩;·exact .inl h
   ·exact .inr ⟨by omega,by rw[show s-i=(s-(i+1))+1 by omega];simpa using h2⟩
  simp only[nG];split
  ·simp only[lk];split;·rename_i h;subst h;exact .inr ⟨Uy _,by simp⟩
   ·exact shift
  ·exact shift
def n6 (keep:Nat->Bool)(avs:List AV)(h:eW):St:=⟨nG keep 0 avs,nG (λs=>!keep s) 0 avs,h⟩
def i_ (res:List kh)(K:AV->eW->Prop):AX->St->Prop
 | .aD _,_=>False
 | _,st=>match lj st res with
  | some l=>K (pM l) st.h
  | none=>False
section
variable {n:Nat} {keep:Nat->Bool} {G0:Gh} {w0:World} {P:Program}
theorem QB {G w st a}(sr:SR n keep G0 w0 G w st a):∀(rs:List ResultVar)(res:List kh)(l:List AV),oK P keep rs=some res->lj st res=some l->
  ∃vs:List Value,(rs.mapM fun
   | .tmp t=>pure (a.tmps.getD t undef)
   | .cell x t=>do loadVar t (<-asAddr (a.tmps.getD x undef)):Sem (List Value)).run P w=.ok vs w/\l.length=vs.length /\
   ∀(j:Nat)(c:AV)(v:Value),l[j]?=some c->vs[j]?=some v->V G w c v:=by
 intro rs;induction rs with
 | nil=>intro res l hc hl;simp only[oK,UB]at hc;subst hc;simp only[lj,UB]at hl;subst hl;exact⟨[],rfl,rfl,λj c v h=>by simp at h⟩
 | cons r rs ih=>
  intro res l hc hl;have cons:∀{c:AV}{v:Value}{l':List AV}{vs:List Value},V G w c v->l'.length=vs.length->(∀(j:Nat)(c:AV)(v:Value),l'[j]?=some c->vs[j]?=some v->V G w c v)->
    (c :: l').length=(v :: vs).length/\∀(j:Nat)(c':AV)(v':Value),(c :: l')[j]?=some c'->(v :: vs)[j]?=some v'->V G w c' v':=by
   intro c v l' vs h1 h2 h3;refine⟨by simp[h2],λj c' v' hc hv=>?_⟩;cases j with
   | zero=>simp at hc hv;subst hc;subst hv;exact h1
   | succ j=>exact h3 j c' v' (by simpa using hc) (by simpa using hv)
  cases r with
  | tmp t=>simp only[oK,UN]at hc;obtain⟨e,E,rfl⟩:=hc;simp only[lj,UN]at hl;obtain⟨l',I,rfl⟩:=hl;obtain⟨vs,h1,h2,h3⟩:=ih e l' E I;have hv:=sr.aF (.tmp t);refine⟨a.tmps.getD t undef :: vs,?_,cons hv h2 h3⟩;simp only[List.mapM_cons,Sem.run_bind,Sem.run_pure,Result.andThen_ok,h1]
  | cell x t=>
   simp only[oK]at hc;split at hc
   ·rename_i b i e hb hi E;cases hc;simp only[lj]at hl;split at hl
    ·rename_i c l' O I;cases hl;obtain⟨vs,h1,h2,h3⟩:=ih e l' E I;obtain⟨u,hu,hV⟩:=Ec (P:=P) sr.aA (sr.aF (.tmp x)) O (xK hb) (oh hi);refine⟨u :: vs,?_,cons hV h2 h3⟩;have M:((do loadVar t (<-asAddr (a.tmps.getD x undef)):Sem Value)).run P w=.ok u w:=by
      have he:a.eval (.tmp x)=a.tmps.getD x undef:=rfl;rw[he]at hu;generalize a.tmps.getD x undef=q at hu;cases q with
      | pointer p=>cases p with
       | none=>simp[Instr.loadAt,Instr.sureAddr]at hu
       | some p=>simpa [Instr.loadAt,Instr.sureAddr,asAddr] using hu
      | _=>simp[Instr.loadAt,Instr.sureAddr]at hu
     simp only[List.mapM_cons,Sem.run_bind,Sem.run_pure];simp only[Sem.run_bind]at M;rw[M];simp only[Result.andThen_ok,h1]
    ·cases hl
   ·cases hc
theorem tR {G w st a}(sr:SR n keep G0 w0 G w st a){fn:Func}{res:List kh}{l:List AV}(hc:oK P keep fn.results.toList=some res)(hl:lj st res=some l):
  ∃v,(results fn a.tmps).run P w=.ok v w/\V G w (pM l) v:=by
 obtain⟨vs,h1,h2,h3⟩:=QB sr fn.results.toList res l hc hl;have hm:(fn.results.mapM fun
   | .tmp t=>pure (a.tmps.getD t undef)
   | .cell x t=>do loadVar t (<-asAddr (a.tmps.getD x undef)):Sem (Array Value)).run P w=.ok vs.toArray w:=by
  have e:∀(x:Sem (List Value)),(Functor.map List.toArray x:Sem (Array Value)).run P w=(x.run P w).andThen λa w'=>.ok a.toArray w':=λx=>Sem.run_bind' P x _ w;rw[Array.mapM_eq_mapM_toList,e,h1];rfl
 refine⟨if h:vs.toArray.size=1 then vs.toArray[0] else .tuple vs.toArray,?_,?_⟩;·unfold results;rw[Sem.run_bind];exact (WQ (λr=>Result.andThen r _) hm).trans rfl
 ·unfold pM;split
  ·rename_i x;have hs:vs.length=1:=by simpa using h2.symm
   rw[dif_pos (by simpa using hs)];exact h3 0 x _ rfl (by simp[hs])
  ·rename_i u;have hs:¬vs.toArray.size=1:=by
    intro hs;have:l.length=1:=by rw[h2];simpa using hs
    obtain⟨x,hx⟩:=List.length_eq_one_iff.1 this;exact u x hx
   rw[dif_neg hs];exact .aM _ _ (by simpa using h2) (λj c v hc hv=>h3 j c v hc (by simpa using hv))
theorem tj {f:FuncId}{fn:fJ}(hf:qj P keep f=some fn){I:List AV}(hn:I.length<=fn.n){h:eW}{K:AV->eW->Prop}
  (hk:vc P fn.aA (n6 keep I h) (i_ fn.aC K)):fC P f I h K:=by
 unfold qj at hf;split at hf
 ·rename_i fd Z;split at hf
  ·rename_i c hc;split at hf
   ·rename_i ac res a1 O;cases hf;intro G w vs hg hv;refine calls_of_wp Z hc ?_;have sr:SR fd.ntmps keep G w G w (n6 keep I h) {tmps:=vs++Array.replicate (fd.ntmps-vs.size) undef,defers:=[]}:=by
     have hle:vs.size<=fd.ntmps:=by rw[<-hv.1];exact hn
     have W:∀(p:Nat->Bool)(s:Nat),V G w (lk s (nG p 0 I)) ((vs++Array.replicate (fd.ntmps-vs.size) undef).getD s undef):=by
      intro p s;rcases F8 p I 0 s with e | ⟨_,e⟩;·rw[e];exact .aI _
      ·simp only[Nat.sub_zero]at e;obtain⟨v,U,hV⟩:=hv.aC e;have hlt:=(VA.1 U).1;have:(vs++Array.replicate (fd.ntmps-vs.size) undef).getD s undef=v:=by simp[Wm,hlt];have:=U;simp[hlt]at this;exact this
       rw[this];exact hV
     exact⟨hg,by simp;omega,rfl,λs _=>W keep s,λs _=>W _ s,gy.aD G w⟩
    refine wp_mono (xR c ac a1 sr hk) ?_;intro e a w' hp;have fin:∀{G' E},SR fd.ntmps keep G w G' w' E a->i_ res K .aC E->a.defers=[]/\∃v,(results fd a.tmps).run P w'=.ok v w' /\
      ∃v0 r h' G',Ending.returned v=.returned v0/\K r h'/\fO G' w' h'/\V G' w' r v0/\gy G w G' w':=by
     intro G' E u hK;simp only[i_]at hK;split at hK;·rename_i l hl;obtain⟨v,M,hV⟩:=tR (P:=P) u O hl;exact⟨u.aC,v,M,v,_,_,G',rfl,hK,u.aA,hV,u.aD⟩
     ·exact hK.elim
    cases e with
    | normal=>obtain⟨G',E,u,hK⟩:=hp;exact fin u hK
    | ret=>obtain⟨G',E,u,hK⟩:=hp;exact fin u hK
    | exit id=>obtain⟨G',E,u,hK⟩:=hp;exact hK.elim
    | goto l=>exact hp.elim
    | panic c=>exact hp.elim
    | outgrown=>exact hp.elim
   ·cases hf
  ·cases hf
 ·cases hf
end
end Glb
