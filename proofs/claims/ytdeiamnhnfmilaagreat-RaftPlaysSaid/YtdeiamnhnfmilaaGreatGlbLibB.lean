/-
  A library of its own.
-/
import Derived.Test.YtdeiamnhnfmilaaGreatGlbLibA
import Derived.Scope
import Derived.OrdersIn
import Derived.TacticsIn
import Derived.RangeFuncOwn
import Derived.Sort.LoopGhostIn
set_option linter.unusedSimpArgs false
set_option linter.unusedVariables false
namespace Glb
open Go
structure DO where
 i:Nat
 nm:Nat
 hv:Bool
 op:i_
 aA:Option (fJ×Bool)
structure DS where
 L:fY
 R:fY
 h:eZ
 aD:List (Nat×AV×Bool×Nat×AV)
 aB:List (Nat×Nat×fh)
def DS.aA (d:DS):fJ->AV
 | .aB s=>lk s d.L
 | .aA s=>lk s d.R
 | .aC v=>v
def DS.aC (d:DS)(i:Nat)(v:AV):DS:={d with R:=(i,v) :: d.R}
def gN (lo k:Nat):AV->Bool
 | .aC m _ _ _=>decide (m<lo) || decide (lo+k<=m)
 | _=>true
def jK:List (Nat×Nat×fh)->eZ->eZ
 | [],h=>h
 | x :: r,h=>jK r (h.set x.2.1 none)
def jG:List (Nat×Nat×fh)->eZ->eZ
 | [],h=>h
 | x :: r,h=>(jG r h).set x.2.1 (some x.2.2)
def kK:Option (Option fh)->Bool
 | some none=>true
 | _=>false
def lT (dep:Nat->Nat->Bool)(lo k i:Nat)(lts:List (Nat×Nat×fh))(h:eZ):Bool:=
 (List.range k).all λq=>(lts.any λx=>dep i x.1 && x.2.1 == lo+q) || kK h[lo+q]?
def oN (dep:Nat->Nat->Bool)(i:Nat)(h:eZ):List (Nat×AV×Bool×Nat×AV)->Prop
 | []=>True
 | p :: r=>(dep i p.1=true\/gX h p.2.2.1 p.2.2.2.1 p.2.1=some p.2.2.2.2)/\oN dep i h r
def tj (dep:Nat->Nat->Bool)(lo k i:Nat)(d:DS)(xs:List (Nat×Nat×fh))(v:AV)(h':eZ)(next:DS->Prop):Prop:=
 lT dep lo k i d.aB h'=true/\oN dep i (jG xs h') d.aD/\next {d.aC i v with h:=jG xs h'}
def kE (P:Program)(dep:Nat->Nat->Bool)(lo k:Nat)(o:DO)(d:DS)(next:DS->Prop):Prop:=
 match o.hv,o.op with
 | false,.r (.aB agg n x)=>match gX d.h agg n (d.aA x) with
  | some v=>gN lo k (d.aA x)=true/\next {d.aC o.i v with aD:=(o.i,d.aA x,agg,n,v) :: d.aD}
  | none=>False
 | false,.r ro=>match gB d.aA [] ro with
  | some v=>next (d.aC o.i v)
  | none=>False
 | false,.h ho=>match iW d.aA (lo+o.nm) ho with
  | some (v,b)=>next {d.aC o.i v with h:=d.h.set (lo+o.nm) (some b),aB:=(o.i,lo+o.nm,b) :: d.aB}
  | none=>False
 | true,.h ho=>
  let xs:=d.aB.filter λx=>!dep o.i x.1
  match jE d.aA (jK xs d.h) ho with
  | some (v,h')=>tj dep lo k o.i d xs v h' next
  | none=>False
 | true,.aB f args=>
  let xs:=d.aB.filter λx=>!dep o.i x.1
  fI P f=true/\fy P f (args.map d.aA) (jK xs d.h) λv h'=>tj dep lo k o.i d xs v h' next
 | true,.aC x args=>
  let xs:=d.aB.filter λx=>!dep o.i x.1
  match d.aA x with
  | .aM f fs cs=>fI P f=true/\fy P f (fs++args.map d.aA++cs) (jK xs d.h) λv h'=>tj dep lo k o.i d xs v h' next
  | _=>False
 | _,_=>False
def gI (P:Program)(dep:Nat->Nat->Bool)(lo k:Nat):List DO->DS->(DS->Prop)->Prop
 | [],d,K=>K d
 | o :: r,d,K=>
 match o.aA with
 | none=>kE P dep lo k o d λd'=>gI P dep lo k r d' K
 | some (x,want)=>match d.aA x with
  | .aD b=>(b=want->kE P dep lo k o d λd'=>gI P dep lo k r d' K)/\(b=(!want)->gI P dep lo k r (d.aC o.i (.aI [])) K)
  | .aI _=>gI P dep lo k r (d.aC o.i (.aI [])) K
  | _=>False
def ng (R:fY):List (Nat×Nat)->fY->fY
 | [],L=>L
 | (t,i) :: r,L=>ng R r (lG t (lk i R) L)
structure DR where
 aC:List Nat
 k:Nat
 aB:List DO
 aD:List (Nat×Nat)
def DR.aA (r:DR)(i j:Nat):Bool:=(r.aC.getD i 0).testBit j
def Dz (P:Program)(r:DR)(st:St)(K:St->Prop):Prop:=
 gI P r.aA st.h.length r.k r.aB ⟨st.L,[],st.h++List.replicate r.k none,[],[]⟩ λd=>K ⟨ng d.R r.aD st.L,[],d.h⟩
def uH (acc:List Nat)(o:Oper):Nat:=
 o.after.toList.foldl (λs e=>if Region.binds .any e then s ||| 2^e.on ||| acc.getD e.on 0 else s) 0
def jx:List Oper->List Nat->List Nat
 | [],acc=>acc
 | o :: r,acc=>jx r (acc++[uH acc o])
def uY (t:Tmp):List Oper->Nat->Option Nat
 | [],_=>none
 | o :: r,i=>if o.dst=some t then some i else uY t r (i+1)
def l9 (keep:Nat->Bool)(ops:List Oper)(masks:List Nat)(i:Nat):Operand->fJ
 | .tmp t=>match uY t ops 0 with
  | some j=>if (masks.getD i 0).testBit j then .aA j else if (masks.getD j 0).testBit i && keep t then .aB t else .aC .aR
  | none=>if keep t then .aB t else .aC .aR
 | .const v=>.aC (xt v)
 | .global g=>.aC (.aO (.pointer (some ⟨g,0,none⟩)))
 | .func f=>.aC (.aM f [] [])
def i_.aA:i_->Bool
 | .h (.mk _) | .h (.aA _) | .h (.aB _ _) | .h (.aC _ _ _ _ _)=>true
 | _=>false
def i_.aD:i_->Bool
 | .r _=>false
 | a=>!a.aA
def qC (tr:Operand->fJ)(ops:List Oper):Option (Nat×Bool)->Option (Option (fJ×Bool))
 | none=>some none
 | some (j,want)=>match (ops[j]?).bind (·.dst) with
 | some t=>some (some (tr (.tmp t),want))
 | none=>none
def ub (P:Program)(keep:Nat->Bool)(ops:List Oper)(masks:List Nat):List Oper->Nat->Nat->Option (List DO)
 | [],_,_=>some []
 | o :: r,i,c=>
 match kJ P (l9 keep ops masks i) o,qC (l9 keep ops masks i) ops o.guard with
 | some op,some g=>(ub P keep ops masks r (i+1) (if op.aA then c+1 else c)).map (⟨i,c,op.aD,op,g⟩ :: ·)
 | _,_=>none
def PC (masks:List Nat)(all:List DO)(o:DO):Nat:=(all.filter λx=>x.hv && (masks.getD o.i 0).testBit x.i).length
def G9 (i f:Nat):List (Nat×Nat)->List (Nat×Nat)
 | []=>[(i,f)]
 | x :: r=>if f<x.2 then (i,f) :: x :: r else x :: G9 i f r
def Qs (masks:List Nat)(all:List DO):List Nat:=
 (all.foldl (λacc o=>G9 o.i (2*PC masks all o+(if o.hv then 1 else 0)) acc) []).map (·.1)
def o_ (dep:Nat->Nat->Bool)(k:Nat):List DO->Bool
 | []=>true
 | o :: r=>r.all (λx=>!(x.i == o.i) && !dep o.i x.i && (!o.hv || dep x.i o.i) && (!o.op.aA || !x.op.aA || !(x.nm == o.nm))) && (!o.op.aA || decide (o.nm<k)) && o_ dep k r
def xc:List Oper->Bool
 | []=>true
 | o :: r=>(match o.dst with | some t=>r.all λx=>!(x.dst == some t) | none=>true) && xc r
def xe:List Oper->Nat->Bool
 | [],_=>true
 | o :: r,i=>o.after.toList.all (λe=>!Region.binds .any e || decide (e.on<i)) && xe r (i+1)
def ni (keep:Nat->Bool):List Oper->Nat->List (Nat×Nat)
 | [],_=>[]
 | o :: r,i=>match o.dst with
 | some t=>if keep t then (t,i) :: ni keep r (i+1) else ni keep r (i+1)
 | none=>ni keep r (i+1)
def ud (P:Program)(n:Nat)(keep:Nat->Bool)(ops:List Oper):Option DR:=
 let masks:=jx ops []
 match ub P keep ops masks ops 0 0 with
 | some all=>
 let items:=(Qs masks all).filterMap (all[·]?)
 let k:=(all.filter (·.op.aA)).length
 if o_ (λi j=>(masks.getD i 0).testBit j) k items && xc ops && xe ops 0 && (List.range ops.length).all (λi=>items.any λo=>o.i == i)
  && ops.all (λo=>match o.dst with | some t=>decide (t<n) | none=>true) then
  some ⟨masks,k,items,ni keep ops 0⟩
 else none
 | none=>none
theorem TL (b:List Nat)(j:Nat):∀(l:List Edge)(s:Nat),
  (l.foldl (λs e=>if Region.binds .any e then s ||| 2^e.on ||| b.getD e.on 0 else s) s).testBit j=true->
  s.testBit j=true\/∃e∈l,Region.binds .any e=true/\(e.on=j\/(b.getD e.on 0).testBit j=true):=by
 intro l;induction l with
 | nil=>intro s h;exact .inl h
 | cons e l ih=>
  intro s h;simp only[W8]at h;rcases ih _ h with h1 | ⟨e',t,h1⟩
  ·split at h1
   ·rename_i hb;simp only[Nat.testBit_or,WM,Nat.testBit_two_pow,V4]at h1;rcases h1 with (h1 | h1) | h1;·exact .inl h1
    ·exact .inr ⟨e,by simp,hb,.inl h1⟩
    ·exact .inr ⟨e,by simp,hb,.inr h1⟩
   ·exact .inl h1
  ·exact .inr ⟨e',by simp[t],h1⟩
theorem PL:∀(ops:List Oper)(b:List Nat),(jx ops b).length=b.length+ops.length:=by
 intro ops;induction ops with
 | nil=>intro b;simp[jx]
 | cons o r ih=>intro b;simp only[jx,ih];simp;omega
theorem Hp:∀(ops:List Oper)(b:List Nat)(j:Nat),j<b.length->(jx ops b).getD j 0=b.getD j 0:=by
 intro ops;induction ops with
 | nil=>intro b j _;rfl
 | cons o r ih=>
 intro b j hj;simp only[jx];rw[ih _ j (by simp;omega)];simp[VK hj]
theorem Hq:∀(ops:List Oper)(t:List Nat)(i:Nat)(o:Oper),ops[i]?=some o->
  ∃b:List Nat,(jx ops t).getD (t.length+i) 0=uH b o/\b.length=t.length+i/\∀j,j<t.length+i->b.getD j 0=(jx ops t).getD j 0:=by
 intro ops;induction ops with
 | nil=>intro t i o h;simp at h
 | cons x r ih=>
  intro t i o h;cases i with
  | zero=>
   simp at h;subst h;refine⟨t,?_,by simp,λj hj=>?_⟩;·simp only[jx];rw[Hp _ _ _ (by simp)];simp
   ·simp only[jx];rw[Hp _ _ _ (by simp;omega)];simp at hj;simp[VK hj]
  | succ i=>simp only[jx];obtain⟨b,h1,h2,h3⟩:=ih (t++[uH t x]) i o (by simpa using h);simp only[Vj,VD,VN]at h1 h2 h3;exact⟨b,by rw[<-h1];congr 1;omega,by omega,λj hj=>h3 j (by omega)⟩
theorem Cr {ops:List Oper} (he:∀(i:Nat)(o:Oper),ops[i]?=some o->∀e∈o.after.toList,Region.binds .any e=true->e.on<i) {i j:Nat} {o:Oper} (ho:ops[i]?=some o)
  (hd:((jx ops []).getD i 0).testBit j=true):∃e∈o.after.toList,Region.binds .any e=true/\(e.on=j\/((jx ops []).getD e.on 0).testBit j=true):=by
 obtain⟨b,h1,h2,h3⟩:=Hq ops [] i o ho;simp only[VN,WT]at h1 h2 h3;rw[h1]at hd;unfold uH at hd;rcases TL b j _ _ hd with h | ⟨e,hm,hb,h⟩;·simp at h
 ·refine⟨e,hm,hb,?_⟩;rcases h with h | h;·exact .inl h
  ·rw[h3 _ (he i o ho e hm hb)]at h;exact .inr h
theorem Nd:∀(ops:List Oper)(k:Nat),xe ops k=true->∀(i:Nat)(o:Oper),ops[i]?=some o->∀e∈o.after.toList,Region.binds .any e=true->e.on<k+i:=by
 intro ops;induction ops with
 | nil=>intro k _ i o h;simp at h
 | cons x r ih=>
 intro k hk i o h e he hb;simp only[xe,VF]at hk;cases i with
 | zero=>simp at h;subst h;have:=Ww.1 hk.1 e he;simp[hb]at this;omega
 | succ i=>have:=ih (k+1) hk.2 i o (by simpa using h) e he hb;omega
theorem MR:∀(ops:List Oper),xc ops=true->∀(i j:Nat)(o p:Oper)(t:Tmp),ops[i]?=some o->ops[j]?=some p->o.dst=some t->p.dst=some t->i=j:=by
 intro ops;induction ops with
 | nil=>intro _ i j o p t h;simp at h
 | cons x r ih=>
 intro hk i j o p t hi hj ho hp;simp only[xc,VF]at hk;have aux:∀(q:Oper)(m:Nat),r[m]?=some q->q.dst=some t->x.dst=some t->False:=by intro q m hm hq hx;have h1:=hk.1;rw[hx]at h1;have:=Ww.1 h1 q (WQ hm);simp[hq]at this
 cases i with
 | zero=>
  simp at hi;subst hi;cases j with
  | zero=>rfl
  | succ j=>exact (aux p j (by simpa using hj) hp ho).elim
 | succ i=>
  cases j with
  | zero=>simp at hj;subst hj;exact (aux o i (by simpa using hi) ho hp).elim
  | succ j=>rw[ih hk.2 i j o p t (by simpa using hi) (by simpa using hj) ho hp]
theorem U7 (t:Tmp):∀(ops:List Oper)(k:Nat),match uY t ops k with
  | some j=>k<=j/\∃o,ops[j-k]?=some o/\o.dst=some t
  | none=>∀(i:Nat)(o:Oper),ops[i]?=some o->o.dst≠some t:=by
 intro ops;induction ops with
 | nil=>intro k;simp[uY]
 | cons x r ih=>
  intro k;simp only[uY];by_cases h:x.dst=some t;·rw[Vf h];exact⟨Vg _,x,by simp,h⟩
  ·rw[Ve h];have:=ih (k+1);split at this;·rename_i j hj;obtain⟨h1,o,h2,h3⟩:=this;exact⟨by omega,o,by rw[show j-k=(j-(k+1))+1 by omega];simpa using h2,h3⟩
   ·rename_i hj;intro i o hi;cases i with
    | zero=>simp at hi;subst hi;exact h
    | succ i=>exact this i o (by simpa using hi)
theorem Li {P:Program}{keep:Nat->Bool}{ops:List Oper}{masks:List Nat}:∀(l:List Oper)(i c:Nat)(all:List DO),ub P keep ops masks l i c=some all->
 all.length=l.length/\∀(j:Nat)(d:DO),all[j]?=some d->d.i=i+j/\d.hv=d.op.aD/\∃o,l[j]?=some o/\kJ P (l9 keep ops masks (i+j)) o=some d.op/\qC (l9 keep ops masks (i+j)) ops o.guard=some d.aA:=by
 intro l;induction l with
 | nil=>intro i c all h;simp only[ub,Vk]at h;subst h;exact⟨rfl,λj d h=>by simp at h⟩
 | cons o r ih=>
 intro i c all h;simp only[ub]at h;split at h
 ·rename_i op g hop hg;simp only[Vu]at h;obtain⟨all',hall,rfl⟩:=h;obtain⟨h1,h2⟩:=ih _ _ _ hall;refine⟨by simp[h1],λj d hd=>?_⟩;cases j with
  | zero=>
  simp at hd;subst hd;exact⟨rfl,rfl,o,rfl,hop,hg⟩
  | succ j=>
  obtain⟨a,b,o',c',e,f⟩:=h2 j d (by simpa using hd);have:i+1+j=i+(j+1):=by omega
  rw[this]at a e f;exact⟨a,b,o',by simpa using c',e,f⟩
 ·cases h
theorem TM (t:List Nat)(j:Nat):∀(l:List Edge)(s:Nat),(s.testBit j=true\/∃e∈l,Region.binds .any e=true/\(e.on=j\/(t.getD e.on 0).testBit j=true))->
  (l.foldl (λs e=>if Region.binds .any e then s ||| 2^e.on ||| t.getD e.on 0 else s) s).testBit j=true:=by
 intro l;induction l with
 | nil=>
  intro s h;rcases h with h | ⟨e,he,_⟩;·exact h
  ·simp at he
 | cons e l ih=>
  intro s h;simp only[W8];apply ih;rcases h with h | ⟨e',b,hb,h⟩
  ·left;split;·simp[Nat.testBit_or,h]
   ·exact h
  ·rcases VR.1 b with rfl | b
   ·left;rw[Vf hb];rcases h with h | h;·simp[Nat.testBit_or,h]
    ·rw[Nat.testBit_or,h,W5]
   ·exact .inr ⟨e',b,hb,h⟩
theorem GH {ops:List Oper} (he:∀(i:Nat)(o:Oper),ops[i]?=some o->∀e∈o.after.toList,Region.binds .any e=true->e.on<i) {i j:Nat} {o:Oper} (ho:ops[i]?=some o)
 {e:Edge} (hm:e∈o.after.toList) (hb:Region.binds .any e=true) (h:e.on=j\/((jx ops []).getD e.on 0).testBit j=true):((jx ops []).getD i 0).testBit j=true:=by
 obtain⟨b,h1,h2,h3⟩:=Hq ops [] i o ho;simp only[VN,WT]at h1 h2 h3;rw[h1];unfold uH;refine TM b j _ _ (.inr ⟨e,hm,hb,?_⟩);rcases h with h | h;·exact .inl h
 ·rw[h3 _ (he i o ho e hm hb)];exact .inr h
theorem Hr {ops:List Oper}{i:Nat} (h:ops[i]?=none):(jx ops []).getD i 0=0:=by
 have hl:(jx ops []).length<=i:=by rw[PL];simpa using (List.getElem?_eq_none_iff.1 h)
 simp[VJ hl]
theorem Mn {ops:List Oper} (he:∀(i:Nat)(o:Oper),ops[i]?=some o->∀e∈o.after.toList,Region.binds .any e=true->e.on<i):∀(i j k:Nat),
 ((jx ops []).getD i 0).testBit j=true->((jx ops []).getD j 0).testBit k=true->((jx ops []).getD i 0).testBit k=true:=by
 intro i;induction i using Nat.strongRecOn with
 | _ i ih=>
 intro j k h1 h2;cases ho:ops[i]? with
 | none=>rw[Hr ho]at h1;simp at h1
 | some o=>
  obtain⟨e,hm,hb,h⟩:=Cr he ho h1;rcases h with h | h;·subst h;exact GH he ho hm hb (.inr h2)
  ·exact GH he ho hm hb (.inr (ih e.on (he i o ho e hm hb) j k h h2))
theorem Mm {ops:List Oper} (he:∀(i:Nat)(o:Oper),ops[i]?=some o->∀e∈o.after.toList,Region.binds .any e=true->e.on<i):∀(i j:Nat),
 ((jx ops []).getD i 0).testBit j=true->j<i:=by
 intro i;induction i using Nat.strongRecOn with
 | _ i ih=>
 intro j h1;cases ho:ops[i]? with
 | none=>rw[Hr ho]at h1;simp at h1
 | some o=>
  obtain⟨e,hm,hb,h⟩:=Cr he ho h1;have hlt:=he i o ho e hm hb;rcases h with h | h;·omega
  ·have:=ih e.on hlt j h;omega
structure DF (P:Program)(n:Nat)(keep:Nat->Bool)(ops:List Oper)(r:DR):Prop where
 aI:r.aC=jx ops []
 aB:∀o∈r.aB,o.hv=o.op.aD/\∃op,ops[o.i]?=some op/\kJ P (l9 keep ops r.aC o.i) op=some o.op/\qC (l9 keep ops r.aC o.i) ops op.guard=some o.aA
 aA:o_ r.aA r.k r.aB=true
 aE:∀(i j:Nat)(o p:Oper)(t:Tmp),ops[i]?=some o->ops[j]?=some p->o.dst=some t->p.dst=some t->i=j
 aD:∀(i:Nat)(o:Oper),ops[i]?=some o->∀e∈o.after.toList,Region.binds .any e=true->e.on<i
 aF:∀i,i<ops.length->∃o∈r.aB,o.i=i
 lt:∀op∈ops,∀t,op.dst=some t->t<n
 aG:r.aD=ni keep ops 0
theorem Lj {P:Program}{n:Nat}{keep:Nat->Bool}{ops:List Oper}{r:DR}(h:ud P n keep ops=some r):DF P n keep ops r:=by
 unfold ud at h;simp only at h;split at h
 ·rename_i all u;split at h
  ·rename_i hc;cases h;simp only[VF]at hc;obtain⟨⟨⟨⟨h1,h2⟩,h3⟩,h4⟩,h5⟩:=hc;refine⟨rfl,λo ho=>?_,h1,MR ops h2,λi o hi e he hb=>by have:=Nd ops 0 h3 i o hi e he hb;omega,λi hi=>?_,λop C t ht=>?_,rfl⟩;·simp only[List.mem_filterMap]at ho;obtain⟨j,_,hj⟩:=ho;obtain⟨_,b⟩:=Li ops 0 0 all u;obtain⟨e1,e2,op,e3,e4,e5⟩:=b j o hj;simp only[WT]at e1 e4 e5;subst e1;exact⟨e2,op,e3,e4,e5⟩
   ·have:=Ww.1 h4 i (by simpa using hi);rw[Xh]at this;obtain⟨o,ho,he⟩:=this;exact⟨o,ho,by simpa using he⟩
   ·have:=Ww.1 h5 op C;rw[ht]at this;simpa using this
  ·cases h
 ·cases h
theorem mM {dep:Nat->Nat->Bool}{k:Nat}:∀{l:List DO},o_ dep k l=true->∀o∈l,o.op.aA=true->o.nm<k:=by
 intro l;induction l with
 | nil=>intro _ o h;simp at h
 | cons x r ih=>
 intro h o ho hl;simp only[o_,VF]at h;rcases VR.1 ho with rfl | ho;·have:=h.1.2;simp[hl]at this;exact this
 ·exact ih h.2 o ho hl
theorem qU {dep:Nat->Nat->Bool}{k:Nat}:∀{pre rest:List DO},o_ dep k (pre++rest)=true->∀o∈pre,∀x∈rest,
  x.i≠o.i/\dep o.i x.i=false/\(o.hv=true->dep x.i o.i=true)/\(o.op.aA=true->x.op.aA=true->x.nm≠o.nm):=by
 intro pre;induction pre with
 | nil=>intro rest _ o h;simp at h
 | cons y pre ih=>
  intro rest h o ho x hx;simp only[List.cons_append,o_,VF]at h;rcases VR.1 ho with rfl | ho
  ·have:=Ww.1 h.1.1 x (by simp[hx]);simp only[VF,Bool.not_eq_true',WM,beq_eq_false_iff_ne]at this;obtain⟨⟨⟨a,b⟩,c⟩,d⟩:=this;refine⟨a,b,λhv=>?_,λh1 h2=>?_⟩
   ·rcases c with c | c;·rw[hv]at c;cases c
    ·exact c
   ·rcases d with (d | d) | d;·rw[h1]at d;cases d
    ·rw[h2]at d;cases d
    ·exact d
  ·exact ih h.2 o ho x hx
theorem pR:∀(xs:List (Nat×Nat×fh)) (h:eZ) (m:Nat),(jK xs h).length=h.length /\
  ((∃x∈xs,x.2.1=m)->m<h.length->(jK xs h)[m]?=some none)/\((∀x∈xs,x.2.1≠m)->(jK xs h)[m]?=h[m]?):=by
 intro xs;induction xs with
 | nil=>intro h m;exact⟨rfl,λ⟨x,hx,_⟩=>by simp at hx,λ_=>rfl⟩
 | cons x r ih=>
  intro h m;obtain⟨a,b,c⟩:=ih (h.set x.2.1 none) m;refine⟨by simpa [jK] using a,?_,?_⟩
  ·rintro⟨y,hy,hm⟩ hlt;by_cases hr:∃z∈r,z.2.1=m;·exact b hr (by simpa using hlt)
   ·have t:∀z∈r,z.2.1≠m:=λz hz e=>hr ⟨z,hz,e⟩;rcases VR.1 hy with rfl | hy;·simp only[jK];rw[c t,hm,Vd hlt]
    ·exact absurd hm (t y hy)
  ·intro hn;simp only[jK];rw[c (λz hz=>hn z (by simp[hz])),Vb (hn x (by simp))]
theorem nY:∀(xs:List (Nat×Nat×fh)) (h:eZ) (m:Nat),(jG xs h).length=h.length/\((∀x∈xs,x.2.1≠m)->(jG xs h)[m]?=h[m]?):=by
 intro xs;induction xs with
 | nil=>intro h m;exact⟨rfl,λ_=>rfl⟩
 | cons x r ih=>
 intro h m;obtain⟨a,b⟩:=ih h m;refine⟨by simpa [jG] using a,λhn=>?_⟩;simp only[jG];rw[Vb (hn x (by simp)),b (λz hz=>hn z (by simp[hz]))]
theorem IE:∀(xs:List (Nat×Nat×fh)) (h:eZ),(xs.map (·.2.1)).Nodup->∀x∈xs,x.2.1<h.length->(jG xs h)[x.2.1]?=some (some x.2.2):=by
 intro xs;induction xs with
 | nil=>intro h _ x hx;simp at hx
 | cons y r ih=>
 intro h hn x hx hlt;simp only[VS,Xn,Wl,not_exists,not_and]at hn;simp only[jG];rcases VR.1 hx with rfl | hx;·rw[Vd (by rw[(nY r h 0).1];exact hlt)]
 ·rw[Vb (λe=>hn.1 x hx e.symm)];exact ih h hn.2 x hx hlt
theorem KP:∀(E:List (Nat×Nat×fh)) {G:Gh} {w:World} {h:eZ},fS G w h->(E.map (·.2.1)).Nodup->
 (∀x∈E,h[x.2.1]?=some (some x.2.2)/\(∃sz es gr,x.2.2=.aA sz es gr)/\∃b,G.aA x.2.1=some b)->
 ∃Gk,fS Gk w (jK E h)/\gU G w Gk w/\(∀n,Gk.aA n=G.aA n)/\(∀n,Gk.aD n↔G.aD n) /\
  ∀{G' w' h'},gE Gk w G' w'->fS G' w' h'->(∀x∈E,h'[x.2.1]?=some none)->
  ∃C,fS C w' (jG E h')/\gE G w C w'/\gU G' w' C w'/\(∀n,C.aA n=G'.aA n)/\(∀n,C.aD n↔G'.aD n):=by
 intro E;induction E with
 | nil=>
 intro G w h g _ _;exact⟨G,g,gU.aI G w,λ_=>rfl,λ_=>Wu,fun {G' w' h'} s g' _=>⟨G',g',s,gU.aI G' w',λ_=>rfl,λ_=>Wu⟩⟩
 | cons x r ih=>
 intro G w h g hn hE;simp only[VS,Xn,Wl,not_exists,not_and]at hn;obtain⟨hx,⟨sz,es,gr,hb⟩,b,I⟩:=hE x (by simp);rw[hb]at hx;have g1:=g.aR hx;obtain⟨Gk,h1,h2,h3,h4,h5⟩:=ih g1 hn.2 (λy hy=>by obtain⟨p,q,s⟩:=hE y (by simp[hy]);exact⟨by rw[Vb (λe=>hn.1 y hy e.symm)];exact p,q,s⟩);refine⟨Gk,h1,(G.aO w x.2.1).aF h2,h3,h4,fun {G' w' h'} s g' u=>?_⟩;obtain⟨G1,a1,a2,a3,a4,a5⟩:=h5 s g' (λy hy=>u y (by simp[hy]));have M:(jG r h')[x.2.1]?=some none:=by rw[(nY r h' x.2.1).2 (λz hz e=>hn.1 z hz e)];exact u x (by simp)
 obtain⟨b1,b2⟩:=g.bF hx I a2 a1 M;refine⟨G1.aP x.2.1,?_,b2,?_,λn=>a4 n,λn=>a5 n⟩;·simp only[jG,hb];exact b1
 ·exact a3.aF ⟨Vg _,λ_ _ _ h=>h,λ_ _ h=>h,λt b h=>by cases t<;>exact h,λ_ _ _=>rfl,λ_ _=>rfl⟩
section
variable {P:Program} {n:Nat} {keep:Nat->Bool} {ops:List Oper} {r:DR} {L0:fY} {lo:Nat} {G0:Gh} {w0:World}
def EC (P:Program)(r:DR)(L0:fY)(lo:Nat)(d:DS)(o:DO):Prop:=
 ∃γ:fJ->AV,(∀j,r.aA o.i j=true->γ (.aA j)=lk j d.R)/\(∀t,γ (.aB t)=lk t L0)/\(∀v,γ (.aC v)=v) /\
 ((∃x want,o.aA=some (x,want)/\((γ x=.aD (!want))\/∃cs,γ x=.aI cs)/\lk o.i d.R=.aI []/\(o.op.aA=true->d.h[lo+o.nm]?=some none)) \/
  ((o.aA=none\/∃x want,o.aA=some (x,want)/\γ x=.aD want) /\
  ((∃agg nn x,o.op=.r (.aB agg nn x)/\gN lo r.k (γ x)=true/\gX d.h agg nn (γ x)=some (lk o.i d.R)/\(o.i,γ x,agg,nn,lk o.i d.R)∈d.aD) \/
  (∃ro,o.op=.r ro/\(∀h,gB γ h ro=some (lk o.i d.R))) \/
  (∃ho b,o.op=.h ho/\o.op.aA=true/\iW γ (lo+o.nm) ho=some (lk o.i d.R,b)/\d.h[lo+o.nm]?=some (some b)))))
structure HS (r:DR)(lo:Nat)(listed:Array Bool)(d:DS)(G:Gh)(hS:eZ):Prop where
 aB:hS.length=d.h.length
 aD:lo+r.k<=hS.length
 aC:∀m,(∀o∈r.aB,o.op.aA=true->listed.getD o.i false=false->m≠lo+o.nm)->hS[m]?=d.h[m]?
 aA:∀o∈r.aB,o.op.aA=true->listed.getD o.i false=false->hS[lo+o.nm]?=some none/\G.aA (lo+o.nm)=none/\¬G.aD (lo+o.nm)
abbrev Ed (r:DR)(lo:Nat)(listed:Array Bool)(pre:List DO)(h:eZ)(R:fY)(G:Gh)(x:Nat×Nat×fh):Prop:=
 ∃o∈pre,o.op.aA=true/\x.1=o.i/\x.2.1=lo+o.nm/\(∃sz es gr,x.2.2=.aA sz es gr) /\
 ((∀q∈pre,q.hv=true->listed.getD q.i false=true->r.aA q.i x.1=false)->h[x.2.1]?=some (some x.2.2)) /\
 (listed.getD o.i false=true->∃b,G.aA x.2.1=some b)/\lk x.1 R≠.aI []
structure J (P:Program)(n:Nat)(keep:Nat->Bool)(ops:List Oper)(r:DR)(L0:fY)(lo:Nat)(G0:Gh)(w0:World)(listed:Array Bool)(pre rest:List DO)(d:DS)(G:Gh)(w:World)(a:Act):Prop where
 aB:r.aB=pre++rest
 aC:listed.size=ops.length
 aJ:∀i j,listed.getD i false=true->r.aA i j=true->listed.getD j false=true
 aD:∀o∈rest,listed.getD o.i false=false
 L:d.L=L0
 A:∀(i:Nat)(op:Oper)(t:Tmp),listed.getD i false=true->ops[i]?=some op->op.dst=some t->V G w (lk i d.R) (a.tmps.getD t undef)
 B:∀t,keep t=true->(∀(i:Nat)(op:Oper),listed.getD i false=true->ops[i]?=some op->op.dst≠some t)->V G w (lk t L0) (a.tmps.getD t undef)
 aM:∀o∈pre,listed.getD o.i false=false->EC P r L0 lo d o
 aE:∃hS,fS G w hS/\HS r lo listed d G hS
 aI:(d.aB.map (·.2.1)).Nodup
 aA:∀x∈d.aB,Ed r lo listed pre d.h d.R G x
 aK:∀o∈pre,o.op.aA=true->(∃x∈d.aB,x.1=o.i)\/d.h[lo+o.nm]?=some none
 aG:∀o∈rest,o.op.aA=true->d.h[lo+o.nm]?=some none
 aL:a.tmps.size=n
 aN:a.defers=[]
 aF:gE G0 w0 G w
 lo:G0.N<=lo
theorem DF.aC (F:DF P n keep ops r):∀i j,r.aA i j=((jx ops []).getD i 0).testBit j:=λi j=>by simp only[DR.aA,F.aI]
theorem DF.aJ (F:DF P n keep ops r){i j k:Nat}(h1:r.aA i j=true)(h2:r.aA j k=true):r.aA i k=true:=by rw[F.aC]at *;exact Mn F.aD i j k h1 h2
theorem J.aT {b:Array Bool}{pre rest:List DO}{d:DS}{G:Gh}{w:World}{a:Act}(F:DF P n keep ops r)(j:J P n keep ops r L0 lo G0 w0 b pre rest d G w a){i:Nat}
  (hr:i∈Region.ready .any ops.toArray b):b.getD i false=false/\i<ops.length/\(∃op,ops[i]?=some op)/\∀q,r.aA i q=true->b.getD q false=true:=by
 rw[mem_ready]at hr;obtain⟨h0,o,ho,u⟩:=hr;have t:ops[i]?=some o:=by simpa using ho
 have hlt:i<ops.length:=(U_.1 t).1;refine⟨?_,hlt,⟨o,t⟩,λq hq=>?_⟩
 ·have:i<b.size:=by rw[j.aC];exact hlt
  simp[this]at h0 ⊢;exact h0
 ·rw[F.aC]at hq;obtain⟨e,hm,hb,h⟩:=Cr F.aD t hq;have he:=u e (by simpa using hm) hb;rcases h with h | h;·rw[<-h];exact he
  ·exact j.aJ _ _ he (by rw[F.aC];exact h)
theorem J.aU {b:Array Bool}{pre rest:List DO}{d:DS}{G:Gh}{w:World}{a:Act}(F:DF P n keep ops r)(j:J P n keep ops r L0 lo G0 w0 b pre rest d G w a){i:Nat}
  (hi:b.getD i false=false) (hd:∀q,r.aA i q=true->b.getD q false=true) {γ:fJ->AV}
  (h1:∀q,r.aA i q=true->γ (.aA q)=lk q d.R) (h2:∀t,γ (.aB t)=lk t L0) (h3:∀v,γ (.aC v)=v):lL G w (l9 keep ops r.aC i) γ a:=by
 intro x;cases x with
 | const v=>simp only[l9,h3];exact V.aZ G w v
 | global g=>simp only[l9,h3];exact .aP _
 | func f=>simp only[l9,h3];exact .aK f [] #[] [] #[] rfl (λj c v h=>by simp at h) rfl (λj c v h=>by simp at h)
 | tmp t=>
  have hw:=U7 t ops 0;simp only[l9];split at hw
  ·rename_i q hq;obtain⟨_,op,M,E⟩:=hw;simp only[Nat.sub_zero]at M;split;·rename_i hb;have O:r.aA i q=true:=hb;rw[h1 q O];exact j.A q op t (hd q O) M E
   ·split;·rename_i hb;simp only[VF]at hb;rw[h2];refine j.B t hb.2 (λp I hp u C=>?_);have:q=p:=F.aE q p op I t M u E C;subst this;have:=j.aJ q i hp hb.1;rw[hi]at this;cases this
    ·rw[h3];exact .aI _
  ·rename_i hq;split;·rename_i hk;rw[h2];exact j.B t hk (λp I _ u=>hw p I u)
   ·rw[h3];exact .aI _
theorem kv {b:Array Bool}{i q:Nat}(hi:i<b.size):(b.setIfInBounds i true).getD q false=(decide (q=i) || b.getD q false):=by
 by_cases h:q=i
 ·subst h;simp[hi]
 ·simp[h,WH (λe=>h e.symm)]
theorem J.aS {b:Array Bool}{pre rest:List DO}{d:DS}{G:Gh}{w:World}{a:Act}(j:J P n keep ops r L0 lo G0 w0 b pre rest d G w a){i:Nat}(hi:i<ops.length)
 (hd:∀q,r.aA i q=true->b.getD q false=true):∀x q,(b.setIfInBounds i true).getD x false=true->r.aA x q=true->(b.setIfInBounds i true).getD q false=true:=by
 have hs:i<b.size:=by rw[j.aC];exact hi
 intro x q hx t;rw[kv hs]at hx ⊢;simp only[WM,V4]at hx ⊢;rcases hx with rfl | hx;·exact .inr (hd q t)
 ·exact .inr (j.aJ x q hx t)
theorem J.AB (F:DF P n keep ops r){b:Array Bool}{pre rest:List DO}{d:DS}{G:Gh}{w:World}{a:Act}(j:J P n keep ops r L0 lo G0 w0 b pre rest d G w a){i:Nat}{op:Oper} (ho:ops[i]?=some op)
  {G':Gh} {w':World} (k:gU G w G' w') {R':fY} (hR:∀q,q≠i->b.getD q false=true->lk q R'=lk q d.R) {v:Value} (hv:V G' w' (lk i R') v):
  (∀(q:Nat)(C:Oper)(t:Tmp),(b.setIfInBounds i true).getD q false=true->ops[q]?=some C->C.dst=some t->V G' w' (lk q R') ((a.put op.dst v).tmps.getD t undef)) /\
  (∀t,keep t=true->(∀(q:Nat)(C:Oper),(b.setIfInBounds i true).getD q false=true->ops[q]?=some C->C.dst≠some t)->V G' w' (lk t L0) ((a.put op.dst v).tmps.getD t undef)) /\
  (a.put op.dst v).tmps.size=n/\(a.put op.dst v).defers=[]:=by
 have hlt:i<ops.length:=(U_.1 ho).1;have hs:i<b.size:=by rw[j.aC];exact hlt
 have I:∀t,(a.put op.dst v).tmps.getD t undef=if op.dst=some t then v else a.tmps.getD t undef:=by
  intro t;cases hd:op.dst with
  | none=>simp[Act.put]
  | some s=>
   have O:s<a.tmps.size:=by rw[j.aL];exact F.lt op (WQ ho) s hd
   simp only[Act.put];rw[sB O];by_cases e:t=s;·subst e;simp
   ·have:¬s=t:=λx=>e x.symm;simp[e,this]
 refine⟨λq C t hq u E=>?_,λt hk M=>?_,?_,?_⟩
 ·rw[I];by_cases e:q=i;·subst e;rw[ho]at u;cases u;rw[Vf E];exact hv
  ·rw[kv hs]at hq;simp only[e,decide_false,Bool.false_or]at hq;rw[Ve (λh=>e (F.aE q i C op t u ho E h)),hR q e hq];exact (j.A q C t hq u E).aA k
 ·rw[I,Ve (M i op (by rw[kv hs];simp) ho)];exact (j.B t hk (λq C hq u=>M q C (by rw[kv hs,hq];simp) u)).aA k
 ·cases hd:op.dst<;>simp[Act.put,j.aL]
 ·cases hd:op.dst<;>simp[Act.put,j.aN]
theorem J.aQ (F:DF P n keep ops r){b:Array Bool}{pre rest:List DO}{d:DS}{G:Gh}{w:World}{a:Act}(j:J P n keep ops r L0 lo G0 w0 b pre rest d G w a){o:DO}(ho:o∈pre)(hl:o.op.aA=true){m:Nat}(hm:m=lo+o.nm):m<G.N:=by obtain⟨hS,g,hs⟩:=j.aE;have:=mM F.aA o (by rw[j.aB];simp[ho]) hl;have:=hs.aD;rw[<-g.aA];omega
theorem J.aP (F : DF P n keep ops r) {t : Array Bool} {pre rest : List DO} {d : DS} {G : Gh} {w : World} {a : Act} (j : J P n keep ops r L0 lo G0 w0 t pre rest d G w a) {i : Nat} {op : Oper} (ho : ops[i]? = some op)
    (hd : ∀ q, r.aA i q = true -> t.getD q false = true) (u : ∀ o ∈ rest, o.i ≠ i)
    {G' : Gh} {w' : World} (k : gU G w G' w') {v : Value} (hv : V G' w' (lk i d.R) v) (M : gE G0 w0 G' w')
    (E : ∃ hS, fS G' w' hS /\ HS r lo (t.setIfInBounds i true) d G' hS) (hl : ∀ x ∈ d.aB, x.1 = i -> ∃ b, G'.aA x.2.1 = some b) :
    J P n keep ops r L0 lo G0 w0 (t.setIfInBounds i true) pre rest d G' w' (a.put op.dst v) := by
  have hlt : i < ops.length := (U_.1 ho).1;have hs : i < t.size := by rw [j.aC]; exact hlt
  obtain ⟨hA, hB, I, a0⟩ := j.AB F ho k (R' := d.R) (λ_ _ _ => rfl) hv;have sub : ∀ q, (t.setIfInBounds i true).getD q false = false -> t.getD q false = false := by intro q hq;rw [kv hs] at hq;simp only [WI] at hq;exact hq.2
  refine { aB := j.aB, aC := by simp [j.aC], aJ := j.aS hlt hd, aD := fun o h => ?_, L := j.L, A := hA, B := hB, aM := fun o h hq => j.aM o h (sub _ hq), aE := E, aI := j.aI,
           aA := λx h => ?_, aK := j.aK, aG := j.aG, aL := I, aN := a0, aF := M, lo := j.lo }
  · rw [kv hs, j.aD o h]; simp [u o h]
  · obtain ⟨o, h1, h2, h3, h4, h5, h6, h7⟩ := j.aA x h
    refine ⟨o, h1, h2, h3, h4, h5, λhq => h6 (λq W U O => hq q W U (by rw [kv hs, O]; simp)), λC => ?_, h7.2⟩;rw [kv hs] at C;simp only [WM, V4] at C;rcases C with e | C
    · exact hl x h (by rw [h3, e])
    · obtain ⟨b, hb⟩ := h7.1 C
      exact ⟨b, k.aA _ _ (j.aQ F h1 h2 h4) hb⟩
theorem C_ {dep:Nat->Nat->Bool}{k:Nat}:∀{l:List DO},o_ dep k l=true->∀o∈l,∀x∈l,(o.i=x.i->o=x)/\(o.op.aA=true->x.op.aA=true->o.nm=x.nm->o=x):=by
 intro l;induction l with
 | nil=>intro _ o h;simp at h
 | cons y r ih=>
 intro h o ho x hx;have t:=λz hz=>qU (pre:=[y]) (rest:=r) (by simpa using h) y (by simp) z hz;simp only[o_,VF]at h;rcases VR.1 ho with rfl | u<;>rcases VR.1 hx with rfl | b;·exact⟨λ_=>rfl,λ_ _ _=>rfl⟩
 ·obtain⟨a,_,_,d⟩:=t x b;exact⟨λe=>absurd e.symm a,λh1 h2 e=>absurd e.symm (d h1 h2)⟩
 ·obtain⟨a,_,_,d⟩:=t o u;exact⟨λe=>absurd e a,λh1 h2 e=>absurd e (d h2 h1)⟩
 ·exact ih h.2 o u x b
theorem Ln {tr:Operand->fJ}{o:Oper}{ro:mZ}(h:kJ P tr o=some (.r ro)):cR P tr o=some ro:=by
 unfold kJ at h;split at h;·rename_i q hq;cases h;exact hq
 ·split at h;·cases h
  ·split at h<;>cases h
theorem Fa {tr:Operand->fJ}{o:Oper}{ho:mU}(h:kJ P tr o=some (.h ho)):cH P tr o=some ho:=by
 unfold kJ at h;split at h;·cases h
 ·split at h;·rename_i q hq;cases h;exact hq
  ·split at h<;>cases h
theorem CA {G:Gh}{w:World}{a:Act}{ops:Array Oper}{o:Oper}{j:Nat}{want:Bool}{t:Tmp}{av:AV} (hv:V G w av (a.eval (.tmp t))) (hg:o.guard=some (j,want)) (ht:(ops[j]?).bind (·.dst)=some t):
  (∀b,av=.aD b->Region.wanted o (yielded ops a.tmps)=(b == want))/\(∀cs,av=.aI cs->Region.wanted o (yielded ops a.tmps)=false):=by
 have hy:yielded ops a.tmps j=match a.tmps[t]? with | some (.bool b)=>some b | _=>none:=by simp only[yielded,ht,Wp];rfl
 have hev:a.eval (.tmp t)=(a.tmps[t]?).getD undef:=by simp[Act.eval]
 rw[hev]at hv;constructor
 ·rintro b rfl;cases hq:a.tmps[t]? with
  | none=>rw[hq]at hv;cases hv
  | some v=>rw[hq]at hv;simp only[VG]at hv;cases hv;simp only[Region.wanted,hg,hy,hq];cases b<;>cases want<;>rfl
 ·rintro cs rfl;cases hq:a.tmps[t]? with
  | none=>simp[Region.wanted,hg,hy,hq]
  | some v=>rw[hq]at hv;simp only[VG]at hv;cases hv;simp[Region.wanted,hg,hy,hq]
theorem J.aX (F:DF P n keep ops r){C:Array Bool}{pre rest:List DO}{d:DS}{G:Gh}{w:World}{a:Act}(j:J P n keep ops r L0 lo G0 w0 C pre rest d G w a){o:DO}(ho:o∈pre)
  (hi:C.getD o.i false=false) (hd:∀q,r.aA o.i q=true->C.getD q false=true) {Q:Exit->Act->World->Prop} {K:Act->World->Prop}
  (hK:∀G' w' a',J P n keep ops r L0 lo G0 w0 (C.setIfInBounds o.i true) pre rest d G' w' a'->K a' w'):wpOp P ops.toArray Q o.i K a w:=by
 have U:o∈r.aB:=by rw[j.aB];simp[ho]
 obtain⟨hhv,op,ac,a5,M⟩:=F.aB o U;have hlt:o.i<ops.length:=(U_.1 ac).1;have ai:o.i<C.size:=by rw[j.aC];exact hlt
 obtain⟨γ,g1,g2,g3,ag⟩:=j.aM o ho hi;have E:=j.aU F hi hd g1 g2 g3;have O:∀x∈rest,x.i≠o.i:=λx hx=>(qU (by rw[<-j.aB];exact F.aA) o ho x hx).1;obtain⟨hS,gam,hs⟩:=j.aE;have same:∀o'∈r.aB,o'.i=o.i->o'=o:=λo' h' e=>(C_ F.aA o' h' o U).1 e;have ak:ops.toArray[o.i]?=some op:=by simpa using ac
 have ap:o.op.aA=false\/d.h[lo+o.nm]?=some none->HS r lo (C.setIfInBounds o.i true) d G hS:=by
  intro ae;have sub:∀q,(C.setIfInBounds o.i true).getD q false=false->C.getD q false=false/\q≠o.i:=by intro q hq;rw[kv ai]at hq;simp only[WI,Wv]at hq;exact⟨hq.2,hq.1⟩
  refine⟨hs.aB,hs.aD,λm hm=>?_,λo' h1 h2 h3=>hs.aA o' h1 h2 (sub _ h3).1⟩;by_cases e:o.op.aA=true/\m=lo+o.nm
  ·rcases ae with ae | ae;·rw[ae]at e;cases e.1
   ·rw[e.2,ae];exact (hs.aA o U e.1 hi).1
  ·refine hs.aC m (λo' h1 h2 h3=>?_);by_cases e':o'.i=o.i;·have:=same o' h1 e';subst this;exact λx=>e ⟨h2,x⟩
   ·exact hm o' h1 h2 (by rw[kv ai,h3];simp[e'])
 unfold wpOp;simp only[ak];have a0:∀x I,o.aA=some (x,I)->∃jj t,op.guard=some (jj,I)/\(ops.toArray[jj]?).bind (·.dst)=some t/\x=l9 keep ops r.aC o.i (.tmp t):=by
  intro x I hg;rw[hg]at M;unfold qC at M;split at M;·cases M
  ·rename_i jj want' a8;split at M;·rename_i t ht;cases M;exact⟨jj,t,a8,by simpa using ht,rfl⟩
   ·cases M
 rcases ag with⟨x,I,hg,hx,a9,ad⟩ | ⟨ax,ah⟩
 · -- it is passed over
  obtain⟨jj,t,a8,ht,rfl⟩:=a0 x I hg;obtain⟨s1,s2⟩:=CA (E (.tmp t)) a8 ht;have hw:Region.wanted op (yielded ops.toArray a.tmps)=false:=by
   rcases hx with hx | ⟨cs,hx⟩;·rw[s1 _ hx];cases I<;>rfl
   ·exact s2 cs hx
  rw[hw];simp only[VC,VO];refine hK G w _ (j.aP F ac hd O (gU.aI G w) (by rw[a9];exact .aM [] #[] rfl (λj c v h=>by simp at h)) j.aF ⟨hS,gam,ap ?_⟩ ?_)
  ·cases af:o.op.aA with
   | false=>exact .inl rfl
   | true=>exact .inr (ad af)
  ·intro y hy e;obtain⟨o',h1,h2,h3,h4,h5,h6,h7,h8⟩:=j.aA y hy;rw[e,a9]at h8;exact absurd rfl h8
 ·have hw:Region.wanted op (yielded ops.toArray a.tmps)=true:=by
   rcases ax with hg | ⟨x,I,hg,hx⟩
   ·rw[hg]at M;unfold qC at M;split at M;·rename_i a8;simp[Region.wanted,a8]
    ·split at M<;>cases M
   ·obtain⟨jj,t,a8,ht,rfl⟩:=a0 x I hg;rw[(CA (E (.tmp t)) a8 ht).1 _ hx];simp
  rw[hw];simp only[V3];left;have a6:∀ro,o.op=.r ro->gB γ hS ro=some (lk o.i d.R)->op.wp P a w K Q:=by intro ro a4 a7;rw[a4]at a5;obtain⟨u,hu,hV⟩:=Iu (P:=P) gam E (Ln a5) a7;unfold Oper.wp;rw[hu,Oper.upon_value];refine hK G w _ (j.aP F ac hd O (gU.aI G w) hV j.aF ⟨hS,gam,ap (.inl (by rw[a4];rfl))⟩ ?_);intro y hy e;obtain⟨o',h1,h2,h3,_⟩:=j.aA y hy;have:=same o' (by rw[j.aB];simp[h1]) (by rw[<-h3,e]);subst this;rw[a4]at h2;cases h2
  rcases ah with⟨agg,nn,x,a4,ab,aw,_⟩ | ⟨ro,a4,a7⟩ | ⟨ho',b,a4,af,W,an⟩
  ·refine a6 _ a4 ?_;simp only[gB];rw[<-aw];cases hγ:γ x with
   | aC m sz i' o'=>rw[hγ]at ab;simp only[gN,WM,V4]at ab;have hm:hS[m]?=d.h[m]?:=hs.aC m (λo' h1 h2 _ e=>by have:=mM F.aA o' h1 h2;omega);simp only[gX,hm]
   | _=>rfl
  ·exact a6 _ a4 (a7 hS)
  ·rw[a4]at a5;obtain⟨sz,es,gr,rfl⟩:=CK W;obtain⟨s,mkv,he,hm,cells,ty,u,aj,l1,l2,l3,l4,l5⟩:=Hj (P:=P) E (Fa a5) W;obtain⟨f1,f2,f3⟩:=hs.aA o U af hi;have hN:lo+o.nm<G.N:=j.aQ F ho af rfl;have kp:=gam.aY f2 f3 (.cells cells ty);have gp:=gam.bH hN f1 f2 f3 (cells:=cells) (ty:=ty) l1 l2 l3 l4;have ao:=l5 (G.aF (lo+o.nm) w.heap.size) (lo+o.nm) hN (by simp[Gh.aF]);rw[hm]at ao;unfold Oper.wp;rw[he];simp only[Sem.run_bind,aj,Result.andThen_ok,Sem.run_pure,Oper.upon_value];refine hK _ _ _ (j.aP F ac hd O kp ao (j.aF.aM gam (by have:=j.lo;omega) f2 f3 _ _) ⟨_,gp,?_⟩ ?_)
   ·have am:lo+o.nm<hS.length:=by rw[gam.aA];exact hN
    refine⟨by simp[hs.aB],by simpa using hs.aD,λm au=>?_,λo' h1 h2 h3=>?_⟩
    ·by_cases e:m=lo+o.nm
     ·subst e;rw[Vd am,an]
     ·rw[Vb (λx=>e x.symm)];refine hs.aC m (λo' h1 h2 h3=>?_);by_cases e':o'.i=o.i;·have:=same o' h1 e';subst this;exact e
      ·exact au o' h1 h2 (by rw[kv ai,h3];simp[e'])
    ·rw[kv ai]at h3;simp only[WI,Wv]at h3;have aq:lo+o'.nm≠lo+o.nm:=by intro e;have:=(C_ F.aA o' h1 o U).2 h2 af (by omega);exact h3.1 (by rw[this])
     obtain⟨a1,a2,a3⟩:=hs.aA o' h1 h2 h3.2;refine⟨by rw[Vb (λx=>aq x.symm)];exact a1,?_,a3⟩;simp only[Gh.aF,aq,VO];exact a2
   ·intro y hy e;obtain⟨o',h1,h2,h3,h4,_⟩:=j.aA y hy;have:=same o' (by rw[j.aB];simp[h1]) (by rw[<-h3,e]);subst this;exact⟨w.heap.size,by rw[h4];simp[Gh.aF]⟩
end
section
variable {P:Program} {n:Nat} {keep:Nat->Bool} {ops:List Oper} {r:DR} {L0:fY} {lo:Nat} {G0:Gh} {w0:World}
theorem o8 {i q:Nat}{v:AV}{R:fY}(h:q≠i):lk q ((i,v) :: R)=lk q R:=by simp only[lk];rw[Ve (λe=>h e.symm)]
theorem qS {i:Nat}{v:AV}{R:fY}:lk i ((i,v) :: R)=v:=by simp[lk]
theorem J.aO (F : DF P n keep ops r) {C : Array Bool} {pre rest : List DO} {d d' : DS} {o : DO} {G : Gh} {w : World} {a : Act} (j : J P n keep ops r L0 lo G0 w0 C pre (o :: rest) d G w a) {v : AV}
    (hL : d'.L = d.L) (hR : d'.R = (o.i, v) :: d.R) (W : d'.h.length = d.h.length) (hh : ∀ m, (o.op.aA = true -> m ≠ lo + o.nm) -> d'.h[m]? = d.h[m]?) (hp : ∀ p ∈ d.aD, p ∈ d'.aD)
    (hw : EC P r L0 lo d' o)
    (I : (d'.aB = d.aB /\ (o.op.aA = true -> d'.h[lo + o.nm]? = some none)) \/ (o.op.aA = true /\ v ≠ .aI [] /\ ∃ sz es gr, d'.aB = (o.i, lo + o.nm, .aA sz es gr) :: d.aB /\ d'.h[lo + o.nm]? = some (some (.aA sz es gr)))) :
    J P n keep ops r L0 lo G0 w0 C (pre ++ [o]) rest d' G w a := by
  have E : r.aB = (pre ++ [o]) ++ rest := by rw [j.aB]; simp
  have ho : o ∈ r.aB := by rw [j.aB]; simp
  have hi := j.aD o (by simp)
  have split := λx hx y hy => qU (pre := pre) (rest := o :: rest) (by rw [<- j.aB]; exact F.aA) x hx y hy
  have M : ∀ x ∈ pre, o.i ≠ x.i := λx hx => (split x hx o (by simp)).1
  have u : ∀ x ∈ pre, o.op.aA = true -> x.op.aA = true -> lo + x.nm ≠ lo + o.nm := λx hx h1 h2 e => (split x hx o (by simp)).2.2.2 h2 h1 (by omega)
  refine { aB := E, aC := j.aC, aJ := j.aJ, aD := fun x hx => j.aD x (by simp [hx]), L := by rw [hL, j.L], A := fun i op t h1 h2 h3 => ?_, B := j.B, aM := fun x hx O => ?_, aE := ?_,
           aI := ?_, aA := λx hx => ?_, aK := λx hx O => ?_, aG := λx hx O => ?_, aL := j.aL, aN := j.aN, aF := j.aF, lo := j.lo }
  · rw [hR, o8 (by rintro rfl; rw [hi] at h1; cases h1)]
    exact j.A i op t h1 h2 h3
  · rcases V7.1 hx with hx | hx
    · have a1 := M x hx
      have a3 : lk x.i d'.R = lk x.i d.R := by rw [hR, o8 (λe => a1 e.symm)]
      have a2 : r.aA x.i o.i = false := (split x hx o (by simp)).2.1
      obtain ⟨γ, g1, g2, g3, hc⟩ := j.aM x hx O
      refine ⟨γ, λq hq => ?_, g2, g3, ?_⟩
      · rw [hR, o8 (by rintro rfl; rw [a2] at hq; cases hq)]; exact g1 q hq
      · rw [a3]
        rcases hc with ⟨y, U, h1, h2, h3, h4⟩ | ⟨h1, h2⟩
        · exact .inl ⟨y, U, h1, h2, h3, λhl => by rw [hh _ (λh' => u x hx h' hl)]; exact h4 hl⟩
        · refine .inr ⟨h1, ?_⟩
          rcases h2 with ⟨agg, nn, y, e1, e2, e3, e4⟩ | ⟨ro, e1, e2⟩ | ⟨a0, b, e1, e2, e3, e4⟩
          · refine .inl ⟨agg, nn, y, e1, e2, ?_, hp _ e4⟩
            rw [<- e3]
            cases hγ : γ y with
            | aC m sz i' o' =>
              rw [hγ] at e2
              simp only [gN, WM, V4] at e2
              have : d'.h[m]? = d.h[m]? := hh m (λhl e => by have := mM F.aA o ho hl; omega)
              simp only [gX, this]
            | _ => rfl
          · exact .inr (.inl ⟨ro, e1, e2⟩)
          · exact .inr (.inr ⟨a0, b, e1, e2, e3, by rw [hh _ (λh' => u x hx h' e2)]; exact e4⟩)
    · have : x = o := by simpa using hx
      subst this; exact hw
  · obtain ⟨hS, g, hs⟩ := j.aE
    refine ⟨hS, g, by rw [W]; exact hs.aB, hs.aD, λm hm => ?_, hs.aA⟩
    rw [hs.aC m hm, hh m (λhl => hm o ho hl hi)]
  · rcases I with ⟨e, _⟩ | ⟨hl, _, sz, es, gr, e, _⟩
    · rw [e]; exact j.aI
    · rw [e]
      simp only [VS, Xn, Wl, not_exists, not_and]
      refine ⟨λx hx e' => ?_, j.aI⟩
      obtain ⟨q, q1, q2, q3, q4, _⟩ := j.aA x hx
      exact u q q1 hl q2 (by rw [<- q4, e'])
  · have old : ∀ x ∈ d.aB, Ed r lo C (pre ++ [o]) d'.h d'.R G x := by
      intro x hx
      obtain ⟨q, q1, q2, q3, q4, q5, q6, q7, q8⟩ := j.aA x hx
      refine ⟨q, by simp [q1], q2, q3, q4, q5, λhq => ?_, q7, ?_⟩
      · rw [hh _ (λhl e => u q q1 hl q2 (by rw [<- q4, e]))]
        exact q6 (λz hz => hq z (by simp [hz]))
      · rw [hR, q3, o8 (λe => M q q1 e.symm), <- q3]; exact q8
    rcases I with ⟨e, _⟩ | ⟨hl, hv, sz, es, gr, e, hb⟩
    · rw [e] at hx; exact old x hx
    · rw [e] at hx
      rcases VR.1 hx with rfl | hx
      · exact ⟨o, by simp, hl, rfl, rfl, ⟨sz, es, gr, rfl⟩, λ_ => hb, (λh => by rw [hi] at h; cases h), by rw [hR, qS]; exact hv⟩
      · exact old x hx
  · rcases V7.1 hx with hx | hx
    · rcases j.aK x hx O with ⟨y, hy, e⟩ | h
      · left
        rcases I with ⟨e', _⟩ | ⟨_, _, _, _, _, e', _⟩
        · exact ⟨y, by rw [e']; exact hy, e⟩
        · exact ⟨y, by rw [e']; simp [hy], e⟩
      · right; rw [hh _ (λhl => u x hx hl O)]; exact h
    · have : x = o := by simpa using hx
      subst this
      rcases I with ⟨_, h⟩ | ⟨_, _, sz, es, gr, e, _⟩
      · exact .inr (h O)
      · exact .inl ⟨(x.i, lo + x.nm, .aA sz es gr), by rw [e]; simp, rfl⟩
  · have := (qU (pre := pre ++ [o]) (rest := rest) (by rw [<- E]; exact F.aA) o (by simp) x hx).2.2.2
    rw [hh _ (λhl e => this hl O (by omega))]
    exact j.aG x (by simp [hx]) O
def rF (d:DS)(o:DO):Prop:=o.aA=none\/∃x want,o.aA=some (x,want)/\d.aA x=.aD want
theorem RB {γ:fJ->AV}{ro:mZ}{v:AV}(b:∀agg nn x,ro≠.aB agg nn x) (h:gB γ [] ro=some v):∀h',gB γ h' ro=some v:=by intro h';rw[<-h];cases ro<;>first | rfl | exact absurd rfl (b _ _ _)
theorem J.aR (F:DF P n keep ops r){K:DS->Prop}{listed:Array Bool}{G:Gh}{w:World}{a:Act}:∀(rest pre:List DO)(d:DS),J P n keep ops r L0 lo G0 w0 listed pre rest d G w a->gI P r.aA lo r.k rest d K->
  ∃pre' rest' d',J P n keep ops r L0 lo G0 w0 listed pre' rest' d' G w a /\
   ((rest'=[]/\K d')\/∃o q,rest'=o :: q/\o.hv=true/\rF d' o/\kE P r.aA lo r.k o d' λd''=>gI P r.aA lo r.k q d'' K):=by
 intro rest;induction rest with
 | nil=>intro pre d j h;exact⟨pre,[],d,j,.inl ⟨rfl,h⟩⟩
 | cons o rest ih=>
  intro pre d j h;have ho:o∈r.aB:=by rw[j.aB];simp
  have hL:∀t,d.aA (.aB t)=lk t L0:=λt=>by simp only[DS.aA,j.L]
  obtain⟨hhv,op,hop,hcop,hcg⟩:=F.aB o ho;have irr:∀{q v},r.aA o.i q=true->lk q ((o.i,v) :: d.R)=lk q d.R:=by intro q v hq;have:=Mm F.aD o.i q (by rw[<-F.aC];exact hq);exact o8 (by omega)
  have skip:∀x want,o.aA=some (x,want)->(d.aA x=.aD (!want)\/∃cs,d.aA x=.aI cs)->gI P r.aA lo r.k rest (d.aC o.i (.aI [])) K->
    ∃pre' rest' d',J P n keep ops r L0 lo G0 w0 listed pre' rest' d' G w a /\
    ((rest'=[]/\K d')\/∃o q,rest'=o :: q/\o.hv=true/\rF d' o/\kE P r.aA lo r.k o d' λd''=>gI P r.aA lo r.k q d'' K):=by
   intro x want hg hx hv;refine ih (pre++[o]) (d.aC o.i (.aI [])) (j.aO F (d':=d.aC o.i (.aI [])) (v:=.aI []) rfl rfl rfl (λ_ _=>rfl) (λ_ h=>h) ?_ (.inl ⟨rfl,λhl=>j.aG o (by simp) hl⟩)) hv;exact⟨d.aA,λq hq=>(irr hq).symm,hL,λ_=>rfl,.inl ⟨x,want,hg,hx,qS,λhl=>j.aG o (by simp) hl⟩⟩
  have go:rF d o->kE P r.aA lo r.k o d (λd''=>gI P r.aA lo r.k rest d'' K)->
    ∃pre' rest' d',J P n keep ops r L0 lo G0 w0 listed pre' rest' d' G w a /\
    ((rest'=[]/\K d')\/∃o q,rest'=o :: q/\o.hv=true/\rF d' o/\kE P r.aA lo r.k o d' λd''=>gI P r.aA lo r.k q d'' K):=by
   intro hgo hv;cases hh:o.hv with
   | true=>exact⟨pre,o :: rest,d,j,.inr ⟨o,rest,rfl,hh,hgo,hv⟩⟩
   | false=>
    have gd:o.aA=none\/∃x want,o.aA=some (x,want)/\d.aA x=.aD want:=hgo;simp only[kE,hh]at hv;split at hv
    ·rename_i agg nn x _ hop';split at hv
     ·rename_i u hu;obtain⟨hres,hv⟩:=hv;have hnl:o.op.aA=false:=by rw[hop'];rfl
      refine ih (pre++[o]) _ (j.aO F (d':={d.aC o.i u with aD:=(o.i,d.aA x,agg,nn,u) :: d.aD}) (v:=u) rfl rfl rfl (λ_ _=>rfl) (λp hp=>List.mem_cons_of_mem _ hp) ?_ (.inl ⟨rfl,λhl=>by rw[hnl]at hl;cases hl⟩)) hv;refine⟨d.aA,λq hq=>(irr hq).symm,hL,λ_=>rfl,.inr ⟨gd,.inl ⟨agg,nn,x,hop',hres,?_,?_⟩⟩⟩;·simp only[DS.aC,qS];exact hu
      ·simp only[DS.aC,qS];simp
     ·exact hv.elim
    ·rename_i ro hne _ hop';split at hv
     ·rename_i u hu;have hnl:o.op.aA=false:=by rw[hop'];rfl
      refine ih (pre++[o]) _ (j.aO F (d':=d.aC o.i u) (v:=u) rfl rfl rfl (λ_ _=>rfl) (λp hp=>hp) ?_ (.inl ⟨rfl,λhl=>by rw[hnl]at hl;cases hl⟩)) hv;refine⟨d.aA,λq hq=>(irr hq).symm,hL,λ_=>rfl,.inr ⟨gd,.inr (.inl ⟨ro,hop',?_⟩)⟩⟩;simp only[DS.aC,qS];exact RB (λagg nn x e=>hne agg nn x e) hu
     ·exact hv.elim
    ·rename_i ho' _ hop';split at hv
     ·rename_i u b hu;obtain⟨sz,es,gr,rfl⟩:=CK hu;have hlq:o.op.aA=true:=by rw[hop'];cases ho'<;>first | rfl | (simp[iW]at hu)
      have hlen:lo+o.nm<d.h.length:=by obtain⟨hS,g,hs⟩:=j.aE;have:=mM F.aA o ho hlq;have:=hs.aD;have:=hs.aB;omega
      have hne:u≠.aI []:=by rintro rfl;cases ho'<;>simp only[iW]at hu<;>(repeat' split at hu)<;>simp at hu
      refine ih (pre++[o]) _ (j.aO F (d':={d.aC o.i u with h:=d.h.set (lo+o.nm) (some (.aA sz es gr)),aB:=(o.i,lo+o.nm,.aA sz es gr) :: d.aB}) (v:=u) rfl rfl (by simp) (λm hm=>Vb (λe=>hm hlq e.symm)) (λp hp=>hp) ?_ (.inr ⟨hlq,hne,sz,es,gr,rfl,Vd hlen⟩)) hv;refine⟨d.aA,λq hq=>(irr hq).symm,hL,λ_=>rfl,.inr ⟨gd,.inr (.inr ⟨ho',.aA sz es gr,hop',hlq,?_,Vd hlen⟩)⟩⟩;simp only[DS.aC,qS];exact hu
     ·exact hv.elim
    all_goals first | exact hv.elim | contradiction
  simp only[gI]at h;split at h;·rename_i hg;exact go (.inl hg) h
  ·rename_i x want hg;split at h
   ·rename_i b hb;by_cases e:b=want;·subst e;exact go (.inr ⟨x,b,hg,hb⟩) (h.1 rfl)
    ·have e':b=(!want):=by cases b<;>cases want<;>simp_all
     subst e';exact skip x want hg (.inl hb) (h.2 rfl)
   ·rename_i cs hb;exact skip x want hg (.inr ⟨cs,hb⟩) h
   ·exact h.elim
end
theorem Hz {α β:Type}(f:α->β)(p:α->Bool):∀(l:List α),(l.map f).Nodup->((l.filter p).map f).Nodup:=by
 intro l;induction l with
 | nil=>intro h;exact h
 | cons x r ih=>
 intro h;simp only[VS,Xn]at h;simp only[List.filter_cons];split;·simp only[VS,Xn];exact⟨λhm=>h.1 (by obtain⟨y,hy,e⟩:=Wl.1 hm;exact Wl.2 ⟨y,(Xm.1 hy).1,e⟩),ih h.2⟩
 ·exact ih h.2
theorem Nl {α β:Type}(f:α->β):∀(l:List α),(l.map f).Nodup->∀x∈l,∀y∈l,f x=f y->x=y:=by
 intro l;induction l with
 | nil=>intro _ x h;simp at h
 | cons z r ih=>
 intro h x hx y hy e;simp only[VS,Xn,Wl,not_exists,not_and]at h;rcases VR.1 hx with rfl | t<;>rcases VR.1 hy with rfl | b;·rfl
 ·exact absurd e.symm (h.1 y b)
 ·exact absurd e (h.1 x t)
 ·exact ih h.2 x t y b e
theorem Kz {dep:Nat->Nat->Bool}{i:Nat}{h:eZ}:∀{l:List (Nat×AV×Bool×Nat×AV)},oN dep i h l->∀p∈l,dep i p.1=true\/gX h p.2.2.1 p.2.2.2.1 p.2.1=some p.2.2.2.2:=by
 intro l;induction l with
 | nil=>intro _ p hp;simp at hp
 | cons x r ih=>
 intro h p hp;rcases VR.1 hp with rfl | hp;·exact h.1
 ·exact ih h.2 p hp
section
variable {P:Program} {n:Nat} {keep:Nat->Bool} {ops:List Oper} {r:DR} {L0:fY} {lo:Nat} {G0:Gh} {w0:World}
def iX (r:DR)(d:DS)(o:DO):List (Nat×Nat×fh):=d.aB.filter λx=>!r.aA o.i x.1
theorem J.aY (F : DF P n keep ops r) {t : Array Bool} {pre rest : List DO} {d : DS} {G : Gh} {w : World} {a : Act} {o : DO} (j : J P n keep ops r L0 lo G0 w0 t pre (o :: rest) d G w a) (hv : o.hv = true)
    (hd : ∀ q, r.aA o.i q = true -> t.getD q false = true) {op : Oper} (bc : ops[o.i]? = some op) :
    ∃ Gk, fS Gk w (jK (iX r d o) d.h) /\ gU G w Gk w /\
      ∀ {G' w' h' v u} {next : DS -> Prop}, gE Gk w G' w' -> fS G' w' h' -> V G' w' v u -> tj r.aA lo r.k o.i d (iX r d o) v h' next ->
        ∃ an, J P n keep ops r L0 lo G0 w0 (t.setIfInBounds o.i true) (pre ++ [o]) rest { d.aC o.i v with h := jG (iX r d o) h' } an w' (a.put op.dst u) /\
          next { d.aC o.i v with h := jG (iX r d o) h' } := by
  have a0 : r.aB = (pre ++ [o]) ++ rest := by rw [j.aB]; simp
  have ho : o ∈ r.aB := by rw [j.aB]; simp
  have hi := j.aD o (by simp);have hlt : o.i < ops.length := (U_.1 bc).1;have ak : o.i < t.size := by rw [j.aC]; exact hlt
  have split := λx hx y hy => qU (pre := pre) (rest := o :: rest) (by rw [<- j.aB]; exact F.aA) x hx y hy;have bo : o.op.aA = false := by
    have := (F.aB o ho).1;rw [hv] at this;cases h : o.op with
    | r ro => rfl
    | h ho => rw [h] at this; simpa [i_.aD] using this.symm
    | aB f az => rfl
    | aC x az => rfl
  have M : ∀ x ∈ pre, x ∈ r.aB := λx hx => by rw [j.aB]; simp [hx]
  have inj := λx hx y hy => C_ F.aA x hx y hy;obtain ⟨hS, gam, hs⟩ := j.aE;have ah : ∀ x ∈ iX r d o, d.h[x.2.1]? = some (some x.2.2) := by
    intro x hx;obtain ⟨a7, a6⟩ := Xm.1 hx;obtain ⟨q, q1, q2, q3, q4, q5, q6, q7, q8⟩ := j.aA x a7;refine q6 (λz hz bj hzl => ?_);cases bt : r.aA z.i x.1 with
    | false => rfl
    | true =>have := F.aJ ((split z hz o (by simp)).2.2.1 bj) bt;rw [this] at a6; simp at a6
  generalize hE : (iX r d o).filter (λx => t.getD x.1 false) = E;have O : ∀ x, x ∈ E ↔ x ∈ iX r d o /\ t.getD x.1 false = true := by intro x; rw [<- hE, Xm]
  have I : ∀ x, x ∈ iX r d o ↔ x ∈ d.aB /\ r.aA o.i x.1 = false := by intro x; simp [iX]
  have a9 : ((iX r d o).map (·.2.1)).Nodup := Hz _ _ _ j.aI;have ae : (E.map (·.2.1)).Nodup := by rw [<- hE]; exact Hz _ _ _ a9
  have bi : ∀ x ∈ d.aB, t.getD x.1 false = true -> hS[x.2.1]? = d.h[x.2.1]? := by intro x hx C;obtain ⟨q, q1, q2, q3, q4, _⟩ := j.aA x hx;refine hs.aC _ (λo' h1 h2 h3 e => ?_);have := (inj o' h1 q (M q q1)).2 h2 q2 (by omega);subst this;rw [q3, h3] at C; cases C
  obtain ⟨Gk, gk, kk, bf, bd, back⟩ := KP E gam ae (λx hx => by obtain ⟨a7, a6⟩ := (O x).1 hx;obtain ⟨ap, ba⟩ := (I x).1 a7;obtain ⟨q, q1, q2, q3, q4, q5, q6, q7, q8⟩ := j.aA x ap;exact ⟨by rw [bi x ap a6]; exact ah x a7, q5, q7 (by rw [<- q3]; exact a6)⟩);have bs : jK E hS = jK (iX r d o) d.h := by
    apply VT;intro m;have lE := (pR E hS m).1;have lX := (pR (iX r d o) d.h m).1;rcases Wc m hS.length with hm | hm;rotate_left
    · rw [VJ (by omega), VJ (by rw [lX, <- hs.aB]; exact hm)]
    have bq : m < d.h.length := by rw [<- hs.aB]; exact hm
    by_cases hx : ∃ x ∈ iX r d o, x.2.1 = m
    · rw [(pR (iX r d o) d.h m).2.1 hx bq]
      obtain ⟨x, a7, a6⟩ := hx;by_cases C : t.getD x.1 false = true
      · exact (pR E hS m).2.1 ⟨x, (O x).2 ⟨a7, C⟩, a6⟩ hm
      · rw [(pR E hS m).2.2 (λy hy e => by have b9 := (O y).1 hy;have := Nl (·.2.1) _ a9 y b9.1 x a7 (by simp only [e, a6]);subst this; exact C b9.2)]
        obtain ⟨q, q1, q2, q3, q4, _⟩ := j.aA x ((I x).1 a7).1;rw [<- a6, q4];exact (hs.aA q (M q q1) q2 (by rw [<- q3]; simpa using C)).1
    · have U : ∀ x ∈ iX r d o, x.2.1 ≠ m := λx h1 h2 => hx ⟨x, h1, h2⟩
      rw [(pR (iX r d o) d.h m).2.2 U, (pR E hS m).2.2 (λy hy => U y ((O y).1 hy).1)];by_cases hu : ∃ o' ∈ r.aB, o'.op.aA = true /\ t.getD o'.i false = false /\ m = lo + o'.nm
      · obtain ⟨o', h1, h2, h3, rfl⟩ := hu
        rw [(hs.aA o' h1 h2 h3).1];rw [j.aB] at h1;rcases V7.1 h1 with h1 | h1
        · rcases j.aK o' h1 h2 with ⟨y, hy, e⟩ | h
          · exfalso
            obtain ⟨q, q1, q2, q3, q4, _⟩ := j.aA y hy;have : q = o' := (inj q (M q q1) o' (M o' h1)).1 (by rw [<- q3, e]);subst this;refine U y ((I y).2 ⟨hy, ?_⟩) q4;cases bu : r.aA o.i y.1 with
            | false => rfl
            | true => have := hd _ bu; rw [e, h3] at this; cases this
          · exact h.symm
        · exact (j.aG o' h1 h2).symm
      · exact hs.aC m (λo' h1 h2 h3 e => hu ⟨o', h1, h2, h3, e⟩)
  rw [bs] at gk;refine ⟨Gk, gk, kk, fun {G' w' h' v u next} st g' bm hb => ?_⟩;obtain ⟨am, bw, aj⟩ := hb;have af : Gk.N = d.h.length := by rw [<- gk.aA, (pR (iX r d o) d.h 0).1]
  have len' : d.h.length <= h'.length := by rw [g'.aA, <- af]; exact st.aA.N
  have lok : lo + r.k <= d.h.length := by rw [<- hs.aB]; exact hs.aD
  have free : ∀ q, q < r.k -> (∃ x ∈ d.aB, r.aA o.i x.1 = true /\ x.2.1 = lo + q) \/ h'[lo + q]? = some none := by
    intro q hq;have := Ww.1 am q (by simpa using hq);simp only [WM, Xh, VF, beq_iff_eq] at this;rcases this with h | h
    · exact .inl h
    · right
      unfold kK at h;split at h
      · assumption
      · cases h
  have a1 : ∀ x ∈ r.aB, x.op.aA = true -> r.aA o.i x.i = false -> h'[lo + x.nm]? = some none := by
    intro x hx C bl;rcases free x.nm (mM F.aA x hx C) with ⟨y, hy, ao, e⟩ | h
    · obtain ⟨q, q1, q2, q3, q4, _⟩ := j.aA y hy
      have := (inj q (M q q1) x hx).2 q2 C (by omega);subst this;rw [q3, bl] at ao; cases ao
    · exact h
  obtain ⟨an, bx, ad, bh, bg, be⟩ := back st g' (λx hx => by obtain ⟨a7, a6⟩ := (O x).1 hx;obtain ⟨ap, ba⟩ := (I x).1 a7;obtain ⟨q, q1, q2, q3, q4, _⟩ := j.aA x ap;rw [q4]; exact a1 q (M q q1) q2 (by rw [<- q3]; exact ba));have a2 : ∀ x ∈ r.aB, x.op.aA = true -> (∀ y ∈ d.aB, y.1 ≠ x.i) -> ∀ y ∈ iX r d o, y.2.1 ≠ lo + x.nm := by intro x hx C a8 y hy e;obtain ⟨a5, _⟩ := (I y).1 hy;obtain ⟨q, q1, q2, q3, q4, _⟩ := j.aA y a5;have := (inj q (M q q1) x hx).2 q2 C (by omega);subst this;exact a8 y a5 q3
  have W : ∀ x ∈ iX r d o, (jG (iX r d o) h')[x.2.1]? = some (some x.2.2) := λx hx => IE _ h' a9 x hx (by obtain ⟨q, q1, q2, q3, q4, _⟩ := j.aA x ((I x).1 hx).1;have := mM F.aA q (M q q1) q2;omega);have a3 : gU G w an w' := ad.aA;have ax : V an w' v u := bm.aA bh;obtain ⟨hA, hB, bn, bv⟩ := j.AB F bc a3 (R' := (o.i, v) :: d.R) (λq hq _ => o8 hq) (by rw [qS]; exact ax);have b0 : ∀ q, (t.setIfInBounds o.i true).getD q false = false -> t.getD q false = false /\ q ≠ o.i := by intro q hq;rw [kv ak] at hq;simp only [WI, Wv] at hq;exact ⟨hq.2, hq.1⟩
  refine ⟨an, { aB := a0, aC := by simp [j.aC], aJ := j.aS hlt hd, aD := fun x hx => ?_, L := j.L, A := hA, B := hB, aM := fun x hx C => ?_, aE := ⟨_, bx, ?_⟩, aI := j.aI, aA := fun x hx => ?_,
                 aK := λx hx C => ?_, aG := λx hx C => ?_, aL := bn, aN := bv, aF := j.aF.aI ad, lo := j.lo }, aj⟩
  · rw [kv ak, j.aD x (by simp [hx])]
    have := (qU (pre := pre ++ [o]) (rest := rest) (by rw [<- a0]; exact F.aA) o (by simp) x hx).1;simp [this]
  · obtain ⟨ai, aw⟩ := b0 _ C
    have U : x ∈ pre := by
      rcases V7.1 hx with h | h
      · exact h
      · have : x = o := by simpa using h
        subst this; exact absurd rfl aw
    have br : lk x.i ((o.i, v) :: d.R) = lk x.i d.R := o8 aw;have bp : r.aA x.i o.i = false := (split x U o (by simp)).2.1;have a4 : r.aA o.i x.i = false := by
      cases h : r.aA o.i x.i with
      | false => rfl
      | true => have := hd _ h; rw [ai] at this; cases this
    obtain ⟨γ, g1, g2, g3, hc⟩ := j.aM x U ai;refine ⟨γ, λq hq => ?_, g2, g3, ?_⟩
    · show γ (.aA q) = lk q ((o.i, v) :: d.R)
      rw [o8 (by rintro rfl; rw [bp] at hq; cases hq)]; exact g1 q hq
    · simp only [DS.aC]
      rw [br];rcases hc with ⟨y, aq, h1, h2, h3, h4⟩ | ⟨h1, h2⟩
      · refine .inl ⟨y, aq, h1, h2, h3, λhl => ?_⟩
        have a8 : ∀ y ∈ d.aB, y.1 ≠ x.i := by intro y hy e;obtain ⟨q, q1, q2, q3, q4, q5, q6, q7, q8⟩ := j.aA y hy;rw [e, h3] at q8; exact q8 rfl
        rw [(nY (iX r d o) h' _).2 (a2 x (M x U) hl a8)];exact a1 x (M x U) hl a4
      · refine .inr ⟨h1, ?_⟩
        rcases h2 with ⟨agg, nn, y, e1, e2, e3, e4⟩ | ⟨ro, e1, e2⟩ | ⟨ay, b, e1, e2, e3, e4⟩
        · refine .inl ⟨agg, nn, y, e1, e2, ?_, e4⟩
          have := Kz bw _ e4;simp only at this;rcases this with h | h
          · rw [a4] at h; cases h
          · exact h
        · exact .inr (.inl ⟨ro, e1, e2⟩)
        · refine .inr (.inr ⟨ay, b, e1, e2, e3, ?_⟩)
          rcases j.aK x U e2 with ⟨y, hy, e⟩ | h
          · have b7 : y ∈ iX r d o := (I y).2 ⟨hy, by rw [e]; exact a4⟩
            have k1 := ah y b7;have k2 := W y b7;obtain ⟨q, q1, q2, q3, q4, _⟩ := j.aA y hy;have : q = x := (inj q (M q q1) x (M x U)).1 (by rw [<- q3, e]);subst this;rw [q4] at k1 k2;rw [e4] at k1;rw [k2, <- k1]
          · rw [h] at e4; cases e4
  · have ag := (nY E h' 0).1
    have au := (nY (iX r d o) h' 0).1;refine ⟨by simp only [DS.aC]; rw [ag, au], by rw [ag]; omega, λm hm => ?_, λx hx C bk => ?_⟩
    · simp only [DS.aC]
      by_cases ac : ∃ x ∈ iX r d o, x.2.1 = m
      · obtain ⟨x, hx, e⟩ := ac
        subst e;by_cases C : t.getD x.1 false = true
        · rw [W x hx]
          refine IE _ h' ae x ((O x).2 ⟨hx, C⟩) ?_;obtain ⟨q, q1, q2, q3, q4, _⟩ := j.aA x ((I x).1 hx).1;have := mM F.aA q (M q q1) q2;omega
        · obtain ⟨q, q1, q2, q3, q4, _⟩ := j.aA x ((I x).1 hx).1
          exfalso;refine hm q (M q q1) q2 ?_ q4;rw [kv ak, <- q3];have : x.1 ≠ o.i := by rw [q3]; exact λe => (split q q1 o (by simp)).1 e.symm
          simp [this]; simpa using C
      · have U : ∀ x ∈ iX r d o, x.2.1 ≠ m := λx h1 h2 => ac ⟨x, h1, h2⟩
        rw [(nY (iX r d o) h' m).2 U, (nY E h' m).2 (λx hx => U x ((O x).1 hx).1)]
    · obtain ⟨ab, aw⟩ := b0 _ bk
      have a4 : r.aA o.i x.i = false := by
        cases h : r.aA o.i x.i with
        | false => rfl
        | true => have := hd _ h; rw [ab] at this; cases this
      obtain ⟨f1, f2, f3⟩ := hs.aA x hx C ab;have hN : lo + x.nm < Gk.N := by have := mM F.aA x hx C; rw [af]; omega
      refine ⟨?_, ?_, ?_⟩
      · rw [(nY E h' _).2 (λy hy e => ?_)]
        · exact a1 x hx C a4
        · obtain ⟨a5, b8⟩ := (O y).1 hy
          obtain ⟨q, q1, q2, q3, q4, _⟩ := j.aA y ((I y).1 a5).1;have := (inj q (M q q1) x hx).2 q2 C (by omega);subst this;rw [q3, ab] at b8; cases b8
      · rw [bg, st.aE _ hN, bf]; exact f2
      · rw [be, st.aJ _ hN, bd]; exact f3
  · obtain ⟨q, q1, q2, q3, q4, q5, q6, q7, q8⟩ := j.aA x hx
    have bb : q.i ≠ o.i := λe => (split q q1 o (by simp)).1 e.symm;refine ⟨q, by simp [q1], q2, q3, q4, q5, λhq => ?_, λhl => ?_, ?_⟩
    · have := hq o (by simp) hv (by rw [kv ak]; simp)
      exact W x ((I x).2 ⟨hx, this⟩)
    · rw [kv ak] at hl
      simp only [bb, decide_false, Bool.false_or] at hl;obtain ⟨b, hb⟩ := q7 hl;exact ⟨b, a3.aA _ _ (j.aQ F q1 q2 q4) hb⟩
    · show lk x.1 ((o.i, v) :: d.R) ≠ .aI []
      rw [o8 (by rw [q3]; exact bb)]; exact q8
  · have U : x ∈ pre := by
      rcases V7.1 hx with h | h
      · exact h
      · have : x = o := by simpa using h
        subst this; rw [bo] at C; cases C
    by_cases hy : ∃ y ∈ d.aB, y.1 = x.i
    · exact .inl hy
    · right
      have a8 : ∀ y ∈ d.aB, y.1 ≠ x.i := λy h1 h2 => hy ⟨y, h1, h2⟩;simp only [DS.aC];rw [(nY (iX r d o) h' _).2 (a2 x (M x U) C a8)];rcases free x.nm (mM F.aA x (M x U) C) with ⟨y, a5, ao, e⟩ | h
      · obtain ⟨q, q1, q2, q3, q4, _⟩ := j.aA y a5
        have := (inj q (M q q1) x (M x U)).2 q2 C (by omega);subst this;exact absurd q3 (a8 y a5)
      · exact h
  · have ac : x ∈ r.aB := by rw [a0]; simp [hx]
    have a8 : ∀ y ∈ d.aB, y.1 ≠ x.i := by intro y hy e;obtain ⟨q, q1, q2, q3, q4, _⟩ := j.aA y hy;exact (split q q1 x (by simp [hx])).1 (by rw [<- q3, e])
    simp only [DS.aC];rw [(nY (iX r d o) h' _).2 (a2 x ac C a8)];rcases free x.nm (mM F.aA x ac C) with ⟨y, a5, ao, e⟩ | h
    · obtain ⟨q, q1, q2, q3, q4, _⟩ := j.aA y a5
      have := (inj q (M q q1) x ac).2 q2 C (by omega);subst this;exact absurd q3 (a8 y a5)
    · exact h
end
theorem Nq (R:fY)(s:Nat):∀(l:List (Nat×Nat)) (L:fY),(∃i,(s,i)∈l/\lk s (ng R l L)=lk i R)\/((∀i,(s,i)∉l)/\lk s (ng R l L)=lk s L):=by
 intro l;induction l with
 | nil=>intro L;exact .inr ⟨λi h=>by simp at h,rfl⟩
 | cons x r ih=>
  intro L;obtain⟨t,i⟩:=x;simp only[ng];rcases ih (lG t (lk i R) L) with⟨q,h1,h2⟩ | ⟨h1,h2⟩;·exact .inl ⟨q,by simp[h1],h2⟩
  ·rw[h2,fi];by_cases e:s=t;·subst e;left;exact⟨i,by simp,by simp⟩
   ·right;refine⟨λq hq=>?_,by simp[e]⟩;rcases VR.1 hq with hq | hq;·cases hq;exact e rfl
    ·exact h1 q hq
theorem GQ {keep:Nat->Bool}:∀(ops:List Oper)(k:Nat)(t i:Nat),(t,i)∈ni keep ops k↔k<=i/\keep t=true/\∃o,ops[i-k]?=some o/\o.dst=some t:=by
 intro ops;induction ops with
 | nil=>intro k t i;simp[ni]
 | cons x r ih=>
  intro k t i;have step:(t,i)∈ni keep r (k+1)↔k+1<=i/\keep t=true/\∃o,(x :: r)[i-k]?=some o/\o.dst=some t:=by
   rw[ih];constructor;·rintro⟨h1,h2,o,h3,h4⟩;exact⟨h1,h2,o,by rw[show i-k=(i-(k+1))+1 by omega];simpa using h3,h4⟩
   ·rintro⟨h1,h2,o,h3,h4⟩;rw[show i-k=(i-(k+1))+1 by omega]at h3;exact⟨h1,h2,o,by simpa using h3,h4⟩
  have b:(t,i)∈ni keep r (k+1)->k<=i/\keep t=true/\∃o,(x :: r)[i-k]?=some o/\o.dst=some t:=λh=>by obtain⟨h1,h2⟩:=step.1 h;exact⟨by omega,h2⟩
  have low:(k<=i/\keep t=true/\∃o,(x :: r)[i-k]?=some o/\o.dst=some t)->(i=k/\keep t=true/\x.dst=some t)\/(t,i)∈ni keep r (k+1):=by
   rintro⟨h1,h2,o,h3,h4⟩;by_cases e:i=k;·subst e;simp at h3;subst h3;exact .inl ⟨rfl,h2,h4⟩
   ·exact .inr (step.2 ⟨by omega,h2,o,h3,h4⟩)
  simp only[ni];cases hd:x.dst with
  | none=>
   simp only;exact⟨b,λh=>by
    rcases low h with⟨_,_,h⟩ | h;·rw[hd]at h;cases h
    ·exact h⟩
  | some s=>
   simp only;split
   ·rename_i hk;constructor
    ·intro h;rcases VR.1 h with h | h;·cases h;exact⟨Vg _,hk,x,by simp,hd⟩
     ·exact b h
    ·intro h;rcases low h with⟨e1,_,e2⟩ | h;·rw[hd]at e2;cases e2;subst e1;simp
     ·simp[h]
   ·rename_i hk;exact⟨b,λh=>by
     rcases low h with⟨_,e,e2⟩ | h;·rw[hd]at e2;cases e2;exact absurd e hk
     ·exact h⟩
section
variable {P:Program} {n:Nat} {keep:Nat->Bool} {ops:List Oper} {r:DR} {L0:fY} {lo:Nat} {G0:Gh} {w0:World}
theorem Lk {tr:Operand->fJ}{o:Oper}{f:FuncId}{args:List fJ}(h:kJ P tr o=some (.aB f args)):
  ∃az b,o.op=.call {callee:=.value (.func f),args:=az,argTypes:=b}/\args=az.toList.map tr:=by
 unfold kJ at h;split at h;·cases h
 ·split at h;·cases h
  ·split at h;·rename_i t;cases h;exact⟨_,_,t,rfl⟩
   ·cases h
   ·cases h
theorem Ll {tr:Operand->fJ}{o:Oper}{x:fJ}{args:List fJ}(h:kJ P tr o=some (.aC x args)):
  ∃y az b,o.op=.call {callee:=.value y,args:=az,argTypes:=b}/\x=tr y/\args=az.toList.map tr:=by
 unfold kJ at h;split at h;·cases h
 ·split at h;·cases h
  ·split at h;·cases h
   ·rename_i t;cases h;exact⟨_,_,_,t,rfl,rfl⟩
   ·cases h
theorem J.aW (F:DF P n keep ops r){b:Array Bool}{pre rest:List DO}{d:DS}{G:Gh}{w:World}{a:Act}{o:DO}(j:J P n keep ops r L0 lo G0 w0 b pre (o :: rest) d G w a)(hv:o.hv=true)
  (hd:∀q,r.aA o.i q=true->b.getD q false=true) (a2:rF d o) {K:DS->Prop} (E:kE P r.aA lo r.k o d K) {Q:Exit->Act->World->Prop} {next:Act->World->Prop}
  (hK:∀d' G' w' a',J P n keep ops r L0 lo G0 w0 (b.setIfInBounds o.i true) (pre++[o]) rest d' G' w' a'->K d'->next a' w'):wpOp P ops.toArray Q o.i next a w:=by
 have ho:o∈r.aB:=by rw[j.aB];simp
 have hi:=j.aD o (by simp);obtain⟨hhv,op,a8,I,M⟩:=F.aB o ho;obtain⟨Gk,gk,kk,fin⟩:=j.aY F hv hd a8;have a1:lL G w (l9 keep ops r.aC o.i) d.aA a:=j.aU F hi hd (λ_ _=>rfl) (λt=>by simp only[DS.aA,j.L]) (λ_=>rfl);have a3:lL Gk w (l9 keep ops r.aC o.i) d.aA a:=λx=>(a1 x).aA kk;have a7:ops.toArray[o.i]?=some op:=by simpa using a8
 have hw:Region.wanted op (yielded ops.toArray a.tmps)=true:=by
  rcases a2 with hg | ⟨x,want,hg,hx⟩
  ·rw[hg]at M;unfold qC at M;split at M;·rename_i a2;simp[Region.wanted,a2]
   ·split at M<;>cases M
  ·rw[hg]at M;unfold qC at M;split at M;·cases M
   ·rename_i jj want' a2;split at M;·rename_i t ht;cases M;rw[(CA (a1 (.tmp t)) a2 (by simpa using ht)).1 _ hx];simp
    ·cases M
 unfold wpOp;simp only[a7];rw[hw];simp only[V3];left;simp only[kE,hv]at E;split at E;·contradiction
 ·contradiction
 ·contradiction
 · -- a store,an append
  rename_i ho' _ U;split at E
  ·rename_i v h' hh;rw[U]at I;obtain⟨nx,u,w',G',hu,ac,hg,hV,O⟩:=G6 (P:=P) gk a3 (Fa I) hh;obtain⟨a9,jj,hk⟩:=fin O hg hV E;unfold Oper.wp;rw[hu];rcases ac with rfl | ⟨rfl,rfl⟩;·exact hK _ _ _ _ jj hk
   ·exact hK _ _ _ _ jj hk
  ·exact E.elim
 · -- a call
  rename_i f args _ U;obtain⟨hf,E⟩:=E;rw[U]at I;obtain⟨az,ab,W,rfl⟩:=Lk I;have a0:(execOp a.eval op).run P w=.ok (.enter f (az.map a.eval)) w:=by obtain⟨dst,a4,type,pos,after,guard⟩:=op;have C:a4=_:=W;subst C;simp only[execOp,resolve,Act.eval,Deferred.ofValue,Sem.run_bind,Sem.run_pure,Result.andThen_ok,invoke];rw[ta hf];simp
  unfold Oper.wp;rw[a0,Oper.upon_enter];refine (E Gk w (az.map a.eval) gk ⟨by simp,λq c v hc a6=>?_⟩).mono ?_;·exact VL.aA a3 az.toList q c v (by simpa using hc) (by simpa using a6)
  ·rintro e w' ⟨v,rr,h',G',rfl,hb,hg,hV,O⟩;obtain⟨a9,jj,hk⟩:=fin O hg hV hb;exact hK _ _ _ _ jj hk
 · -- a call of a value
  rename_i x args _ U;split at E
  ·rename_i f fs cs hx;obtain⟨hf,E⟩:=E;rw[U]at I;obtain⟨y,az,ab,W,rfl,rfl⟩:=Ll I;have a5:=a3 y;rw[hx]at a5;generalize hvq:a.eval y=fv at a5;cases a5 with
   | aK _ _ us _ vs hlu hUs hl hVs=>
   have a0:(execOp a.eval op).run P w=.ok (.enter f (us++az.map a.eval++vs)) w:=by obtain⟨dst,a4,type,pos,after,guard⟩:=op;have C:a4=_:=W;subst C;simp only[execOp,resolve,hvq,Deferred.ofValue,Sem.run_bind,Sem.run_pure,Result.andThen_ok,invoke];rw[ta hf]
   unfold Oper.wp;rw[a0,Oper.upon_enter];refine (E Gk w (us++az.map a.eval++vs) gk (VL.aD (VL.aD ⟨hlu,hUs⟩ ⟨by simp,λq c v hc a6=>VL.aA a3 az.toList q c v (by simpa using hc) (by simpa using a6)⟩) ⟨hl,hVs⟩)).mono ?_;·rintro e w' ⟨v,rr,h',G',rfl,hb,hg,hV,O⟩;obtain⟨a9,jj,hk⟩:=fin O hg hV hb;exact hK _ _ _ _ jj hk
  ·exact E.elim
 ·exact E.elim
theorem J.aV (F:DF P n keep ops r){b:Array Bool}{pre rest:List DO}{d:DS}{G:Gh}{w:World}{a:Act}(j:J P n keep ops r L0 lo G0 w0 b pre rest d G w a)
  (hr:Region.ready .any ops.toArray b=[]):∀i,i<ops.length->b.getD i false=true:=by
 intro i;induction i using Nat.strongRecOn with
 | _ i ih=>
  intro hi;cases hl:b.getD i false with
  | true=>rfl
  | false=>
   have hs:i<b.size:=by rw[j.aC];exact hi
   have:i∈Region.ready .any ops.toArray b:=by rw[mem_ready];refine⟨by simp[hs]at hl ⊢;exact hl,ops[i],by simp[hi],λe he hb=>?_⟩;have:=F.aD i ops[i] (by simp[hi]) e (by simpa using he) hb;exact ih e.on this (by omega)
   rw[hr]at this;cases this
theorem MG (F:DF P n keep ops r){K:DS->Prop}{Q:Exit->Act->World->Prop}
  (hQ:∀d G w a,J P n keep ops r L0 lo G0 w0 (Array.replicate ops.length true) r.aB [] d G w a->K d->Q .normal a w):
  ∀(fuel:Nat){listed:Array Bool}{pre rest:List DO}{d:DS}{G:Gh}{w:World}{a:Act},J P n keep ops r L0 lo G0 w0 listed pre rest d G w a->gI P r.aA lo r.k rest d K->
   ((List.range ops.length).filter λi=>!listed.getD i false).length<=fuel->wpAny P .any ops.toArray Q fuel listed a w:=by
 have last:∀{listed:Array Bool}{pre rest:List DO}{d:DS}{G:Gh}{w:World}{a:Act},J P n keep ops r L0 lo G0 w0 listed pre rest d G w a->
   ((rest=[]/\K d)\/∃o q,rest=o :: q/\o.hv=true/\rF d o/\kE P r.aA lo r.k o d λd''=>gI P r.aA lo r.k q d'' K)->(∀i,i<ops.length->listed.getD i false=true)->Q .normal a w:=by
  intro listed pre rest d G w a j hc hall;have hli:listed=Array.replicate ops.length true:=by
   apply Array.ext;·simp[j.aC]
   ·intro i h1 h2;have:=hall i (by rw[<-j.aC];exact h1);simp[h1]at this;simp[this]
  rcases hc with⟨rfl,hk⟩ | ⟨o,q,rfl,hv,_⟩
  ·have hp:pre=r.aB:=by rw[j.aB];simp
   subst hp;subst hli;exact hQ d G w a j hk
  ·have h1:=j.aD o (by simp);obtain⟨_,op,hop,_⟩:=F.aB o (by rw[j.aB];simp);rw[hall o.i (U_.1 hop).1]at h1;cases h1
 intro fuel;induction fuel with
 | zero=>
  intro listed pre rest d G w a j hvc hle;obtain⟨pre',rest',d',j',hc⟩:=j.aR F rest pre d hvc;have hall:∀i,i<ops.length->listed.getD i false=true:=by
   intro i hi;have hnil:=Vl (Nat.le_zero.1 hle);cases hl:listed.getD i false with
   | true=>rfl
   | false=>
    have:i∈(List.range ops.length).filter λi=>!listed.getD i false:=by simp[Xm,hi];simpa using hl
    rw[hnil]at this;cases this
  refine⟨?_,last j' hc hall⟩;apply List.eq_nil_iff_forall_not_mem.2;intro i hi;obtain⟨h1,h2,_⟩:=j'.aT F hi;rw[hall i h2]at h1;cases h1
 | succ fuel ih=>
  intro listed pre rest d G w a j hvc hle;obtain⟨pre',rest',d',j',hc⟩:=j.aR F rest pre d hvc;refine⟨λhr=>last j' hc (j'.aV F hr),λi hi=>?_⟩;obtain⟨h1,h2,⟨op,hop⟩,h4⟩:=j'.aT F hi;have hls:i<listed.size:=by rw[j.aC];exact h2
  have hfu:((List.range ops.length).filter λq=>!(listed.setIfInBounds i true).getD q false).length<=fuel:=by
   have e:((List.range ops.length).filter λq=>!(listed.setIfInBounds i true).getD q false)=((List.range ops.length).filter λq=>!listed.getD q false).filter λq=>!decide (q=i):=by rw[List.filter_filter];apply List.filter_congr;intro q _;rw[kv hls];cases decide (q=i)<;>cases listed.getD q false<;>rfl
   rw[e];have hm:i∈(List.range ops.length).filter λq=>!listed.getD q false:=by simp[Xm,h2];simpa using h1
   have:(((List.range ops.length).filter λq=>!listed.getD q false).filter λq=>!decide (q=i)).length<((List.range ops.length).filter λq=>!listed.getD q false).length:=by refine List.length_filter_lt_length_iff_exists.2 ⟨i,hm,by simp⟩
   omega
  obtain⟨o,ho,rfl⟩:=F.aF i h2;rw[j'.aB]at ho;rcases V7.1 ho with ho | ho
  ·refine j'.aX F ho h1 h4 (λG' w' a' jj=>?_);rcases hc with⟨e1,hk⟩ | ⟨o',q,e1,hv,hgo,hvd⟩;·exact ih jj (by rw[e1];exact hk) hfu
   ·refine ih jj ?_ hfu;rw[e1];simp only[gI];rcases hgo with hg | ⟨x,want,hg,hx⟩;·rw[hg];exact hvd
    ·rw[hg];simp only[hx];exact⟨λ_=>hvd,λe=>by cases want<;>simp at e⟩
  ·rcases hc with⟨e1,hk⟩ | ⟨o',q,e1,hv,hgo,hvd⟩;·rw[e1]at ho;cases ho
   ·subst e1;rcases VR.1 ho with rfl | ho;·exact j'.aW F hv h4 hgo hvd (λd' G' w' a' jj hk=>ih jj hk hfu)
    ·exfalso;have hsp:=qU (pre:=pre'++[o']) (rest:=q) (by rw[VX,List.singleton_append,<-j'.aB];exact F.aA) o' (by simp) o ho;have:=h4 o'.i (hsp.2.2.1 hv);rw[j'.aD o' (by simp)]at this;cases this
end
inductive AX where
 | aA
 | aC (id:Nat)
 | aB
inductive AC where
 | aJ
 | aC (ops:List AO)
 | aK (r:DR)
 | aB (a b:AC)
 | aE (c:fJ) (a b:AC)
 | aD (id:Nat) (b:AC)
 | aF (b:AC)
 | aM (id:Nat)
 | aI
 | aL
section
variable {n:Nat} {keep:Nat->Bool} {G0:Gh} {w0:World} {P:Program}
def Wk (st st':St):Prop:=∀(n:Nat)(keep:Nat->Bool)(G0:Gh)(w0:World)(G:Gh)(w:World)(a:Act),SR n keep G0 w0 G w st a->∃G',SR n keep G0 w0 G' w st' a
theorem Wk.aA (st:St):Wk st st:=λ_ _ _ _ G _ _ h=>⟨G,h⟩
def vc (P:Program):AC->St->(AX->St->Prop)->Prop
 | .aJ,st,K=>K .aA st
 | .aC ops,st,K=>gP P ops st λst'=>K .aA {st' with R:=[]}
 | .aK r,st,K=>Dz P r st λst'=>K .aA st'
 | .aB a b,st,K=>vc P a st λx st'=>match x with
  | .aA=>vc P b st' K
  | .aC id=>K (.aC id) st'
  | .aB=>K .aB st'
 | .aE c a b,st,K=>match st.aA c with
  | .aD t=>(t=true->vc P a st K)/\(t=false->vc P b st K)
  | _=>False
 | .aD id b,st,K=>vc P b st λx st'=>match x with
  | .aA=>K .aA st'
  | .aC id'=>if id'=id then K .aA st' else K (.aC id') st'
  | .aB=>K .aB st'
 | .aF b,st,K=>∃I:Nat->St->Prop,(∃m s0,Wk st s0/\I m s0)/\∀m s,I m s->vc P b s λx s'=>match x with
  | .aA=>∃m' s0,m'<m/\Wk s' s0/\I m' s0
  | .aC id=>K (.aC id) s'
  | .aB=>K .aB s'
 | .aM id,st,K=>K (.aC id) st
 | .aI,st,K=>K .aB st
 | .aL,_,_=>False
def cC (P:Program)(n:Nat)(keep:Nat->Bool):Code->Option AC
 | .skip=>some .aJ
 | .region _ ops draw=>if draw then (if P.follows .mixedOrders then (ud P n keep ops.toList).map .aK else none) else (pI P n keep ops ops.toList).map .aC
 | .seq a b=>match cC P n keep a,cC P n keep b with
  | some x,some y=>some (.aB x y)
  | _,_=>none
 | .cond c a b=>match cC P n keep a,cC P n keep b with
  | some x,some y=>some (.aE (cd keep c) x y)
  | _,_=>none
 | .block id b=>(cC P n keep b).map (.aD id)
 | .loop b=>(cC P n keep b).map .aF
 | .exit id=>some (.aM id)
 | .ret=>some .aI
 | .scope b=>cC P n keep b
 | .label _=>some .aJ
 | _=>some .aL
def yB (n:Nat)(keep:Nat->Bool)(G0:Gh)(w0:World)(K:AX->St->Prop):Exit->Act->World->Prop
 | .normal,a,w=>∃G st,SR n keep G0 w0 G w st a/\K .aA st
 | .exit id,a,w=>∃G st,SR n keep G0 w0 G w st a/\K (.aC id) st
 | .ret,a,w=>∃G st,SR n keep G0 w0 G w st a/\K .aB st
 | _,_,_=>False
theorem SR.aI {G w st a}(sr:SR n keep G0 w0 G w st a):SR n keep G0 w0 G w {st with R:=[]} a:=
 ⟨sr.aA,sr.aD,sr.aB,sr.L,λ_ _=>.aI _,sr.aC⟩
variable {F:Fence} {m:Nat}
structure qk (F:Fence):Prop where
 fn:∀f,F.fn f
 aB:F.depth=none
 aA:∀{n:Nat}{P:Program}{f:FuncId}{args:Array Value}{w:World}{R:Ending->World->Prop},Calls P f args w R->CallsIn F n P f args w R
 aC:∀{n:Nat}{P:Program}{row:String}{args:Array Value}{w:World}{R:Value->World->Prop},Rows P row args w R->RowsIn F n P row args w R
theorem Iw {n:Nat}{P:Program}{row:String}{args:Array Value}{w:World}{R:Value->World->Prop}(h:Rows P row args w R):RowsIn Fence.wide n P row args w R:=
 λc cs _=>let⟨v,w',r,s⟩:=h c cs;⟨v,w',r,stepsIn_wide.2 s⟩
theorem sO:qk Fence.wide:=⟨λ_=>Vp,rfl,λh=>callsIn_wide.2 h,λh=>Iw h⟩
theorem HH (l:Nat):qk (Fence.wide.inRound l):=⟨λ_=>Vp,rfl,fun {n}{_}{_}{_}{_}{_} h=>(callsIn_wide (n:=n)).2 h,fun {n}{_}{_}{_}{_}{_} h=>Iw (n:=n) h⟩
def wd (a:Act)(ds:List Deferred):Act:={a with defers:=ds}
theorem pj {a:Act} (h:a.defers=[]):wd a []=a:=by cases a;cases h;rfl
theorem qW (a:Act)(ds:List Deferred):(wd a ds).eval=a.eval:=by funext x;cases x<;>rfl
theorem mS (a:Act)(ds:List Deferred)(d:Option Tmp)(v:Value):(wd a ds).put d v=wd (a.put d v) ds:=by cases d<;>rfl
theorem IV (a:Act)(ds:List Deferred):(wd a ds).tmps=a.tmps:=rfl
theorem n9 {ro:Option Nat}{ρ:Operand->Value}{o:Oper}{w w':World}{nx:Next}(hu:(execOp ρ o).run P w=.ok nx w')(b:∀d,nx≠.defer d):(o.semAt ro ρ).run P w=.ok nx w':=by
 by_cases h:∃c,o.op=.defer c
 ·obtain⟨c,hc⟩:=h;exfalso;unfold execOp at hu;rw[hc]at hu;simp only[Sem.run_bind,Sem.run_pure]at hu;cases hr:(resolve ρ c o.type).run P w with
  | ok d w1=>rw[hr]at hu;simp only[Result.andThen_ok]at hu;cases hu;exact b d rfl
  | halt x w1=>rw[hr]at hu;cases hu
 ·rw[Oper.semAt_eq ro ρ o (λc hc=>h ⟨c,hc⟩)];exact hu
theorem Uv {G w st a}(hF:qk F)(ds:List Deferred)(sr:SR n keep G0 w0 G w st a){o:Oper}{ao:i_}{d:ju}(hop:kJ P (cd keep) o=some ao)(hd:qB n keep o.dst=some d){gd:Option (fJ×Bool)}
  {k:St->Prop} (hk:l_ P ⟨d,ao,gd⟩ st k) {next:Act->World->Prop} {Q:Exit->Act->World->Prop}
  (hn:∀G' w' st' a',SR n keep G0 w0 G' w' st' a'->k st'->next (wd a' ds) w'):o.wpIn F m P (wd a ds) w next Q:=by
 refine⟨λf _=>hF.fn f,?_⟩;rw[qW];unfold kJ at hop;split at hop
 ·rename_i ro hro;cases hop;simp only[l_]at hk;split at hk
  ·rename_i v hv;obtain⟨u,hu,hV⟩:=Iu (P:=P) sr.aA sr.aE hro hv;rw[n9 hu (by simp),Oper.uponIn_value,mS];have e:({st.aB d v with h:=st.h}:St)=st.aB d v:=by cases d<;>rfl
   have:=sr.aF hd sr.aA (gE.aC G w) hV;rw[e]at this;exact hn G w _ _ this hk
  ·exact hk.elim
 ·split at hop
  ·rename_i ho hho;cases hop;simp only[l_]at hk;split at hk
   ·rename_i v h' hv;obtain⟨nx,u,w',G',hu,hnx,hg,hV,hst⟩:=G6 (P:=P) sr.aA sr.aE hho hv;rcases hnx with rfl | ⟨rfl,rfl⟩;·rw[n9 hu (by simp),Oper.uponIn_value,mS];exact hn G' w' _ _ (sr.aF hd hg hst hV) hk
    ·rw[n9 hu (by simp),Oper.uponIn_skip,mS];exact hn G' w' _ _ (sr.aF hd hg hst hV) hk
   ·exact hk.elim
  ·split at hop
   ·rename_i f args tys hcall;cases hop;simp only[l_]at hk;obtain⟨hf,hk⟩:=hk;have hrun:(execOp a.eval o).run P w=.ok (.enter f (args.map a.eval)) w:=by obtain⟨dst,op,type,pos,after,guard⟩:=o;have hcall':op=_:=hcall;subst hcall';simp only[execOp,resolve,Act.eval,Deferred.ofValue,Sem.run_bind,Sem.run_pure,Result.andThen_ok,invoke];rw[ta hf];simp
    rw[n9 hrun (by simp),Oper.uponIn_enter];refine⟨λh=>(by rw[hF.aB]at h;cases h),hF.aA ((hk G w (args.map a.eval) sr.aA ⟨by simp,λj c v hc hv=>?_⟩).mono ?_)⟩;·exact VL.aA sr.aE args.toList j c v (by simpa using hc) (by simpa using hv)
    ·rintro e w' ⟨v,r,h',G',rfl,hK,hg,hV,hst⟩;show next ((wd a ds).put o.dst v) w';rw[mS];exact hn G' w' _ _ (sr.aF hd hg hst hV) hK
   ·rename_i x args tys hne hcall;cases hop;simp only[l_]at hk;split at hk
    ·rename_i f fs cs hx;obtain⟨hf,hk⟩:=hk;have hxv:=sr.aE x;rw[hx]at hxv;generalize hv:a.eval x=fv at hxv;cases hxv with
     | aK _ _ us _ vs hlu hUs hl hVs=>
     have hrun:(execOp a.eval o).run P w=.ok (.enter f (us++args.map a.eval++vs)) w:=by obtain⟨dst,op,type,pos,after,guard⟩:=o;have hcall':op=_:=hcall;subst hcall';simp only[execOp,resolve,hv,Deferred.ofValue,Sem.run_bind,Sem.run_pure,Result.andThen_ok,invoke];rw[ta hf]
     rw[n9 hrun (by simp),Oper.uponIn_enter];refine⟨λh=>(by rw[hF.aB]at h;cases h),hF.aA ((hk G w (us++args.map a.eval++vs) sr.aA (VL.aD (VL.aD ⟨hlu,hUs⟩ ⟨by simp,λj c v hc hv'=>VL.aA sr.aE args.toList j c v (by simpa using hc) (by simpa using hv')⟩) ⟨hl,hVs⟩)).mono ?_)⟩;·rintro e w' ⟨v,r,h',G',rfl,hK,hg,hV,hst⟩;show next ((wd a ds).put o.dst v) w';rw[mS];exact hn G' w' _ _ (sr.aF hd hg hst hV) hK
    ·exact hk.elim
   ·cases hop
theorem xO (hF:qk F)(ds:List Deferred){ops:Array Oper}{Q:Exit->Act->World->Prop}{k:St->Prop}{r:List Oper}
  (hn:∀G' w' E a',SR n keep G0 w0 G' w' E a'->k E->wpListIn F m P ops Q r (wd a' ds) w'):
  ∀(l:List Oper)(al:List AO){G w st a},SR n keep G0 w0 G w st a->pI P n keep ops l=some al->gP P al st k->wpListIn F m P ops Q (l++r) (wd a ds) w:=by
 intro l;induction l with
 | nil=>intro al G w st a sr hc hk;simp only[pI,Vk]at hc;subst hc;exact hn G w st a sr hk
 | cons o l ih=>
  intro al G w st a sr hc hk;simp only[pI]at hc;split at hc
  ·rename_i x O hx hl;cases hc;simp only[wP]at hx;split at hx
   ·rename_i d op gd hd W u;cases hx;simp only[gP]at hk;rw[List.cons_append];unfold wpListIn;rw[IV];have I:l_ P ⟨d,op,gd⟩ st (λE=>gP P O E k)->o.wpIn F m P (wd a ds) w (wpListIn F m P ops Q (l++r)) Q:=
     λh=>Uv hF ds sr W hd h λG' w' E a' U a0=>ih O U hl a0
    have skip:gP P O (st.aB d (.aI [])) k->(∀f,o.about P w (wd a ds).eval=some f->F.fn f)/\wpListIn F m P ops Q (l++r) ((wd a ds).put o.dst undef) w:=
     λh=>⟨λf _=>hF.fn f,by rw[mS];exact ih O (sr.aJ hd) hl h⟩
    cases M:o.guard with
    | none=>rw[M]at u;simp only[y4,Vk]at u;subst u;rw[Vf (by simp[Region.wanted,M])];exact I hk
    | some jw=>
     obtain⟨j,C⟩:=jw;rw[M]at u;simp only[y4]at u;split at u
     ·rename_i t ht;cases u;obtain⟨g1,g2⟩:=Ox sr M ht;simp only at hk;split at hk
      ·rename_i b hb;rw[g1 b hb];by_cases e:b=C;·subst e;simp only[BEq.rfl,V3];exact I (hk.1 rfl)
       ·have:(b == C)=false:=by simpa using e
        simp only[this,VC,VO];exact skip (hk.2 (by cases b<;>cases C<;>simp_all))
      ·rename_i cs hb;rw[g2 cs hb];simp only[VC,VO];exact skip hk
      ·exact hk.elim
     ·cases u
   ·cases hx
  ·cases hc
section
variable {md:Region.Mode} {ops:Array Oper} {Q Q':Exit->Act->World->Prop}
theorem KH (hq:∀a w,Q .normal a w->a.defers=[]) (hp:∀c a w,¬Q (.panic c) a w) (ho:∀a w,¬Q .outgrown a w):∀(t:Nat)(b:Array Bool)(a:Act)(w:World),wpAny P md ops Q t b a w->a.defers=[]:=by
 have hl:¬LetsOut Q:=λ⟨a,w,h⟩=>ho a w h;have pd:∀(a:Act)(d:Option Tmp)(v:Value),(a.put d v).defers=a.defers:=λa d v=>by cases d<;>rfl
 intro t;induction t with
 | zero=>intro b a w h;exact hq a w h.2
 | succ t ih=>
  intro b a w h;obtain⟨h1,h2⟩:=h;cases hr:Region.ready md ops b with
  | nil=>exact hq a w (h1 hr)
  | cons i r=>
   have h:=h2 i (by rw[hr];simp);unfold wpOp at h;split at h;·exact ih _ a w h
   ·rename_i o _;split at h
    ·rcases h with h | ⟨_,h⟩
     ·unfold Oper.wp Oper.upon at h;split at h;·have:=ih _ _ _ h;rwa [pd]at this
      ·have:=ih _ _ _ h;rwa [pd]at this
      ·have:=ih _ _ _ h;rw[pd]at this;simp at this
      ·obtain⟨e,w',fr,h,_⟩:=h [];cases e with
       | returned v=>have:=ih _ _ _ h;rwa [pd]at this
       | panicked c=>exact (hp _ _ _ h).elim
       | outgrown=>exact (hl h).elim
      ·obtain⟨v,w',h,_⟩:=h default [];have:=ih _ _ _ h;rwa [pd]at this
      ·exact (hp _ _ _ h).elim
      ·exact h.elim
     ·exact (hl h).elim
    ·have:=ih _ _ _ h;rwa [pd]at this
theorem KI (hF:qk F)(ds:List Deferred) (hq:∀a w,Q .normal a w->a.defers=[]) (hp:∀c a w,¬Q (.panic c) a w) (ho:∀a w,¬Q .outgrown a w)
  (hn:∀a w,Q .normal a w->Q' .normal (wd a ds) w):∀(t:Nat)(b:Array Bool)(a:Act)(w:World),wpAny P md ops Q t b a w->wpAnyIn F m P md ops Q' t b (wd a ds) w:=by
 have hl:¬LetsOut Q:=λ⟨a,w,h⟩=>ho a w h
 have hd:¬(F.depth.isSome=true):=λh=>(by rw[hF.aB]at h;cases h)
 intro t
 induction t with
 | zero=>intro b a w h;exact⟨h.1,hn a w h.2⟩
 | succ t ih=>
  intro b a w h
  refine⟨λhr=>hn a w (h.1 hr),λi hi=>?_⟩
  have h:=h.2 i hi
  unfold wpOp at h
  unfold wpOpIn
  split at h
  ·rename_i he
   simp only[he]
   exact ih _ a w h
  ·rename_i o he
   simp only[he]
   rw[IV]
   split at h
   ·rename_i hw
    rw[Vf hw]
    rcases h with h | ⟨_,h⟩
    ·refine⟨λf _=>hF.fn f,?_⟩
     rw[qW]
     unfold Oper.wp Oper.upon at h
     split at h<;>rename_i u<;>try exact h.elim
     ·rw[n9 u (by simp),Oper.uponIn_value,mS];exact ih _ _ _ h
     ·rw[n9 u (by simp),Oper.uponIn_skip,mS];exact ih _ _ _ h
     ·have:=KH hq hp ho _ _ _ _ h
      exfalso
      revert this
      cases o.dst<;>simp[Act.put]
     ·rw[n9 u (by simp),Oper.uponIn_enter]
      refine⟨λh=>(hd h).elim,hF.aA (Calls.mono h ?_)⟩
      rintro (v | c | _) w' hk
      ·simp only at hk ⊢;rw[mS];exact ih _ _ _ hk
      ·exact (hp _ _ _ hk).elim
      ·exact (hl hk).elim
     ·rw[n9 u (by simp),Oper.uponIn_row]
      refine⟨λh=>(hd h).elim,hF.aC (Rows.mono h ?_)⟩
      intro v w' hk
      rw[mS];exact ih _ _ _ hk
     ·exact (hp _ _ _ h).elim
    ·exact (hl h).elim
   ·rename_i hw
    rw[Ve hw]
    exact⟨λf _=>hF.fn f,by rw[mS];exact ih _ _ _ h⟩
end
theorem MI {r : DR} {b : Array Oper} (hc : ud P n keep b.toList = some r) {G : Gh} {w : World} {st : St} {a : Act} (sr : SR n keep G0 w0 G w st a) {K : St -> Prop}
    (hk : Dz P r st K) {Q : Exit -> Act -> World -> Prop} (hQ : ∀ G' w' M a', SR n keep G0 w0 G' w' M a' -> K M -> Q .normal a' w') : wpAny P .any b Q b.size (Array.replicate b.size false) a w.drew := by
  have F := Lj hc;have hs : b.toList.length = b.size := by simp
  have U : wpAny P .any b.toList.toArray Q b.toList.length (Array.replicate b.toList.length false) a w.drew := by
    have gd : fS G w.drew st.h := sr.aA.aT rfl;have kd : gU G w G w.drew := gU.aG rfl;obtain ⟨gr, O⟩ := gd.bN r.k;have u : ∀ i, (Array.replicate b.toList.length false).getD i false = false := by intro i; by_cases h : i < b.toList.length <;> simp at h <;> simp [h]
    refine MG F (L0 := st.L) (lo := st.h.length) (G0 := G0) (w0 := w0) (K := λd => K ⟨ng d.R r.aD st.L, [], d.h⟩) ?_ b.toList.length (pre := []) (rest := r.aB) (d := ⟨st.L, [], st.h ++ List.replicate r.k none, [], []⟩) (G := G.aM r.k) ?_ hk ?_
    · intro d G' w' a' j hK
      obtain ⟨hS, g, a0⟩ := j.aE;have E : ∀ i, i < b.toList.length -> (Array.replicate b.toList.length true).getD i false = true := by intro i hi; simp at hi; simp [hi]
      have a2 : hS = d.h := by apply VT;intro m;refine a0.aC m (λo ho _ hl => ?_);obtain ⟨_, op, I, _⟩ := F.aB o ho;rw [E _ (U_.1 I).1] at hl; cases hl
      subst a2;refine hQ G' w' _ a' ⟨g, j.aL, j.aN, λs W => ?_, λs _ => .aI _, j.aF⟩ hK;have hf := F.aG;rcases Nq d.R s r.aD st.L with ⟨i, h1, h2⟩ | ⟨h1, h2⟩
      · simp only; rw [h2]
        rw [hf] at h1;obtain ⟨_, _, o, ho, C⟩ := (GQ _ 0 s i).1 h1;simp only [Nat.sub_zero] at ho;exact j.A i o s (E i (U_.1 ho).1) ho C
      · simp only; rw [h2]
        refine j.B s W (λi op hi I C => h1 i ?_);rw [hf];exact (GQ _ 0 s i).2 ⟨VP _, W, op, by simpa using I, C⟩
    · have kG : gU G w (G.aM r.k) w.drew := kd.aF O.aA
      refine { aB := rfl, aC := by simp, aJ := (fun i q h => by rw [u] at h; cases h), aD := (fun o _ => u _), L := rfl, A := (fun i op t h => by rw [u] at h; cases h),
               B := (λt a1 _ => (sr.L t a1).aA kG), aM := (λo ho => by simp at ho), aE := ⟨_, gr, rfl, by simp, (λ_ _ => rfl), (λo ho hl _ => ?_)⟩, aI := List.nodup_nil, aA := (λx hx => by simp at hx),
               aK := (λo ho => by simp at ho), aG := (λo ho hl => ?_), aL := sr.aD, aN := sr.aB, aF := (sr.aC.aI (gE.aK G w _)).aI O, lo := ?_ }
      · have hlt := mM F.aA o ho hl
        refine ⟨?_, ?_, ?_⟩
        · rw [VQ (by omega), WE, Vf (by omega)]
        · simp only [Gh.aM]; rw [Ve (by rw [<- sr.aA.aA]; omega)]
        · simp only [Gh.aM]; rw [<- sr.aA.aA]; omega
      · have hlt := mM F.aA o ho hl
        simp only;rw [VQ (by omega), WE, Vf (by omega)]
      · have := sr.aC.aA.N; rw [sr.aA.aA]; exact this
    · refine Vr (We _ _) (by simp)
  have e2 : b.toList.toArray = b := by simp
  rw [e2, hs] at U;exact U
theorem MH (hF:qk F)(ds:List Deferred)(hm:P.follows .mixedOrders=true){u:Array Oper}{id:Nat}{r:DR}(hc:ud P n keep u.toList=some r)
 {G:Gh} {w:World} {st:St} {a:Act} (sr:SR n keep G0 w0 G w st a) {K:St->Prop} (hk:Dz P r st K) {Q':Exit->Act->World->Prop}
 (hQ:∀G' w' b a',SR n keep G0 w0 G' w' b a'->K b->Q' .normal (wd a' ds) w'):(Code.region id u true).wpIn F m P Q' (wd a ds) w:=by
 refine wpIn_region_any hm (KI hF ds (Q:=λe a' w'=>e=.normal/\∃G' b,SR n keep G0 w0 G' w' b a'/\K b) ?_ ?_ ?_ ?_ _ _ _ _ (MI hc sr hk ?_));·rintro a w ⟨_,G',b,t,_⟩;exact t.aB
 ·rintro c a w ⟨h,_⟩;cases h
 ·rintro a w ⟨h,_⟩;cases h
 ·rintro a w ⟨_,G',b,t,C⟩;exact hQ G' w b a t C
 ·intro G' w' b a' t C;exact⟨rfl,G',b,t,C⟩
theorem U6 {c:Code}{Q:Exit->Act->World->Prop}{a:Act}{w:World}(h:c.wpIn F m P (Exit.noGoto Q) a w):(Code.scope c).wpIn F m P Q a w:=by
 intro b k cs u hb hr;have h0:(lone (b.atR a (.code (.scope c) :: k)) cs w).fenced P F:=fenced_calm hb hr rfl;have s:step P (lone (b.atR a (.code (.scope c) :: k)) cs w)=.next (lone (b.atR a (.code c :: .inScope c :: k)) cs w):=step_lone_go (by simp[stepG,stepG.exec,Frame.atR]);have hx:∀id,exitTo id (.inScope c :: k)=exitTo id k:=λid=>by simp[exitTo]
 obtain⟨e,a₁,w₁,hq,t⟩:=h b (.inScope c :: k) cs u hb hr;cases e with
 | normal=>exact⟨.normal,a₁,w₁,hq,.head h0 s (StepsIn.trans t (.one (fenced_calm hb hr rfl) (step_lone_go (by simp[stepG,stepG.exec,Frame.atR]))))⟩
 | exit id=>exact⟨_,a₁,w₁,hq,λk' hk=>.head h0 s (t.1 k' (by rw[hx];exact hk)),λC hk=>let⟨k₁,h1,h2⟩:=t.2 C (by rw[hx];exact hk);⟨k₁,h1,.head h0 s h2⟩⟩
 | goto l=>exact hq.elim
 | ret=>exact⟨_,a₁,w₁,hq,.of_steps (.one h0 s) t⟩
 | panic ch=>exact⟨_,a₁,w₁,hq,.of_steps (.one h0 s) t⟩
 | outgrown=>exact⟨_,a₁,w₁,hq,.of_steps (.one h0 s) t⟩
def Ei (n:Nat)(keep:Nat->Bool)(G0:Gh)(w0:World)(K:AX->St->Prop)(ds:List Deferred)(e:Exit)(a:Act)(w:World):Prop:=∃a0,a=wd a0 ds/\yB n keep G0 w0 K e a0 w
theorem uV (hF:qk F)(ds:List Deferred):∀(c:Code)(ac:AC),cC P n keep c=some ac->∀{K:AX->St->Prop}{G w st a},SR n keep G0 w0 G w st a->vc P ac st K->c.wpIn F m P (Ei n keep G0 w0 K ds) (wd a ds) w:=by
 intro c;induction c with
 | skip=>intro ac hc K G w st a sr hk;simp only[cC,Vk]at hc;subst hc;exact wpIn_skip ⟨a,rfl,G,st,sr,hk⟩
 | ret=>intro ac hc K G w st a sr hk;simp only[cC,Vk]at hc;subst hc;exact wpIn_ret ⟨a,rfl,G,st,sr,hk⟩
 | exit id=>intro ac hc K G w st a sr hk;simp only[cC,Vk]at hc;subst hc;exact wpIn_exit ⟨a,rfl,G,st,sr,hk⟩
 | region id ops draw=>
  intro ac hc K G w st a sr hk;cases draw with
  | true=>
   simp only[cC,V3]at hc;split at hc;·rename_i hm;simp only[Vu]at hc;obtain⟨r,hr,rfl⟩:=hc;exact MH hF ds hm hr sr hk (λG' w' E a' u C=>⟨a',rfl,G',E,u,C⟩)
   ·cases hc
  | false=>
  simp only[cC,VC,VO,Vu]at hc;obtain⟨al,W,rfl⟩:=hc;refine wpIn_region_list ?_;have:=xO (m:=m) (ops:=ops) (Q:=Ei n keep G0 w0 K ds) (r:=[]) hF ds (λG' w' E a' u C=>⟨a',rfl,G',_,u.aI,C⟩) ops.toList al sr W hk;rw[Wo]at this;exact this
 | seq x y ihx ihy=>
  intro ac hc K G w st a sr hk;simp only[cC]at hc;split at hc
  ·rename_i ax ay hx hy;cases hc;refine wpIn_seq (wpIn_mono (ihx ax hx sr hk) ?_);rintro e a' w' ⟨a0,rfl,hp⟩;cases e with
   | normal=>obtain⟨G',E,u,C⟩:=hp;exact ihy ay hy u C
   | exit id=>exact⟨a0,rfl,hp⟩
   | ret=>exact⟨a0,rfl,hp⟩
   | goto l=>exact⟨a0,rfl,hp⟩
   | panic c=>exact⟨a0,rfl,hp⟩
   | outgrown=>exact⟨a0,rfl,hp⟩
  ·cases hc
 | cond x y z ihy ihz=>
  intro ac hc K G w st a sr hk;simp only[cC]at hc;split at hc
  ·rename_i ay az hy hz;cases hc;simp only[vc]at hk;split at hk
   ·rename_i t ht;have hv:=sr.aE x;rw[ht]at hv;generalize he:a.eval x=v at hv;cases hv;refine wpIn_cond_split (by rw[qW];exact he) (λe=>?_) (λe=>?_);·exact ihy ay hy sr (hk.1 e)
    ·exact ihz az hz sr (hk.2 e)
   ·exact hk.elim
  ·cases hc
 | block id b ih=>
  intro ac hc K G w st a sr hk;simp only[cC,Vu]at hc;obtain⟨ab,hb,rfl⟩:=hc;refine wpIn_block (wpIn_mono (ih ab hb sr hk) ?_);rintro e a' w' ⟨a0,rfl,hp⟩;cases e with
  | normal=>exact⟨a0,rfl,hp⟩
  | exit id'=>
   obtain⟨G',E,u,C⟩:=hp;simp only at C;simp only[Exit.inBlock];split<;>rename_i h;·rw[Vf h]at C;exact⟨a0,rfl,G',E,u,C⟩
   ·rw[Ve h]at C;exact⟨a0,rfl,G',E,u,C⟩
  | ret=>exact⟨a0,rfl,hp⟩
  | goto l=>exact⟨a0,rfl,hp⟩
  | panic c=>exact⟨a0,rfl,hp⟩
  | outgrown=>exact⟨a0,rfl,hp⟩
 | loop b ih=>
  intro ac hc K G w st a sr hk;simp only[cC,Vu]at hc;obtain⟨ab,hb,rfl⟩:=hc;obtain⟨I,⟨k,s0,U,h0⟩,M⟩:=hk;obtain⟨G',u⟩:=U n keep G0 w0 G w a sr;refine wpIn_loop_ghost (λk a w=>∃a0 G s,a=wd a0 ds/\SR n keep G0 w0 G w s a0/\I k s) k ⟨a,G',s0,rfl,u,h0⟩ ?_;rintro k _ w ⟨a0,G,s,rfl,sr,hI⟩;refine wpIn_mono (ih ab hb sr (M k s hI)) ?_;rintro e a' w' ⟨a1,rfl,hp⟩;cases e with
  | normal=>obtain⟨G',E,u,m',s0,hlt,U,a2⟩:=hp;obtain⟨a3,O⟩:=U n keep G0 w0 G' w' a1 u;exact⟨m',hlt,a1,a3,s0,rfl,O,a2⟩
  | exit id=>exact⟨a1,rfl,hp⟩
  | ret=>exact⟨a1,rfl,hp⟩
  | goto l=>exact⟨a1,rfl,hp⟩
  | panic c=>exact⟨a1,rfl,hp⟩
  | outgrown=>exact⟨a1,rfl,hp⟩
 | rangeFunc f ps x y _ _=>intro ac hc K G w st a sr hk;simp only[cC,Vk]at hc;subst hc;exact hk.elim
 | scope b ih=>
  intro ac hc K G w st a sr hk;refine U6 (wpIn_mono (ih ac hc sr hk) ?_);rintro e a' w' ⟨a0,rfl,hp⟩;cases e with
  | goto l=>exact hp
  | _=>exact⟨a0,rfl,hp⟩
 | label l=>intro ac hc K G w st a sr hk;simp only[cC,Vk]at hc;subst hc;exact wpIn_label ⟨a,rfl,G,st,sr,hk⟩
 | goto l=>intro ac hc K G w st a sr hk;simp only[cC,Vk]at hc;subst hc;exact hk.elim
 | refuse w=>intro ac hc K G w st a sr hk;simp only[cC,Vk]at hc;subst hc;exact hk.elim
theorem xP (c:Code)(ac:AC)(hc:cC P n keep c=some ac){K:AX->St->Prop}{G w st a}(sr:SR n keep G0 w0 G w st a)(hk:vc P ac st K):c.wp P (yB n keep G0 w0 K) a w:=by
 have h:=wpIn_wide.1 (uV (m:=0) sO [] c ac hc sr hk);rw[pj sr.aB]at h;refine wp_mono h ?_;rintro e a' w' ⟨a0,rfl,hp⟩;cases e with
 | normal=>obtain⟨G',t,b,u⟩:=hp;rw[pj b.aB];exact⟨G',t,b,u⟩
 | exit id=>obtain⟨G',t,b,u⟩:=hp;rw[pj b.aB];exact⟨G',t,b,u⟩
 | ret=>obtain⟨G',t,b,u⟩:=hp;rw[pj b.aB];exact⟨G',t,b,u⟩
 | goto l=>exact hp
 | panic c=>exact hp
 | outgrown=>exact hp
end
inductive jH where
 | aA (x:fJ)
 | aB (x:fJ) (agg:Bool) (n:Nat)
def nT (P:Program)(keep:Nat->Bool):List ResultVar->Option (List jH)
 | []=>some []
 | .tmp t :: r=>(nT P keep r).map (.aA (cd keep (.tmp t)) :: ·)
 | .cell a t :: r=>match uA P t,P.info? t,nT P keep r with
 | some b,some i,some l=>some (.aB (cd keep (.tmp a)) b i.size :: l)
 | _,_,_=>none
def kC (st:St):List jH->Option (List AV)
 | []=>some []
 | .aA x :: r=>(kC st r).map (st.aA x :: ·)
 | .aB x agg n :: r=>match gX st.h agg n (st.aA x),kC st r with
 | some v,some l=>some (v :: l)
 | _,_=>none
def o9:List AV->AV
 | [x]=>x
 | l=>.aI l
structure fH where
 n:Nat
 aC:Nat->Bool
 aA:AC
 aB:List jH
def pJ (P:Program)(keep:Nat->Bool)(f:FuncId):Option fH:=
 match P.funcs[f]? with
 | some fn=>match fn.body with
  | some c=>match cC P fn.ntmps keep c,nT P keep fn.results.toList with
   | some ac,some res=>some ⟨fn.ntmps,keep,ac,res⟩
   | _,_=>none
  | none=>none
 | none=>none
def mK (p:Nat->Bool):Nat->List AV->fY
 | _,[]=>[]
 | i,v :: r=>if p i then (i,v) :: mK p (i+1) r else mK p (i+1) r
theorem Hl (p:Nat->Bool):∀(vs:List AV)(i s:Nat),lk s (mK p i vs)=.aR\/(i<=s/\vs[s-i]?=some (lk s (mK p i vs))):=by
 intro vs;induction vs with
 | nil=>intro i s;exact .inl rfl
 | cons v vs ih=>
 intro i s;have shift:lk s (mK p (i+1) vs)=.aR\/(i<=s/\(v :: vs)[s-i]?=some (lk s (mK p (i+1) vs))):=by
  rcases ih (i+1) s with h | ⟨h1,h2⟩;·exact .inl h
  ·exact .inr ⟨by omega,by rw[show s-i=(s-(i+1))+1 by omega];simpa using h2⟩
 simp only[mK];split
 ·simp only[lk];split;·rename_i h;subst h;exact .inr ⟨Vg _,by simp⟩
  ·exact shift
 ·exact shift
def np (keep:Nat->Bool)(avs:List AV)(h:eZ):St:=⟨mK keep 0 avs,mK (λs=>!keep s) 0 avs,h⟩
def ia (res:List jH)(K:AV->eZ->Prop):AX->St->Prop
 | .aC _,_=>False
 | _,st=>match kC st res with
 | some l=>K (o9 l) st.h
 | none=>False
section
variable {n:Nat} {keep:Nat->Bool} {G0:Gh} {w0:World} {P:Program}
theorem Ry {G w st a}(sr:SR n keep G0 w0 G w st a):∀(rs:List ResultVar)(res:List jH)(l:List AV),nT P keep rs=some res->kC st res=some l->
  ∃vs:List Value,(rs.mapM fun
   | .tmp t=>pure (a.tmps.getD t undef)
   | .cell x t=>do loadVar t (<-asAddr (a.tmps.getD x undef)):Sem (List Value)).run P w=.ok vs w/\l.length=vs.length /\
   ∀(j:Nat)(c:AV)(v:Value),l[j]?=some c->vs[j]?=some v->V G w c v:=by
 intro rs;induction rs with
 | nil=>intro res l hc hl;simp only[nT,Vk]at hc;subst hc;simp only[kC,Vk]at hl;subst hl;exact⟨[],rfl,rfl,λj c v h=>by simp at h⟩
 | cons r rs ih=>
  intro res l hc hl;have cons:∀{c:AV}{v:Value}{l':List AV}{vs:List Value},V G w c v->l'.length=vs.length->(∀(j:Nat)(c:AV)(v:Value),l'[j]?=some c->vs[j]?=some v->V G w c v)->
    (c :: l').length=(v :: vs).length/\∀(j:Nat)(c':AV)(v':Value),(c :: l')[j]?=some c'->(v :: vs)[j]?=some v'->V G w c' v':=by
   intro c v l' vs h1 h2 h3;refine⟨by simp[h2],λj c' v' hc hv=>?_⟩;cases j with
   | zero=>simp at hc hv;subst hc;subst hv;exact h1
   | succ j=>exact h3 j c' v' (by simpa using hc) (by simpa using hv)
  cases r with
  | tmp t=>simp only[nT,Vu]at hc;obtain⟨C,E,rfl⟩:=hc;simp only[kC,Vu]at hl;obtain⟨l',I,rfl⟩:=hl;obtain⟨vs,h1,h2,h3⟩:=ih C l' E I;have hv:=sr.aE (.tmp t);refine⟨a.tmps.getD t undef :: vs,?_,cons hv h2 h3⟩;simp only[List.mapM_cons,Sem.run_bind,Sem.run_pure,Result.andThen_ok,h1]
  | cell x t=>
   simp only[nT]at hc;split at hc
   ·rename_i b i C hb hi E;cases hc;simp only[kC]at hl;split at hl
    ·rename_i c l' O I;cases hl;obtain⟨vs,h1,h2,h3⟩:=ih C l' E I;obtain⟨u,hu,hV⟩:=ER (P:=P) sr.aA (sr.aE (.tmp x)) O (xG hb) (nz hi);refine⟨u :: vs,?_,cons hV h2 h3⟩;have M:((do loadVar t (<-asAddr (a.tmps.getD x undef)):Sem Value)).run P w=.ok u w:=by
      have he:a.eval (.tmp x)=a.tmps.getD x undef:=rfl;rw[he]at hu;generalize a.tmps.getD x undef=q at hu;cases q with
      | pointer p=>cases p with
       | none=>simp[Instr.loadAt,Instr.sureAddr]at hu
       | some p=>simpa [Instr.loadAt,Instr.sureAddr,asAddr] using hu
      | _=>simp[Instr.loadAt,Instr.sureAddr]at hu
     simp only[List.mapM_cons,Sem.run_bind,Sem.run_pure];simp only[Sem.run_bind]at M;rw[M];simp only[Result.andThen_ok,h1]
    ·cases hl
   ·cases hc
theorem sZ {G w st a}(sr:SR n keep G0 w0 G w st a){fn:Func}{res:List jH}{l:List AV}(hc:nT P keep fn.results.toList=some res)(hl:kC st res=some l):
  ∃v,(results fn a.tmps).run P w=.ok v w/\V G w (o9 l) v:=by
 obtain⟨vs,h1,h2,h3⟩:=Ry sr fn.results.toList res l hc hl;have hm:(fn.results.mapM fun
   | .tmp t=>pure (a.tmps.getD t undef)
   | .cell x t=>do loadVar t (<-asAddr (a.tmps.getD x undef)):Sem (Array Value)).run P w=.ok vs.toArray w:=by
  have e:∀(x:Sem (List Value)),(Functor.map List.toArray x:Sem (Array Value)).run P w=(x.run P w).andThen λa w'=>.ok a.toArray w':=λx=>Sem.run_bind' P x _ w;rw[Array.mapM_eq_mapM_toList,e,h1];rfl
 refine⟨if h:vs.toArray.size=1 then vs.toArray[0] else .tuple vs.toArray,?_,?_⟩;·unfold results;rw[Sem.run_bind];exact (Xq (λr=>Result.andThen r _) hm).trans rfl
 ·unfold o9;split
  ·rename_i x;have hs:vs.length=1:=by simpa using h2.symm
   rw[dif_pos (by simpa using hs)];exact h3 0 x _ rfl (by simp[hs])
  ·rename_i b;have hs:¬vs.toArray.size=1:=by
    intro hs;have:l.length=1:=by rw[h2];simpa using hs
    obtain⟨x,hx⟩:=List.length_eq_one_iff.1 this;exact b x hx
   rw[dif_neg hs];exact .aM _ _ (by simpa using h2) (λj c v hc hv=>h3 j c v hc (by simpa using hv))
theorem qM {f:FuncId}{fn:fH}(hf:pJ P keep f=some fn){u:List AV}(hn:u.length<=fn.n){h:eZ}{K:AV->eZ->Prop}
  (hk:vc P fn.aA (np keep u h) (ia fn.aB K)):fy P f u h K:=by
 unfold pJ at hf;split at hf
 ·rename_i fd O;split at hf
  ·rename_i c hc;split at hf
   ·rename_i ac res U E;cases hf;intro G w vs hg hv;refine calls_of_wp O hc ?_;have sr:SR fd.ntmps keep G w G w (np keep u h) {tmps:=vs++Array.replicate (fd.ntmps-vs.size) undef,defers:=[]}:=by
     have hle:vs.size<=fd.ntmps:=by rw[<-hv.1];exact hn
     have M:∀(p:Nat->Bool)(s:Nat),V G w (lk s (mK p 0 u)) ((vs++Array.replicate (fd.ntmps-vs.size) undef).getD s undef):=by
      intro p s;rcases Hl p u 0 s with e | ⟨_,e⟩;·rw[e];exact .aI _
      ·simp only[Nat.sub_zero]at e;obtain⟨v,I,hV⟩:=hv.aB e;have hlt:=(Wj.1 I).1;have:(vs++Array.replicate (fd.ntmps-vs.size) undef).getD s undef=v:=by simp[WX,hlt];have:=I;simp[hlt]at this;exact this
       rw[this];exact hV
     exact⟨hg,by simp;omega,rfl,λs _=>M keep s,λs _=>M _ s,gE.aC G w⟩
    refine wp_mono (xP c ac U sr hk) ?_;intro e a w' hp;have fin:∀{G' t},SR fd.ntmps keep G w G' w' t a->ia res K .aB t->a.defers=[]/\∃v,(results fd a.tmps).run P w'=.ok v w' /\
      ∃v0 r h' G',Ending.returned v=.returned v0/\K r h'/\fS G' w' h'/\V G' w' r v0/\gE G w G' w':=by
     intro G' t b hK;simp only[ia]at hK;split at hK;·rename_i l hl;obtain⟨v,C,hV⟩:=sZ (P:=P) b E hl;exact⟨b.aB,v,C,v,_,_,G',rfl,hK,b.aA,hV,b.aC⟩
     ·exact hK.elim
    cases e with
    | normal=>obtain⟨G',t,b,hK⟩:=hp;exact fin b hK
    | ret=>obtain⟨G',t,b,hK⟩:=hp;exact fin b hK
    | exit id=>obtain⟨G',t,b,hK⟩:=hp;exact hK.elim
    | goto l=>exact hp.elim
    | panic c=>exact hp.elim
    | outgrown=>exact hp.elim
   ·cases hf
  ·cases hf
 ·cases hf
end
end Glb
