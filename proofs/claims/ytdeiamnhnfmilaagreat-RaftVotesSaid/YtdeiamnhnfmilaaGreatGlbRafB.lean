/-
  A library of its own.
-/
import Derived.Test.YtdeiamnhnfmilaaGreatGlbRafA
import Derived.Test.YtdeiamnhnfmilaaGreatGlbLaid
set_option linter.unusedSimpArgs false
set_option linter.unusedVariables false
set_option maxRecDepth 10000
set_option maxHeartbeats 8000000
open Nat (reduceAdd reduceDiv reduceEqDiff reduceLeDiff reduceMod reducePow)
namespace Glb
open Go
theorem V9_:∀(l:List Int)(a:Int),H2_ l->(∀m∈l,a<=m/\m<=7)->a<=8->(l.length:Int)<=8-a
 | [],a,_,_,h=>by simp;omega
 | x :: l,a,h1,h2,h3=>by
  have h4:=L_0.1 h1
  have hx:=h2 x (by simp)
  have:=V9_ l (x+1) h4.2 (λm hm=>⟨by have:=h4.1 m hm;omega,(h2 m (by simp[hm])).2⟩) (by omega)
  simp only[List.length_cons];omega
theorem r2_ {x:e3_}(h:x.right=true):x.few 7:=by
 obtain⟨-,⟨h1,h2⟩,⟨h3,h4⟩,⟨h5,h6⟩,-⟩:=W0_.1 h
 have a:=V9_ _ 1 h1 h2 (by omega)
 have b:=V9_ _ 1 h3 h4 (by omega)
 have c:=V9_ _ 1 h5 h6 (by omega)
 exact⟨by omega,by omega,by omega⟩
theorem e3_.few.le {x:e3_}{a b:Nat}(h:x.few a)(hab:a<=b):x.few b:=⟨K_e h.1 hab,K_e h.2.1 hab,K_e h.2.2 hab⟩
theorem K6_ {l:List Int}(h:(g5_ l).2=0):(g5_ l).1.right=true:=by
 simp only[g5_]at h ⊢
 by_cases c:(j3_.dec (some l)).2.end_=0
 ·have c':¬(j3_.dec (some l)).2.end_≠0:=by simpa using c
  rw[if_neg c']at h ⊢
  by_cases o:(j3_.dec (some l)).1.right=true
  ·rw[if_pos o];exact o
  ·rw[if_neg o]at h;cases h
 ·rw[if_pos c]at h;exact absurd h c
theorem d7_.ofN_right (x:d7_)(h:x.conf.right=true):∀k,k<=x.log.es.length->(x.ofN k).1.right=true/\x.log.base<=(x.ofN k).2/\(x.ofN k).2<=x.log.base+k
 | 0,_=>⟨h,L_e _,Int.le_of_eq (by show x.log.base=_;simp)⟩
 | k+1,hk=>by
  rw[d7_.ofN_step hk]
  split
  ·rename_i c;exact⟨K6_ c.2,by show x.log.base<=x.log.base+1+k;omega,by show x.log.base+1+(k:Int)<=_;omega⟩
  ·obtain⟨a,b,c⟩:=d7_.ofN_right x h k (by omega)
   exact⟨a,b,by omega⟩
theorem d7_.of_right {x:d7_}(h:x.conf.right=true):x.of.1.right=true/\x.log.base<=x.of.2/\x.of.2<=x.log.last:=d7_.ofN_right x h _ (J_4 _)
def j2_.well (w:j2_):Prop:=(1<=w.node/\w.node<=7)/\(0<=w.next/\w.next<=2^41)/\(0<=w.mat/\w.mat<=2^40)
theorem j2_.well.placed {w:j2_}(h:w.well):w.placed:=by obtain⟨⟨h1,h2⟩,⟨h3,h4⟩,h5,h6⟩:=h;exact⟨⟨by omega,h3,h5⟩,by omega,by omega,by omega⟩
def e0_.fit (e:e0_):Prop:=(c2_ e.data/\e.data.length<=2^16)/\e2_ e.term/\e2_ e.kind
structure b4_.fit (k:Nat)(x:b4_):Prop where
 base:0<=x.hard.log.base/\x.hard.log.base<=2^40+k
 len:x.hard.log.es.length<=k
 last:x.hard.log.last<=2^40+k
 data:∀e∈x.hard.log.es,e.fit
 conf:x.hard.conf.right=true
 snap:c2_ x.hard.snap/\x.hard.snap.length<=2^16
 term:0<=x.hard.term/\x.hard.term<=2^40
 nums:e2_ x.hard.group/\e2_ x.hard.vote/\e2_ x.hard.log.bterm
 at':x.hard.log.base<=x.applied/\x.applied<=x.commit/\x.commit<=x.hard.log.last
 elapsed:0<=x.elapsed/\x.elapsed<=k
 beat:0<=x.beat/\x.beat<=1
 round:0<=x.round/\x.round<=k
 granted:x.granted.length<=k+1
 flows:x.flows.length<=21/\∀w∈x.flows,w.well
 id:1<=x.id/\x.id<=7
theorem b4_.fit.mono {k k':Nat}{x:b4_}(h:x.fit k)(hk:k<=k'):x.fit k':=by
 obtain⟨h1,h2,h3,h4,h5,h6,h7,h8,h9,h10,h11,h12,h13,h14,h15⟩:=h
 exact⟨⟨h1.1,by omega⟩,by omega,by omega,h4,h5,h6,h7,h8,h9,by omega,h11,by omega,by omega,h14,h15⟩
section
variable {k:Nat} {x:b4_}
theorem b4_.fit.small (h:x.fit k)(hk:k<=2^28):i0_ x.hard.log.es:=⟨by have:=h.len;omega,λe he=>by have:=(h.data e he).1.2;omega⟩
theorem b4_.fit.logOk (h:x.fit k)(hk:k<=2^28):E3_ x.hard.log:=⟨h.base.1,by have:=h.base.2;omega,h.small hk⟩
theorem b4_.fit.ofR (h:x.fit k)(hk:k<=2^28):x.hard.ofR:=⟨⟨h.base.1,by have:=h.base.2;omega⟩,by have:=h.len;omega,λe he=>⟨(h.data e he).1.1,by have:=(h.data e he).1.2;omega⟩,(r2_ h.conf).le (by omega)⟩
theorem b4_.fit.hard (h:x.fit k)(hk:k<=2^28):x.hard.fit:=⟨h.logOk hk,(r2_ h.conf).le (by omega),by have:=h.snap.2;omega⟩
theorem b4_.fit.now (h:x.fit k):x.now.right=true:=(d7_.of_right h.conf).1
theorem b4_.fit.nowFew (h:x.fit k){n:Nat}(hn:7<=n):x.now.few n:=(r2_ h.now).le hn
end
theorem Z7_ {x:e3_}(h:x.right=true):x.voters.length<=14:=by
 have u:=P1_ (x.old++x.new);have f:=r2_ h;simp only[J_z]at u;have:=f.1;have:=f.2.1;simp only[e3_.voters];omega
theorem c_7 {x:e3_}(h:x.right=true):x.members.length<=21:=by
 have u:=P1_ (x.old++x.new++x.learners);have f:=r2_ h;simp only[J_z]at u;have:=f.1;have:=f.2.1;have:=f.2.2;simp only[e3_.members];omega
theorem j_e {x:e3_}(h:x.right=true){n:Int}(hn:n∈x.members):1<=n/\n<=7:=by
 obtain⟨-,⟨-,h2⟩,⟨-,h4⟩,⟨-,h6⟩,-⟩:=W0_.1 h
 have:=((c_i _).2 n).1 hn
 simp only[K_6]at this
 rcases this with (a | a) | a
 ·exact h2 n a
 ·exact h4 n a
 ·exact h6 n a
section
variable {k:Nat} {x:b4_}
theorem b4_.fit.follow (h:x.fit k)(l:Int):(x.follow l).fit k:=by
 obtain⟨h1,h2,h3,h4,h5,h6,h7,h8,h9,h10,h11,h12,h13,h14,h15⟩:=h
 exact⟨h1,h2,h3,h4,h5,h6,h7,h8,h9,h10,h11,h12,by simp[b4_.follow],⟨by simp[b4_.follow],by simp[b4_.follow]⟩,h15⟩
theorem b4_.fit.setTerm (h:x.fit k){t v:Int}(ht:0<=t/\t<=2^40)(hv:e2_ v):({x with hard:={x.hard with term:=t,vote:=v}}:b4_).fit k:=by
 obtain⟨h1,h2,h3,h4,h5,h6,h7,h8,h9,h10,h11,h12,h13,h14,h15⟩:=h
 exact⟨h1,h2,h3,h4,h5,h6,ht,⟨h8.1,hv,h8.2.2⟩,h9,h10,h11,h12,h13,h14,h15⟩
theorem w_2 {was:List j2_}{node last:Int}:A8_ was node last=⟨node,last+1,0,0⟩\/(A8_ was node last∈was/\(A8_ was node last).node=node):=by
 unfold A8_
 cases hf:was.find? λf=>decide (f.node=node) with
 | none=>exact .inl rfl
 | some f=>exact .inr ⟨List.mem_of_find?_eq_some hf,by simpa using List.find?_some hf⟩
theorem b4_.fit.meet (h:x.fit k){was:List j2_}{last:Int}(hw:∀w∈was,w.well)(hl:0<=last/\last<2^41):(x.meet was last).fit k:=by
 have hn:=h.now
 obtain⟨h1,h2,h3,h4,h5,h6,h7,h8,h9,h10,h11,h12,h13,h14,h15⟩:=h
 refine⟨h1,h2,h3,h4,h5,h6,h7,h8,h9,h10,h11,h12,h13,⟨?_,?_⟩,h15⟩
 ·simp only[b4_.meet,K_p]
  exact K_e (L_y _ _) (c_7 hn)
 ·intro w hw'
  simp only[b4_.meet,L_v,M_p]at hw'
  obtain⟨n,⟨hm,-⟩,rfl⟩:=hw'
  have:=j_e hn hm
  rcases w_2 (was:=was) (node:=n) (last:=last) with e | ⟨e,-⟩
  ·rw[e];exact⟨this,⟨by show 0<=last+1;omega,by show last+1<=_;omega⟩,by simp⟩
  ·exact hw _ e
theorem Log.laid_one (l:Log)(e:e0_):l.laid l.last [e]=⟨l.base,l.bterm,l.es++[e]⟩:=Glb.laid_one l e
theorem b4_.fit.more (h:x.fit k){e:e0_}(he:e.fit):({x with hard:={x.hard with log:=⟨x.hard.log.base,x.hard.log.bterm,x.hard.log.es++[e]⟩}}:b4_).fit (k+1):=by
 obtain⟨h1,h2,h3,h4,h5,h6,h7,h8,h9,h10,h11,h12,h13,h14,h15⟩:=h
 have el:(⟨x.hard.log.base,x.hard.log.bterm,x.hard.log.es++[e]⟩:Log).last=x.hard.log.last+1:=by unfold Log.last;simp;omega
 refine⟨⟨h1.1,Int.le_trans h1.2 (by omega)⟩,by simp;omega,by rw[el];omega,?_,h5,h6,h7,h8,⟨h9.1,h9.2.1,by rw[el];exact Int.le_trans h9.2.2 (by omega)⟩,⟨h10.1,Int.le_trans h10.2 (by omega)⟩,h11,⟨h12.1,Int.le_trans h12.2 (by omega)⟩,K_e h13 (by omega),h14,h15⟩
 intro y hy
 simp only[K_6,List.mem_singleton]at hy
 rcases hy with hy | rfl
 ·exact h4 y hy
 ·exact he
end
theorem C_m (x:RX)(kind:Int)(data:List Int):(x.lay kind data).r=if kind=2 then ({x.r with hard:={x.r.hard with log:=⟨x.r.hard.log.base,x.r.hard.log.bterm,x.r.hard.log.es++[⟨x.r.hard.term,kind,data⟩]⟩}}:b4_).meet x.r.flows x.r.last
  else {x.r with hard:={x.r.hard with log:=⟨x.r.hard.log.base,x.r.hard.log.bterm,x.r.hard.log.es++[⟨x.r.hard.term,kind,data⟩]⟩}}:=by
 unfold RX.lay
 simp only[b4_.last,Log.laid_one]
 split<;>rfl
theorem C_n (x:RX)(kind:Int)(data:List Int):(x.lay kind data).o={x.o with changes:=x.o.changes++[{b9_.zero with kind:=2,group:=x.r.hard.group,from_:=x.r.last+1,log:=⟨0,0,[⟨x.r.hard.term,kind,data⟩]⟩}]}:=by
 have e:((x.r.hard.log.laid x.r.hard.log.last [⟨x.r.hard.term,kind,data⟩]).slice (x.r.hard.log.last+1) 1)=[⟨x.r.hard.term,kind,data⟩]:=i_j _ _
 unfold RX.lay
 simp only[b4_.last,e]
 split<;>rfl
theorem b4_.fit.lay {k:Nat}{x:RX}(h:x.r.fit k)(hk:k<=2^28){kind:Int}{data:List Int}(hd:c2_ data/\data.length<=2^16)(hki:e2_ kind):(x.lay kind data).r.fit (k+1):=by
 rw[C_m]
 have ht:=h.term
 have m:=h.more (e:=⟨x.r.hard.term,kind,data⟩) ⟨hd,⟨by show _<=x.r.hard.term;omega,by show x.r.hard.term<=_;omega⟩,hki⟩
 have hl:=h.last
 have hb:=h.base
 have hl2:0<=x.r.hard.log.last:=by unfold Log.last;omega
 split
 ·exact m.meet h.flows.2 ⟨hl2,by show x.r.hard.log.last<_;omega⟩
 ·exact m
theorem b4_.fit.setCommit {k:Nat}{x:b4_}(h:x.fit k){c:Int}(h1:x.commit<=c)(h2:c<=x.hard.log.last):({x with commit:=c}:b4_).fit k:=by
 obtain⟨g1,g2,g3,g4,g5,g6,g7,g8,g9,g10,g11,g12,g13,g14,g15⟩:=h
 exact⟨g1,g2,g3,g4,g5,g6,g7,g8,⟨g9.1,by show x.applied<=c;omega,h2⟩,g10,g11,g12,g13,g14,g15⟩
theorem b4_.fit.settle {k:Nat}{x:b4_}(h:x.fit k):x.settle.fit k:=by
 unfold b4_.settle
 split
 ·rename_i c;exact h.setCommit (by omega) (N6_.1 c.2.1).2
 ·exact h
theorem j_9 (l:List j2_):∀x:RX,(x.each l).r=x.r/\(x.each l).o.changes=x.o.changes/\(x.each l).o.msgs.length=x.o.msgs.length+l.length:=by
 induction l with
 | nil=>intro x;exact⟨rfl,rfl,rfl⟩
 | cons w l ih=>
  intro x
  obtain⟨h1,h2,h3⟩:=ih (x.to w)
  refine⟨h1,h2,?_⟩
  show ((x.to w).each l).o.msgs.length=_
  rw[h3]
  show (x.o.msgs++[_]).length+l.length=_
  simp;omega
theorem l_a (l:List Msg):∀x:RX,(x.sends l).r=x.r/\(x.sends l).o.changes=x.o.changes/\(x.sends l).o.msgs.length=x.o.msgs.length+l.length:=by
 induction l with
 | nil=>intro x;exact⟨rfl,rfl,rfl⟩
 | cons w l ih=>
  intro x
  obtain⟨h1,h2,h3⟩:=ih (x.send w)
  refine⟨h1,h2,?_⟩
  show ((x.send w).sends l).o.msgs.length=_
  rw[h3]
  show (x.o.msgs++[_]).length+l.length=_
  simp;omega
def RX.few (j:Nat)(x:RX):Prop:=x.o.msgs.length<=j/\x.o.changes.length<=j
theorem RX.few.mono {j j':Nat}{x:RX}(h:x.few j)(hj:j<=j'):x.few j':=⟨K_e h.1 hj,K_e h.2 hj⟩
theorem RX.few.send {j:Nat}{x:RX}(h:x.few j)(m:Msg):(x.send m).few (j+1):=⟨by show (x.o.msgs++[_]).length<=_;simp;exact h.1,by have:=h.2;show x.o.changes.length<=_;omega⟩
theorem RX.few.tell {j:Nat}{x:RX}(h:x.few j)(c:b9_):(x.tell c).few (j+1):=⟨by have:=h.1;show x.o.msgs.length<=_;omega,by show (x.o.changes++[_]).length<=_;simp;exact h.2⟩
theorem RX.few.lay {j:Nat}{x:RX}(h:x.few j)(kind:Int)(data:List Int):(x.lay kind data).few (j+1):=by
 unfold RX.few
 rw[C_n]
 exact⟨by have:=h.1;show x.o.msgs.length<=_;omega,by show (x.o.changes++[_]).length<=_;simp;exact h.2⟩
theorem RX.few.each {j:Nat}{x:RX}(h:x.few j){l:List j2_}(hl:l.length<=21):(x.each l).few (j+21):=by
 obtain⟨-,h2,h3⟩:=j_9 l x
 exact⟨by have:=h.1;omega,by have:=h.2;rw[h2];omega⟩
theorem RX.few.sends {j:Nat}{x:RX}(h:x.few j){l:List Msg}(hl:l.length<=21):(x.sends l).few (j+21):=by
 obtain⟨-,h2,h3⟩:=l_a l x
 exact⟨by have:=h.1;omega,by have:=h.2;rw[h2];omega⟩
def b4_.led (x:b4_):b4_:=({x with role:=2,leader:=x.id,beat:=0,granted:=[],flows:=[]}:b4_).meet [] x.last
theorem A_u (x:RX):x.lead=(((({x with r:=x.r.led}:RX).lay 0 []).on).settle):=rfl
theorem b4_.fit.led {k:Nat}{x:b4_}(h:x.fit k)(hk:k<=2^28):x.led.fit k:=by
 have hb:=h.base
 have hl:=h.last
 have hl2:0<=x.hard.log.last:=by unfold Log.last;omega
 have h0:({x with role:=2,leader:=x.id,beat:=0,granted:=[],flows:=[]}:b4_).fit k:=by
  obtain⟨g1,g2,g3,g4,g5,g6,g7,g8,g9,g10,g11,g12,g13,g14,g15⟩:=h
  exact⟨g1,g2,g3,g4,g5,g6,g7,g8,g9,g10,⟨L_e _,by show (0:Int)<=1;omega⟩,g12,by simp,⟨by simp,by simp⟩,g15⟩
 exact h0.meet (by simp) ⟨hl2,by show x.hard.log.last<_;omega⟩
theorem b4_.fit.lead {k:Nat}{x:RX}(h:x.r.fit k)(hk:k<=2^28):x.lead.r.fit (k+1):=by
 have h1:=h.led hk
 have h2:(({x with r:=x.r.led}:RX).lay 0 []).r.fit (k+1):=b4_.fit.lay (x:={x with r:=x.r.led}) (kind:=0) (data:=[]) h1 hk ⟨λ_ h=>by simp at h,by simp⟩ ⟨by omega,by omega⟩
 rw[A_u]
 show ((({x with r:=x.r.led}:RX).lay 0 []).on).r.settle.fit (k+1)
 refine b4_.fit.settle ?_
 show ((({x with r:=x.r.led}:RX).lay 0 []).each _).r.fit (k+1)
 rw[(j_9 _ _).1]
 exact h2
theorem RX.few.lead {k j:Nat}{x:RX}(h:x.r.fit k)(hk:k<=2^28)(hj:x.few j):x.lead.few (j+22):=by
 have h1:=h.led hk
 have h2:(({x with r:=x.r.led}:RX).lay 0 []).r.fit (k+1):=b4_.fit.lay (x:={x with r:=x.r.led}) (kind:=0) (data:=[]) h1 hk ⟨λ_ h=>by simp at h,by simp⟩ ⟨by omega,by omega⟩
 have h3:(({x with r:=x.r.led}:RX).lay 0 []).few (j+1):=RX.few.lay (x:={x with r:=x.r.led}) hj 0 []
 have h4:=h3.each h2.flows.1
 have e:x.lead.o=((({x with r:=x.r.led}:RX).lay 0 []).each (({x with r:=x.r.led}:RX).lay 0 []).r.flows).o:=rfl
 unfold RX.few at h4 ⊢
 rw[e]
 exact⟨K_e h4.1 (by omega),K_e h4.2 (by omega)⟩
theorem g_b {w:j2_}{F:Nat->Prop}{h:a0_}{a:List AV}(hh:RdL F h w.c a):a=w.cells:=by
 simp only[j2_.c,RdL,Rd]at hh
 obtain⟨_,_,rfl,rfl,_,_,rfl,rfl,_,_,rfl,rfl,_,_,rfl,rfl,rfl⟩:=hh
 rfl
def d_9 (P:Program)(f:FuncId):Prop:=f2_ P f=true/\∀(G:Nat->Prop)(h:a0_)(r:Nat)(x:b4_)(gg ff:AV)(g:FuncId)(fs cs:List AV)(J:Nat->a0_->Prop),h[r]?=some (some (.arr 21 [x.row gg ff] false))->f2_ P g=true->x.flows.length<=2^20->J 0 h->
 (∀k h',J k h'->Rd G h' (N7_ x.flows) ff)->(∀k (hk:k<x.flows.length) h' H,J k h'->Ext nof h' H->a6_ P g (fs++[.agg (x.flows[k]).cells]++cs) H λ_ h''=>J (k+1) h'')->
 a6_ P f [.ptr r 21 0 0,.clo g fs cs] h λ_ h'=>J x.flows.length h'
theorem A_9 {P:Program}{f:FuncId}(hf:Is P f p7_):d_9 P f:=by
 refine⟨hf.2,λG h r x gg ff g fs cs J hr hg hl hJ0 hJ hB=>a4_ hf.1 (J_y rfl) ?_⟩
 show vc P p7_.code ⟨[(0,.ptr r 21 0 0),(1,.clo g fs cs)],[],h⟩ (b2_ p7_.res _)
 have rr:=hr
 simp only[b4_.row]at rr
 have lf:M5_ ff=some (.int .i64 x.flows.length):=by have:=(hJ 0 h hJ0).len;simpa [N7_] using this
 simp only[p7_,go_sem,reduceEqDiff,reduceAdd,rr,lf]
 obtain⟨I,hI⟩:∃I:Nat->Env->a0_->Prop,∀m L h',I m L h'↔∃i:Nat,lk 1 L=.clo g fs cs/\lk 9 L=ff/\lk 10 L=.int .i64 x.flows.length/\lk 11 L=.int .i64 i/\J i h'/\i<=x.flows.length/\m=x.flows.length-i:=⟨_,λ_ _ _=>Iff.rfl⟩
 refine e8_ I x.flows.length ((hI _ _ _).2 ⟨0,by simp[a3_,c9_],by simp[a3_],by simp[a3_],by simp[a3_],hJ0,by omega,by omega⟩) ?_
 intro m L h' hh
 obtain⟨i,k1,k9,k10,k11,hJi,hi,rfl⟩:=(hI _ _ _).1 hh
 simp only[D5_,go_sem,k10,k11]
 refine b0_ (λci=>?_) (λci=>?_)
 ·simp at ci
  have ci:i<x.flows.length:=by omega
  have ew:IntKind.i64.wrap ((i:Int)+1)=((i+1:Nat):Int):=by rw[a7_ (by omega)];omega
  obtain⟨p,c,i1,i2,i3⟩:=Rd.index (hJ i h' hJi) .i64 (i:=(i:Int)) (d:=x.flows[i].c) (by omega) (by rw[show ((i:Int)).toNat=i by omega,K_s,J_5 ci];rfl)
  obtain rfl:=g_b i3
  have ld:o5_ h' true 4 p=some (.agg x.flows[i].cells):=by rw[n2_ i2];rfl
  have hc:=hB i ci h'
  generalize x.flows[i]=w at *
  simp only[j2_.cells]at ld hc
  simp only[go_sem,reduceEqDiff,reduceAdd,reduceLeDiff,k1,k9,k11,i1,ld]
  refine a1_ ⟨hg,hc _ hJi (Ext.b1 _)⟩ ?_
  intro _ h2 j2
  simp only[go_sem,reduceEqDiff,k11,ew]
  exact⟨_,by omega,(hI _ _ _).2 ⟨i+1,by simp[a3_,k1],by simp[a3_,k9],by simp[a3_,k10],by simp[a3_],j2,by omega,rfl⟩⟩
 ·simp at ci
  have:i=x.flows.length:=by omega
  subst this
  simp only[go_sem]
  exact hJi
theorem t_9 (x:RX)(l:List j2_)(w:j2_):x.each (l++[w])=(x.each l).to w:=by unfold RX.each;rw[List.foldl_append];rfl
theorem d_q {P:Program}{fe ft:FuncId}(he:d_9 P fe)(ht:B_r P ft){L:Nat->Nat}{h:a0_}{r o:Nat}{x:RX}{k j:Nat}(hx:XAt L h r o x)(hf:x.r.fit k)(hk:k<=2^28)(hj:x.few j)(hj2:j<=2^20):
  a6_ P fe [.ptr r 21 0 0,.clo ft [.agg [.ptr r 21 0 0,.ptr o 5 0 0]] []] h λ_ h'=>XTo wO nof L h r o x.on h':=by
 have hfit:=hf.hard hk
 have hl:=hf.flows.1
 have hp:=hf.flows.2
 obtain⟨g,f,ra⟩:=hx.r
 have row:=ra.row
 have fl:=Own.lt _ _ ra.fo
 have jm:=hj.1
 clear hf hj
 obtain⟨J,hJ⟩:∃J:Nat->a0_->Prop,∀k h',J k h'↔XTo wO nof L h r o (x.each (x.r.flows.take k)) h':=⟨_,λ_ _=>Iff.rfl⟩
 have J0:J 0 h:=(hJ 0 h).2 hx.to
 have J1:∀k h',J k h'->Rd (λm=>L m=2/\m<h.length) h' (N7_ x.r.flows) f:=by
  intro k h' hh
  obtain⟨L1,x1,l1,e1⟩:=(hJ k h').1 hh
  refine Rd.mono (λ_ y=>y) ?_ _ _ (Own.rd _ (λ_ y=>y) _ fl)
  intro m hm y hy
  refine (e1.2 m hm.2 ?_).trans hy
  rintro (z | z)
  ·rw[hm.1]at z;unfold wO at z;omega
  ·exact z
 have J2:∀k (hk:k<x.r.flows.length) h' H,J k h'->Ext nof h' H->a6_ P ft ([.agg [.ptr r 21 0 0,.ptr o 5 0 0]]++[.agg (x.r.flows[k]).cells]++[]) H λ_ h''=>J (k+1) h'':=by
  intro k hk h' H hh hX
  have T:=(hJ k h').1 hh
  have e:=j_9 (x.r.flows.take k) x
  have ek:x.r.flows.take (k+1)=x.r.flows.take k++[x.r.flows[k]]:=K_f hk
  have eJ:∀h'',J (k+1) h''↔XTo wO nof L h r o ((x.each (x.r.flows.take k)).to x.r.flows[k]) h'':=λh''=>by rw[hJ,ek,t_9]
  have tl:=M_l k x.r.flows
  have wp:=(hp _ (K_1 hk)).placed
  generalize x.r.flows[k]=w at *
  generalize x.each (x.r.flows.take k)=y at *
  have ey:y.r.hard=x.r.hard:=by rw[e.1]
  have em:=e.2.2
  refine a6_.mono (XTo.call0 (T.up hX) (λ_ _ z=>z) λL1 x1=>ht.2 L1 H r o y w x1 wp (by rw[ey];exact hfit) ?_) λv h'' b=>(eJ h'').2 b
  have:y.o.msgs.length+1<=2^21:=by omega
  exact K_e (K_w 168 this) (by decide)
 have:=he.2 (λm=>L m=2/\m<h.length) h r x.r g f ft [.agg [.ptr r 21 0 0,.ptr o 5 0 0]] [] J row ht.1 (by omega) J0 J1 J2
 refine this.mono λv h' z=>?_
 have z:=(hJ _ _).1 z
 rw[K_y]at z
 exact z
def L7_ (p:j2_->Bool):List j2_->Nat->Int
 | [],_=>-1
 | w :: l,k=>if p w then k else L7_ p l (k+1)
theorem U5_ {p:j2_->Bool}:∀{l:List j2_}{k:Nat},l.findIdx? p=none->L7_ p l k=-1
 | [],_,_=>rfl
 | w :: l,k,h=>by
  rw[List.findIdx?_cons]at h
  by_cases c:p w=true
  ·simp[c]at h
  ·rw[L7_,if_neg c]
   simp only[c,K_b,if_false,Option.map_eq_none_iff]at h
   exact U5_ h
theorem U4_ {p:j2_->Bool}:∀{l:List j2_}{k i:Nat},l.findIdx? p=some i->L7_ p l k=((k+i:Nat):Int)/\i<l.length
 | [],_,_,h=>by simp at h
 | w :: l,k,i,h=>by
  rw[List.findIdx?_cons]at h
  by_cases c:p w=true
  ·simp[c]at h;subst h
   rw[L7_,if_pos c];simp
  ·simp only[c,K_b,if_false,J_7]at h
   obtain⟨j,hj,rfl⟩:=h
   rw[L7_,if_neg c]
   obtain⟨a,b⟩:=U4_ (k:=k+1) hj
   exact⟨by rw[a];congr 1;omega,by simp;omega⟩
def L2_ (P:Program)(f:FuncId):Prop:=f2_ P f=true/\∀(F:Nat->Prop)(h:a0_)(l:List j2_)(a:AV)(g:FuncId)(fs cs:List AV)(p:j2_->Bool),Rd F h (N7_ l) a->l.length<=2^40->f2_ P g=true->
 (∀w∈l,a6_ P g (fs++[.agg w.cells]++cs) h λr h'=>r=.bool (p w)/\h'=h)->a6_ P f [a,.clo g fs cs] h λr h'=>r=.int .i64 (L7_ p l 0)/\h'=h
theorem j_v {P:Program}{f:FuncId}(hf:Is P f d0_):L2_ P f:=by
 refine⟨hf.2,λF h l a g fs cs p ha hl hi hg=>a4_ hf.1 (J_y rfl) ?_⟩
 show vc P d0_.code ⟨[(0,a),(1,.clo g fs cs)],[],h⟩ (b2_ d0_.res _)
 have la:M5_ a=some (.int .i64 l.length):=by have:=ha.len;simpa [N7_] using this
 simp only[d0_,go_sem,reduceEqDiff,la]
 obtain⟨I,hI⟩:∃I:Nat->Env->a0_->Prop,∀m L h',I m L h'↔∃i:Nat,lk 0 L=a/\lk 1 L=.clo g fs cs/\lk 7 L=.int .i64 l.length/\lk 8 L=.int .i64 i/\h'=h/\i<=l.length/\m=l.length-i/\L7_ p (l.drop i) i=L7_ p l 0:=⟨_,λ_ _ _=>Iff.rfl⟩
 refine e8_ I l.length ((hI _ _ _).2 ⟨0,by simp[a3_,c9_],by simp[a3_,c9_],by simp[a3_],by simp[a3_],rfl,by omega,by omega,by simp⟩) ?_
 intro m L h' hh
 obtain⟨i,k0,k1,k7,k8,rfl,hi2,rfl,hq⟩:=(hI _ _ _).1 hh
 simp only[i6_,go_sem,k7,k8]
 refine b0_ (λci=>?_) (λci=>?_)
 ·simp at ci
  have ew:IntKind.i64.wrap ((i:Int)+1)=((i+1:Nat):Int):=by rw[a7_ (by omega)];omega
  obtain⟨q,c,i1,i2,i3⟩:=Rd.index ha .i64 (i:=(i:Int)) (d:=l[i].c) (by omega) (by rw[show ((i:Int)).toNat=i by omega,K_s,J_5 ci];rfl)
  obtain rfl:=g_b i3
  have ld:o5_ h' true 4 q=some (.agg l[i].cells):=by rw[n2_ i2];rfl
  have hc:=hg _ (K_1 ci)
  rw[L_8 ci,L7_]at hq
  generalize l[i]=w at *
  simp only[j2_.cells]at ld hc
  simp only[go_sem,reduceEqDiff,k0,k1,k8,i1,ld]
  refine a1_ ⟨hi,hc⟩ ?_
  rintro _ _ ⟨rfl,rfl⟩
  cases hpb:p w
  ·rw[hpb]at hq
   simp only[go_sem,reduceEqDiff,k8,ew]
   exact⟨_,by omega,(hI _ _ _).2 ⟨i+1,by simp[a3_,k0],by simp[a3_,k1],by simp[a3_,k7],by simp[a3_],rfl,by omega,rfl,by simpa using hq⟩⟩
  ·rw[hpb]at hq
   simp only[go_sem,reduceEqDiff]
   rw[<-hq];rfl
 ·simp at ci
  obtain rfl:i=l.length:=by omega
  rw[List.drop_length]at hq
  simp only[go_sem,reduceEqDiff]
  rw[<-hq];rfl
theorem p_r {P:Program}{f:FuncId}(hf:Is P f i4_){h:a0_}{q:AV}{n:Int}(hq:o5_ h false 1 q=some (.int .i64 n))(hq2:∀b,o5_ (h++[b]) false 1 q=some (.int .i64 n))(w:j2_):
  a6_ P f [.agg w.cells,q] h λr h'=>r=.bool (decide (w.node=n))/\h'=h:=by
 refine obs (t9_ _ _) (a4_ hf.1 (J_y rfl) ?_)
 show vc P i4_.code ⟨[(0,.agg w.cells),(1,q)],[],h⟩ (b2_ i4_.res _)
 simp only[i4_,j2_.cells,go_sem,reduceEqDiff,reduceAdd,hq2]
 exact Ext.b1 _
def v_j (P:Program)(f:FuncId):Prop:=
 f2_ P f=true/\∀(h:a0_)(node last:Int),0<=last/\last<2^41->a6_ P f [.int .i64 node,.int .i64 last] h λr h'=>r=.agg (j2_.mk node (last+1) 0 0).cells/\h'=h
theorem j_4 {P:Program}{f:FuncId}(hf:Is P f I8_):v_j P f:=by
 refine⟨hf.2,λh node last hl=>obs (h_8 _ _) (a4_ hf.1 (J_y rfl) ?_)⟩
 show vc P I8_.code ⟨[(0,.int .i64 node),(1,.int .i64 last)],[],h⟩ (b2_ I8_.res _)
 have e1:IntKind.i64.wrap (last+1)=last+1:=a7_ (by omega)
 simp only[I8_,go_sem,reduceEqDiff,reduceAdd,reduceLeDiff,e1]
 exact⟨rfl,Ext.b1 _⟩
theorem t_0 {was:List j2_}{node last:Int}:(L7_ (λw=>decide (w.node=node)) was 0=-1/\A8_ was node last=⟨node,last+1,0,0⟩) \/
  ∃(i:Nat)(hi:i<was.length),L7_ (λw=>decide (w.node=node)) was 0=i/\A8_ was node last=was[i]:=by
 cases hf:was.findIdx? λw=>decide (w.node=node) with
 | none=>
  refine .inl ⟨U5_ hf,?_⟩
  unfold A8_
  rw[List.findIdx?_eq_none_iff]at hf
  have:was.find? (λw=>decide (w.node=node))=none:=List.find?_eq_none.2 λw hw=>by simpa using hf w hw
  rw[this];rfl
 | some i=>
  obtain⟨a,hi⟩:=U4_ (k:=0) hf
  refine .inr ⟨i,hi,by rw[a];simp,?_⟩
  rw[List.findIdx?_eq_some_iff_getElem]at hf
  obtain⟨h1,h2,h3⟩:=hf
  unfold A8_
  have:was.find? (λw=>decide (w.node=node))=some was[i]:=by
   rw[List.find?_eq_some_iff_getElem]
   exact⟨h2,i,h1,rfl,λj hj=>by simpa using h3 j hj⟩
  rw[this];rfl
theorem f_u.flows {lo:Nat}{h:a0_}{a:AV}{l:List j2_}(ho:f_u lo h 4 a (l.map j2_.cells)):Own (N7_ l) (λm=>lo<=m) h a/\d2_ h a:=by
 have e:∀(F:Nat->Prop)(l:List j2_),a8_ (l.map j2_.c) F h (l.map j2_.cells):=by
  intro F l
  induction l with
  | nil=>simp only[K_9,a8_]
  | cons w l ih=>simp only[K_t,a8_,j2_.c,j2_.cells,g2_,Own];exact⟨_,_,rfl,⟨_,_,rfl,rfl,_,_,rfl,rfl,_,_,rfl,rfl,_,_,rfl,rfl,rfl⟩,ih⟩
 rcases ho with⟨rfl,h0⟩ | ⟨n,off,cap,row,g,rfl,h1,h2,h3,h4,h5,h6,h7⟩
 ·have:l=[]:=by simpa using h0
  subst this
  exact⟨Own.nils 4,trivial⟩
 ·have hl:(l.map j2_.cells).length=(l.map j2_.c).length:=by simp
  refine⟨?_,⟨row,g,h2,h5,h6⟩⟩
  simp only[N7_,Own]
  rw[hl]at h3 h4 h7 ⊢
  exact .inr (.inr ⟨n,off,cap,row,g,rfl,h1,h2,h3,h4,by rw[h7];exact e _ l⟩)
theorem f_u.more {lo:Nat}{h h':a0_}{sz:Nat}{a:AV}{es:List (List AV)}(ho:f_u lo h sz a es)(hx:Ext nof h h'):f_u lo h' sz a es:=by
 rcases ho with ho | ⟨n,off,cap,row,g,h1,h2,h3,h4⟩
 ·exact .inl ho
 ·exact .inr ⟨n,off,cap,row,g,h1,h2,hx.get h3,h4⟩
theorem XAt.setF {W Q L h h1 r o R R' out}{g f fv:AV}(hx:XAt L h r o ⟨R,out⟩)(X:Ext nof h h1) (row:h1[r]?=some (some (.arr 21 [R.row g f] false))) (e1:R'.granted=R.granted) (hW:W 6) (hg:∃f,RAt L h r R g f)
  (ho:Own (N7_ R'.flows) (λm=>h.length<=m) h1 fv) (hc:d2_ h1 fv):XTo W Q L h r o ⟨R',out⟩ (h1.set r (some (.arr 21 [R'.row g fv] false))):=by
 obtain⟨-,⟨ma,ca,aa,oa⟩,lt⟩:=hx
 obtain⟨f0,ra⟩:=hg
 have lr:=(J_w.1 ra.row).1
 have lr1:=(J_w.1 row).1
 have hl:=X.1
 have ge:∀n,h.length<=n->L n=0:=λn hn=>Classical.byContradiction λz=>by have:=lt n z;omega
 have ne:∀m,m≠r->(h1.set r (some (.arr 21 [R'.row g fv] false)))[m]?=h1[m]?:=λm hm=>J_x (λe=>hm e.symm)
 have st:∀m,m<h.length->m≠r->(h1.set r (some (.arr 21 [R'.row g fv] false)))[m]?=h[m]?:=λm hm hr=>(ne m hr).trans (X.2 m hm (λy=>y))
 have old:∀{m},m<h.length->relab L nof h.length h1.length 2 m=L m:=fun {m} hm=>j5_ (.inr ⟨λy=>y,hm⟩)
 have nr:∀m,L m≠6->m≠r:=λm hm e=>hm (e▸ra.lr)
 refine⟨relab L nof h.length h1.length 2,⟨⟨g,fv,J_0 lr1,?_,?_,?_,?_,(old lr).trans ra.lr⟩,⟨ma,ca,aa,oa.keep (λm hm _=>old hm) λm hm c=>st m hm (nr m (by omega))⟩,λm hm=>by rw[J_2];exact P4_ (λz=>by have:=lt m z;omega) hm⟩,λm hm _=>old hm,?_⟩
 ·rw[e1]
  exact Own.mono _ (λm hm=>(old hm.2).trans hm.1) (λm hm y hy=>(st m hm.2 (nr m (by omega))).trans hy) _ (Own.lt _ _ ra.go)
 ·exact ra.gc.keep (Own.lt _ _ ra.go) (λm hm y hy=>(st m hm.2 (nr m (by omega))).trans hy)
 ·exact Own.mono _ (λm hm=>H6_ (ge m hm.1) hm.2 (.inr hm.1)) (λm hm y hy=>(ne m (by omega)).trans hy) _ (Own.lt _ _ ho)
 ·exact hc.keep ho (λm hm y hy=>(ne m (by omega)).trans hy)
 ·exact (X.trans (Ext.set (F:=λm=>m=r) _ (λ_=>rfl)) (F'':=λm=>W (L m)\/Q m) (λ_ _ y=>y.elim) (λm _ y=>.inl (by rw[y,ra.lr];exact hW)))
def h_f (P:Program)(f:FuncId):Prop:=f2_ P f=true/\∀(L:Nat->Nat)(h:a0_)(r o:Nat)(x:RX)(k:Nat)(last:Int),XAt L h r o x->x.r.fit k->k<=2^28->0<=last/\last<2^41->
 a6_ P f [.ptr r 21 0 0,.int .i64 last] h λ_ h'=>XTo wA nof L h r o ⟨x.r.meet x.r.flows last,x.o⟩ h'
theorem w_g {P:Program}{f f1 f2 f3 f4 f5:FuncId}(hf:Is P f (p5_ f1 f2 f3 f4 f5))(h1:m_5 P f1)(h2:R5_ P f2 e3_.members)(h3:v_j P f3)(h4:Is P f4 i4_)(h5:L2_ P f5):h_f P f:=by
 refine⟨hf.2,λL h r o x k last hx hfit hk hlast=>a4_ hf.1 (J_y rfl) ?_⟩
 show vc P (p5_ f1 f2 f3 f4 f5).code ⟨[(0,.ptr r 21 0 0),(1,.int .i64 last)],[],h⟩ (b2_ (p5_ f1 f2 f3 f4 f5).res _)
 obtain⟨R,out⟩:=x
 simp only at hfit
 have lt:=hx.lt
 obtain⟨g,ff,ra⟩:=id hx.r
 have nowc:=h1.2 h r R hx.rowR (hfit.ofR hk)
 have hnow:=hfit.now
 have hfl:=hfit.flows.1
 have rr:=ra.row
 have lr:=(J_w.1 rr).1
 have rdf:=Own.rd _ (F':=λm=>L m=2/\m<h.length) (λ_ y=>y) _ (Own.lt _ _ ra.fo)
 have eR:∀l:List Int,(({R with flows:=(l.filter λn=>!decide (n=R.id)).map λn=>A8_ R.flows n last}:b4_))={R with flows:=(l.filter λn=>!decide (n=R.id)).map λn=>A8_ R.flows n last}:=λ_=>rfl
 have em:(R.meet R.flows last)={R with flows:=(R.now.members.filter λn=>!decide (n=R.id)).map λn=>A8_ R.flows n last}:=rfl
 simp only[em]
 have mlen:=c_7 hnow
 simp only[p5_,go_sem,reduceEqDiff]
 refine j4_ h1.1 nowc ?_
 simp only[go_sem,reduceEqDiff]
 refine a1_ ⟨h2.1,h2.2 nof h R.now _ (W3_ nof h R.now) ((r2_ hnow).le (by decide))⟩ ?_
 rintro w H ⟨ow,hX⟩
 have lw:M5_ w=some (.int .i64 R.now.members.length):=(Own.rd _ (F':=λ_=>True) (λ_ _=>trivial) _ ow).ints_len
 generalize R.now.members=ms at *
 simp only[go_sem,reduceEqDiff,lw]
 obtain⟨Fl,hFl⟩:∃Fl:Int->j2_,Fl=λn=>A8_ R.flows n last:=⟨_,rfl⟩
 obtain⟨I,hI⟩:∃I:Nat->Env->a0_->Prop,∀m L' h',I m L' h'↔∃(i:Nat)(a:AV),lk 0 L'=.ptr r 21 0 0/\lk 1 L'=.int .i64 last/\lk 4 L'=a/\lk 11 L'=w/\lk 12 L'=.int .i64 ms.length/\lk 13 L'=.int .i64 i /\
   f_u H.length h' 4 a ((((ms.take i).filter λn=>!decide (n=R.id)).map Fl).map j2_.cells)/\Ext nof H h'/\i<=ms.length/\m=ms.length-i:=⟨_,λ_ _ _=>Iff.rfl⟩
 refine e8_ I ms.length ((hI _ _ _).2 ⟨0,.nils,by simp[a3_,c9_],by simp[a3_,c9_],by simp[a3_],by simp[a3_],by simp[a3_],by simp[a3_],.inl ⟨rfl,by simp⟩,Ext.refl _ _,by omega,by omega⟩) ?_
 intro m L' h' hh
 obtain⟨i,a,k0,k1,k4,k11,k12,k13,oo,X2,hi,rfl⟩:=(hI _ _ _).1 hh
 simp only[D4_,go_sem,k12,k13]
 have X3:=hX.tr X2
 have row3:=X3.get rr
 simp only[b4_.row]at row3
 refine b0_ (λci=>?_) (λci=>?_)
 ·simp at ci
  have ci:i<ms.length:=by omega
  obtain⟨p,hp,hv'⟩:=(Own.rd _ (F':=λ_=>True) (λ_ _=>trivial) _ (Own.mono _ (λ_ x=>x) (λm hm y hy=>by rw[X2.2 m hm.2 (by simp[nof])];exact hy) _ (Own.lt _ _ ow))).int_at (i:=i) ci
  have ew:IntKind.i64.wrap ((i:Int)+1)=((i+1:Nat):Int):=by rw[a7_ (by omega)];omega
  have tk:ms.take (i+1)=ms.take i++[ms[i]]:=K_f ci
  simp only[go_sem,reduceEqDiff,reduceAdd,reduceLeDiff,k0,k11,k13,hp,hv']
  have row4:∀b,(h'++[b])[r]?=_:=λb=>(Ext.b1 b).get row3
  have row5:∀b c,(h'++[b]++[c])[r]?=_:=λb c=>(Ext.b2 b c).get row3
  generalize ms[i]=n at *
  by_cases c0:n=R.id
  ·simp only[go_sem,reduceEqDiff,reduceAdd,reduceLeDiff,k0,k4,k13,row4,decide_eq_true c0,ew]
   refine⟨_,by omega,(hI _ _ _).2 ⟨i+1,a,by simp[a3_,k0],by simp[a3_,k1],by simp[a3_,k4],by simp[a3_,k11],by simp[a3_,k12],by simp[a3_],?_,X2.tr (Ext.b1 _),ci,rfl⟩⟩
   rw[tk,List.filter_append]
   simpa [c0] using oo.more (Ext.b1 (some (a5_.arr 1 [[.int .i64 n]] false)))
  ·simp only[go_sem,reduceEqDiff,k1,row4,decide_eq_false c0]
   refine j4_ h3.1 (h3.2 _ n last hlast) ?_
   simp only[go_sem,reduceEqDiff,reduceAdd,reduceLeDiff,j2_.cells,row5,k0]
   have B6:∀b,(h'++[some (a5_.arr 1 [[.int .i64 n]] false)]++[b])[h'.length]?=some (some (a5_.arr 1 [[.int .i64 n]] false)):=λb=>b_z _ _ _
   have B6':∀b c,(h'++[some (a5_.arr 1 [[.int .i64 n]] false)]++[b]++[c])[h'.length]?=some (some (a5_.arr 1 [[.int .i64 n]] false)):=λb c=>v_s _ _ _ _
   have rd5:∀b c,Rd (λm=>L m=2/\m<h.length) (h'++[b]++[c]) (N7_ R.flows) ff:=λb c=>Rd.mono (λ_ y=>y) (λm hm y hy=>(X3.tr (Ext.b2 b c)).get hy) _ _ rdf
   refine j4_ h5.1 (h5.2 _ _ R.flows ff f4 [] [.ptr h'.length 1 0 0] (λw=>decide (w.node=n)) (rd5 _ _) (by omega) h4.2 (λw _=>p_r h4 (by simp only[go_sem,B6]) (λb=>by simp only[go_sem,B6']) w)) ?_
   have eFl:Fl n=A8_ R.flows n last:=by rw[hFl]
   have lft:(((ms.take i).filter λn=>!decide (n=R.id)).map Fl).length<=21:=by
    have:=L_y (λn=>!decide (n=R.id)) (ms.take i);have:=M_l i ms;simp only[K_p];omega
   have fin:∀(w:j2_)(h3:a0_),Ext nof h' h3->A8_ R.flows n last=w->∃a2 h4,d3_ (h3++[some (.arr 4 [w.cells] false)]) 4 32 a [w.cells]=some (a2,h4)/\f_u H.length h4 4 a2 ((((ms.take (i+1)).filter λn=>!decide (n=R.id)).map Fl).map j2_.cells)/\Ext nof H h4:=by
    intro w h3 hx3 ew2
    obtain⟨o2,h4,s1,s2,s3⟩:=u_2 (bytes:=32) (h:=h3++[some (.arr 4 [w.cells] false)]) (ys:=[w.cells]) oo (hx3.tr (Ext.b1 _)) X2.1 (by simp only[K_p]at lft ⊢;simp only[List.length_cons,K_d];omega)
    refine⟨o2,h4,s1,?_,((X2.tr hx3).tr (Ext.b1 _)).then s3 (λm hm hm'=>by omega)⟩
    rw[tk,List.filter_append,K_8,K_8]
    simpa [c0,eFl,ew2] using s2
   rcases t_0 (was:=R.flows) (node:=n) (last:=last) with⟨e1,e2⟩ | ⟨j,hj,e1,e2⟩
   ·rw[e1]
    have z0:¬(0:Int)<=-1:=by omega
    obtain⟨a2,h4,s1,s2,s3⟩:=fin _ (h'++[some (a5_.arr 1 [[.int .i64 n]] false)]++[some (a5_.arr 4 [[.int .i64 n,.int .i64 (last+1),.int .i64 0,.int .i64 0]] false)]) (Ext.b2 _ _) e2
    rw[<-c6_ (l4_ _ 4 [_] false (some 1) (len:=1) rfl)]at s1
    simp only[j2_.cells,J_z,List.length_cons,K_d]at s1
    simp only[go_sem,reduceEqDiff,reduceAdd,reduceLeDiff,k4,k13,decide_eq_false z0,J_z,List.length_cons,K_d,s1,ew]
    exact⟨_,by omega,(hI _ _ _).2 ⟨i+1,a2,by simp[a3_,k0],by simp[a3_,k1],by simp[a3_],by simp[a3_,k11],by simp[a3_,k12],by simp[a3_],s2,s3,ci,rfl⟩⟩
   ·rw[e1]
    have z0:(0:Int)<=j:=by omega
    obtain⟨q,c,i1,i2,i3⟩:=Rd.index (rd5 (some (a5_.arr 1 [[.int .i64 n]] false)) (some (a5_.arr 4 [[.int .i64 n,.int .i64 (last+1),.int .i64 0,.int .i64 0]] false))) .i64 (i:=(j:Int)) (d:=R.flows[j].c) (by omega) (by rw[show ((j:Int)).toNat=j by omega,K_s,J_5 hj];rfl)
    obtain rfl:=g_b i3
    have ld:o5_ (h'++[some (a5_.arr 1 [[.int .i64 n]] false)]++[some (a5_.arr 4 [[.int .i64 n,.int .i64 (last+1),.int .i64 0,.int .i64 0]] false)]) true 4 q=some (.agg R.flows[j].cells):=by rw[n2_ i2];rfl
    generalize R.flows[j]=w at *
    obtain⟨a2,h4,s1,s2,s3⟩:=fin w (h'++[some (a5_.arr 1 [[.int .i64 n]] false)]++[some (a5_.arr 4 [w.cells] false)]) (Ext.b2 _ _) e2
    rw[<-c6_ (l4_ _ 4 [_] false (some 1) (len:=1) rfl)]at s1
    simp only[j2_.cells,J_z,List.length_cons,K_d,reduceAdd]at s1 ld
    simp only[go_sem,reduceEqDiff,reduceAdd,reduceLeDiff,k0,k4,k13,decide_eq_true z0,row5,i1,ld,J_z,List.length_cons,K_d,s1,ew]
    exact⟨_,by omega,(hI _ _ _).2 ⟨i+1,a2,by simp[a3_,k0],by simp[a3_,k1],by simp[a3_],by simp[a3_,k11],by simp[a3_,k12],by simp[a3_],s2,s3,ci,rfl⟩⟩
 ·simp at ci
  obtain rfl:i=ms.length:=by omega
  rw[K_y]at oo
  obtain⟨of,cf⟩:=oo.flows
  have lr3:=(J_w.1 row3).1
  simp only[go_sem,reduceEqDiff,reduceAdd,reduceLeDiff,k0,k4,row3,of.scalar,b5_ of.scalar]
  subst hFl
  have ff2:(R.row g a)=[.int .i64 R.id,.int .i64 R.hard.group,.int .i64 R.hard.term,.int .i64 R.hard.vote,.int .i64 R.hard.log.base,.int .i64 R.hard.log.bterm,i5_ R.hard.log.es,g1_ R.hard.conf.old,g1_ R.hard.conf.new,g1_ R.hard.conf.learners,k0_ R.hard.snap,
   .int .i64 R.commit,.int .i64 R.applied,.int .i64 R.role,.int .i64 R.leader,.int .i64 R.elapsed,.int .i64 R.timeout,g,a,.int .i64 R.round,.int .i64 R.beat]:=rfl
  have hl:=hX.1
  exact XAt.setF (R':={R with flows:=(ms.filter λn=>!decide (n=R.id)).map λn=>A8_ R.flows n last}) hx X3 row3 rfl (by unfold wA;omega) ⟨ff,ra⟩ (Own.mono _ (λm hm=>by omega) (λ_ _ _ y=>y) _ of) cf
theorem p_2 (dep:Nat->Nat->Bool)(lo i:Nat)(l:List (Nat×Nat×a5_))(h:a0_):
  Y1_ dep lo 4 i l h=(((((l.any λx=>dep i x.1 && x.2.1 == lo) || I2_ h[lo]?) && ((l.any λx=>dep i x.1 && x.2.1 == lo+1) || I2_ h[lo+1]?)) && ((l.any λx=>dep i x.1 && x.2.1 == lo+1+1) || I2_ h[lo+1+1]?)) && ((l.any λx=>dep i x.1 && x.2.1 == lo+1+1+1) || I2_ h[lo+1+1+1]?)):=by
 simp[Y1_,List.range_succ,Bool.and_assoc,J_8]
attribute [go_sem] p_2
theorem k_h {h j:a0_}(i:Nat):(h++j)[h.length+i]?=j[i]?:=by rw[K_a (by omega)];congr 1;omega
structure m_y (lo n2 n3:Nat)(h:a0_)(l2 l3:List Int):Prop where
 ex:∃(a b:AV)(A B:Nat->Prop),h[n2]?=some (some (.arr 1 [[a]] false))/\h[n3]?=some (some (.arr 1 [[b]] false))/\(∀m,A m->lo<=m/\m≠n2/\m≠n3/\¬B m)/\(∀m,B m->lo<=m/\m≠n2/\m≠n3) /\
  Own (b1_ l2) A h a/\d2_ h a/\Own (b1_ l3) B h b/\d2_ h b
 lt:n2<h.length/\n3<h.length/\lo<=n2/\lo<=n3/\n2≠n3
theorem i_m {P:Program}{f:FuncId}(hf:Is P f g8_){lo n2 n3:Nat}{h:a0_}{l2 l3:List Int}(hh:m_y lo n2 n3 h l2 l3)(hl:l2.length<=2^20/\l3.length<=2^20)(w:j2_):
  a6_ P f [.agg w.cells,.ptr n2 1 0 0,.ptr n3 1 0 0] h λ_ h'=>m_y lo n2 n3 h' (l2++[w.node]) (l3++[w.mat])/\Ext (λm=>lo<=m) h h':=by
 refine a4_ hf.1 (J_y rfl) ?_
 show vc P g8_.code ⟨[(0,.agg w.cells),(1,.ptr n2 1 0 0),(2,.ptr n3 1 0 0)],[],h⟩ (b2_ g8_.res _)
 obtain⟨a,b,A,B,e2,e3,hA,hB,oa,ca,ob,cb⟩:=hh.ex
 obtain⟨lt2,lt3,lo2,lo3,ne⟩:=hh.lt
 have E2:∀x,(h++[x])[n2]?=_:=λx=>(Ext.b1 x).get e2
 have E3:∀x,(h++[x])[n3]?=_:=λx=>(Ext.b1 x).get e3
 have E2':∀x y z,(h++[x]++[y]++[z])[n2]?=_:=λx y z=>(Ext.b3 x y z).get e2
 have E3':∀x y z,(h++[x]++[y]++[z])[n3]?=_:=λx y z=>(Ext.b3 x y z).get e3
 have N2:∀n,f0_ (h.length+1) n (.ptr n2 1 0 0)=true:=λn=>d6_ (by omega)
 have N3:∀n,f0_ (h.length+1) n (.ptr n3 1 0 0)=true:=λn=>d6_ (by omega)
 have sa:=oa.scalar
 have sb:=ob.scalar
 simp only[g8_,j2_.cells,go_sem,reduceEqDiff,reduceAdd,reducePow,reduceDiv,reduceMod,decide_true,E2',E3',N2,N3,i3_]
 obtain⟨H4,hH4⟩:∃H4,H4=h++[some (a5_.arr 4 [[.int .i64 w.node,.int .i64 w.next,.int .i64 w.mat,.int .i64 w.round]] false)]++[some (a5_.arr 1 [[.int .i64 w.node]] false)]++[none]:=⟨_,rfl⟩
 have X4:Ext nof h H4:=by rw[hH4];exact Ext.b3 _ _ _
 have l4:H4.length=h.length+3:=by rw[hH4];simp
 have c0:H4[h.length]?=some (some (a5_.arr 4 [[.int .i64 w.node,.int .i64 w.next,.int .i64 w.mat,.int .i64 w.round]] false)):=by rw[hH4];exact v_s _ _ _ _
 have c1:H4[h.length+1]?=some (some (a5_.arr 1 [[.int .i64 w.node]] false)):=by rw[hH4];exact x_q _ _ _ _
 have c2:H4[h.length+1+1]?=some none:=by rw[hH4];exact B_k _ _ _ _
 have oa1:Own (b1_ l2) (λm=>(A m/\m<h.length)\/H4.length<=m) H4 a:=Own.mono _ (λm hm=>.inl hm) (λm hm y hy=>X4.get hy) _ (Own.lt _ _ oa)
 have ca1:d2_ H4 a:=ca.keep oa (λm hm y hy=>X4.get hy)
 obtain⟨a',h',s1,s2,s3,s4⟩:=W4_ (bytes:=8) (es:=[[.int .i64 w.node]]) (ys:=[[.int .i64 w.node]]) oa1 ca1 (Ext.refl _ _) (by simp[a8_,g2_,Own]) (λm hm=>.inr hm) (by simp;omega)
 have ae:q2_ H4 1 (.ref (h.length+1) 1 0 1 (some 1))=some [[.int .i64 w.node]]:=by simp[q2_,c1,go_sem,reduceIte]
 rw[<-c6_ ae]at s1
 rw[<-hH4,s1]
 have kk:∀m,m<H4.length->¬(A m/\m<h.length)->h'[m]?=H4[m]?:=λm hm hn=>s4.2 m hm (λz=>by rcases z with z | z;exact hn z;omega)
 have K0:=(kk h.length (by omega) (by omega)).trans c0
 have K1:=(kk (h.length+1) (by omega) (by omega)).trans c1
 have K2:=(kk (h.length+1+1) (by omega) (by omega)).trans c2
 have KE2:=(kk n2 (by omega) (λz=>(hA n2 z.1).2.1 rfl)).trans (X4.get e2)
 have KE3:=(kk n3 (by omega) (λz=>(hA n3 z.1).2.2.1 rfl)).trans (X4.get e3)
 have l':=s4.1
 have q0:(h.length+1+1=h.length)=False:=eq_false (by omega)
 have q1:(h.length+1+1=n2)=False:=eq_false (by omega)
 have q2:(h.length+1+1=n3)=False:=eq_false (by omega)
 have l2':h.length+1+1<h'.length:=by omega
 simp only[go_sem,reduceEqDiff,reducePow,reduceDiv,reduceMod,decide_true,i3_,d_m,L_t,K0,K1,K2,KE2,KE3,q0,q1,q2]
 obtain⟨H5,hH5⟩:∃H5,H5=h'.set (h.length+1+1) (some (a5_.arr 1 [[.int .i64 w.mat]] false)):=⟨_,rfl⟩
 have l5:H5.length=h'.length:=by rw[hH5,J_2]
 have k5:∀m,m≠h.length+1+1->H5[m]?=h'[m]?:=λm hm=>by rw[hH5];exact J_x (λe=>hm e.symm)
 have d2:H5[h.length+1+1]?=some (some (a5_.arr 1 [[.int .i64 w.mat]] false)):=by rw[hH5];exact J_0 l2'
 have keepB:v4_ (λm=>B m/\m<h.length) h H5:=λm hm y hy=>(k5 m (by omega)).trans ((kk m (by omega) (λz=>(hA m z.1).2.2.2 hm.1)).trans (X4.get hy))
 have ob1:Own (b1_ l3) (λm=>(B m/\m<h.length)\/H5.length<=m) H5 b:=Own.mono _ (λm hm=>.inl hm) keepB _ (Own.lt _ _ ob)
 have cb1:d2_ H5 b:=cb.keep (Own.lt _ _ ob) keepB
 obtain⟨b',h6,t1,t2,t3,t4⟩:=W4_ (bytes:=8) (es:=[[.int .i64 w.mat]]) (ys:=[[.int .i64 w.mat]]) ob1 cb1 (Ext.refl _ _) (by simp[a8_,g2_,Own]) (λm hm=>.inr hm) (by simp;omega)
 have ae5:q2_ H5 1 (.ref (h.length+1+1) 1 0 1 (some 1))=some [[.int .i64 w.mat]]:=by simp[q2_,d2,go_sem,reduceIte]
 rw[<-c6_ ae5]at t1
 rw[<-hH5,t1]
 have kk6:∀m,m<H5.length->¬(B m/\m<h.length)->h6[m]?=H5[m]?:=λm hm hn=>t4.2 m hm (λz=>by rcases z with z | z;exact hn z;omega)
 have L0:=(kk6 h.length (by omega) (by omega)).trans ((k5 _ (by omega)).trans K0)
 have L1:=(kk6 (h.length+1) (by omega) (by omega)).trans ((k5 _ (by omega)).trans K1)
 have L2:=(kk6 (h.length+1+1) (by omega) (by omega)).trans d2
 have LE2:=(kk6 n2 (by omega) (λz=>(hB n2 z.1).2.1 rfl)).trans ((k5 _ (by omega)).trans KE2)
 have LE3:=(kk6 n3 (by omega) (λz=>(hB n3 z.1).2.2 rfl)).trans ((k5 _ (by omega)).trans KE3)
 have l6:=t4.1
 have sa':=s2.scalar
 have sb':=t2.scalar
 have ne':(n2=n3)=False:=eq_false ne
 have ne'':(n3=n2)=False:=eq_false (λe=>ne e.symm)
 have l62:n2<h6.length:=by omega
 have l63:n3<h6.length:=by omega
 have p0:(n2=h.length+1)=False:=eq_false (by omega)
 have p1:(n2=h.length+1+1)=False:=eq_false (by omega)
 have p2:(n3=h.length+1)=False:=eq_false (by omega)
 have p3:(n3=h.length+1+1)=False:=eq_false (by omega)
 simp only[go_sem,reduceEqDiff,reduceAdd,reduceLeDiff,reducePow,reduceDiv,reduceMod,decide_true,i3_,d_m,L_t,L0,L1,L2,LE2,LE3,ne',ne'',sa',sb',b5_ sa',b5_ sb',l62,p0,p1,p2,p3,Bool.or_true,Bool.true_or,Bool.and_true,M_q]
 have k7:∀m,m≠n2->m≠n3->((h6.set n2 (some (a5_.arr 1 [[a']] false))).set n3 (some (a5_.arr 1 [[b']] false)))[m]?=h6[m]?:=λm z2 z3=>(J_x (λe=>z3 e.symm)).trans (J_x (λe=>z2 e.symm))
 have e4:b1_ (l2++[w.node])=.sl 1 (l2.map (λn=>[D.int .i64 n])++[[.int .i64 w.node]]):=by simp[b1_]
 have e5:b1_ (l3++[w.mat])=.sl 1 (l3.map (λn=>[D.int .i64 n])++[[.int .i64 w.mat]]):=by simp[b1_]
 have kA:v4_ (λm=>((A m/\m<h.length)\/H4.length<=m)/\m<h'.length) h' ((h6.set n2 (some (a5_.arr 1 [[a']] false))).set n3 (some (a5_.arr 1 [[b']] false))):=by
  rintro m ⟨hm,hlt⟩ y hy
  have hne:m≠n2/\m≠n3/\m≠h.length+1+1/\¬(B m/\m<h.length):=by
   rcases hm with⟨z,z'⟩ | z
   ·have:=hA m z;exact⟨this.2.1,this.2.2.1,by omega,λq=>this.2.2.2 q.1⟩
   ·exact⟨by omega,by omega,by omega,λq=>by omega⟩
  exact (k7 m hne.1 hne.2.1).trans ((kk6 m (by omega) hne.2.2.2).trans ((k5 m hne.2.2.1).trans hy))
 have kB:v4_ (λm=>((B m/\m<h.length)\/H5.length<=m)/\m<h6.length) h6 ((h6.set n2 (some (a5_.arr 1 [[a']] false))).set n3 (some (a5_.arr 1 [[b']] false))):=by
  rintro m ⟨hm,hlt⟩ y hy
  have hne:m≠n2/\m≠n3:=by
   rcases hm with⟨z,z'⟩ | z
   ·exact (hB m z).2
   ·exact⟨by omega,by omega⟩
  exact (k7 m hne.1 hne.2).trans hy
 have s2':=Own.lt _ _ s2
 have t2':=Own.lt _ _ t2
 refine⟨⟨⟨a',b',λm=>((A m/\m<h.length)\/H4.length<=m)/\m<h'.length,λm=>((B m/\m<h.length)\/H5.length<=m)/\m<h6.length,?_,?_,?_,?_,?_,?_,?_,?_⟩,⟨by simp;omega,by simp;omega,lo2,lo3,ne⟩⟩,?_⟩
 ·rw[J_x (λe=>ne e.symm),J_0 l62]
 ·rw[J_0 (by simp;omega)]
 ·rintro m ⟨hm,hlt⟩
  rcases hm with⟨z,z'⟩ | z
  ·have:=hA m z;exact⟨this.1,this.2.1,this.2.2.1,λq=>by rcases q.1 with q | q;exact this.2.2.2 q.1;omega⟩
  ·exact⟨by omega,by omega,by omega,λq=>by rcases q.1 with q | q<;>omega⟩
 ·rintro m ⟨hm,hlt⟩
  rcases hm with⟨z,z'⟩ | z
  ·exact hB m z
  ·exact⟨by omega,by omega,by omega⟩
 ·rw[e4];exact Own.mono _ (λm hm=>hm) kA _ s2'
 ·exact s3.keep s2' kA
 ·rw[e5];exact Own.mono _ (λm hm=>hm) kB _ t2'
 ·exact t3.keep t2' kB
 ·refine⟨by simp;omega,λm hm hlo=>?_⟩
  have nA:¬(A m/\m<h.length):=λz=>hlo (hA m z.1).1
  have nB:¬(B m/\m<h.length):=λz=>hlo (hB m z.1).1
  exact (k7 m (λe=>hlo (by omega)) (λe=>hlo (by omega))).trans ((kk6 m (by omega) nB).trans ((k5 m (by omega)).trans ((kk m (by omega) nA).trans (X4.2 m hm (λy=>y)))))
theorem m_y.up {lo n2 n3:Nat}{h h':a0_}{l2 l3:List Int}(hh:m_y lo n2 n3 h l2 l3)(hx:Ext nof h h'):m_y lo n2 n3 h' l2 l3:=by
 obtain⟨⟨a,b,A,B,e2,e3,hA,hB,oa,ca,ob,cb⟩,lt2,lt3,lo2,lo3,ne⟩:=hh
 have kA:∀F,v4_ F h h':=λF m hm y hy=>hx.get hy
 exact⟨⟨a,b,A,B,hx.get e2,hx.get e3,hA,hB,Own.mono _ (λ_ y=>y) (kA _) _ oa,ca.keep oa (kA _),Own.mono _ (λ_ y=>y) (kA _) _ ob,cb.keep ob (kA _)⟩,by have:=hx.1;omega,by have:=hx.1;omega,lo2,lo3,ne⟩
def O3_ (P:Program)(f:FuncId):Prop:=f2_ P f=true/\∀(L:Nat->Nat)(h:a0_)(r o:Nat)(x:RX)(k:Nat),XAt L h r o x->x.r.fit k->k<=2^28->
 a6_ P f [.agg [.ptr r 21 0 0,.ptr o 5 0 0]] h λ_ h'=>XTo wA nof L h r o x.settle h'
theorem o_5 {P:Program}{f f1 f2 f3 f4 f5 f6:FuncId}(hf:Is P f (l6_ f1 f2 f3 f4 f5 f6))(h1:L1_ P f1)(h2:Is P f2 g8_)(h3:d_9 P f3)(h4:m_5 P f4)(h5:h_t P f5)(u6:R3_ P f6):O3_ P f:=by
 refine⟨hf.2,λL h r o x k hx hfit hk=>a4_ hf.1 (J_y rfl) ?_⟩
 show vc P (l6_ f1 f2 f3 f4 f5 f6).code ⟨[(0,.agg [.ptr r 21 0 0,.ptr o 5 0 0])],[],h⟩ (b2_ (l6_ f1 f2 f3 f4 f5 f6).res _)
 obtain⟨R,out⟩:=x
 simp only at hfit
 have lt:=hx.lt
 obtain⟨g,ff,ra⟩:=id hx.r
 obtain⟨ma,ca,aa,oa⟩:=id hx.o
 have rr:=ra.row
 have lr:=(J_w.1 rr).1
 have rdf:=Own.rd _ (F':=λm=>L m=2/\m<h.length) (λ_ y=>y) _ (Own.lt _ _ ra.fo)
 have hfl:=hfit.flows.1
 simp only[b4_.row]at rr
 have R1:∀a,(h++[a])[r]?=_:=λa=>(Ext.b1 a).get rr
 have B1:=x3_ h (some (a5_.arr 2 [[.ptr r 21 0 0,.ptr o 5 0 0]] false))
 have R5:∀a b c d e,(h++[a]++[b]++[c]++[d]++[e])[r]?=_:=λa b c d e=>((Ext.b4 a b c d).tr (Ext.b1 e)).get rr
 have NR:∀sz i o',f0_ (h.length+1) 4 (.ptr r sz i o')=true:=λsz i o'=>d6_ (by omega)
 have NB:∀sz i o',f0_ (h.length+1) 4 (.ptr h.length sz i o')=true:=λsz i o'=>d6_ (by omega)
 have rw5:∀a b c d e,x_3 (h++[a]++[b]++[c]++[d]++[e]) r R:=λa b c d e=>⟨g,ff,R5 a b c d e⟩
 have a3:h.length+1+3=h.length+1+1+1+1:=rfl
 have a2:h.length+1+2=h.length+1+1+1:=rfl
 simp only[l6_,go_sem,reduceEqDiff,reduceAdd,reducePow,reduceDiv,reduceMod,i3_,R5,NR,NB,a2,a3]
 refine j4_ h1.1 (h1.2 _ r R (rw5 _ _ _ _ _) (hfit.logOk hk)) ?_
 simp only[go_sem,reduceEqDiff,reduceAdd,reduceLeDiff,reducePow,reduceDiv,reduceMod,decide_true,i3_,R5]
 refine⟨by simp,by simp,by simp,?_⟩
 obtain⟨H5,hH5⟩:∃H5,H5=h++[some (a5_.arr 2 [[.ptr r 21 0 0,.ptr o 5 0 0]] false)]++[some (a5_.arr 1 [[.int .i64 R.id]] false)]++[some (a5_.arr 1 [[.int .i64 R.last]] false)]++[some (a5_.arr 1 [[.ref (h.length+1) 1 0 1 (some 1)]] false)]++[some (a5_.arr 1 [[.ref (h.length+1+1) 1 0 1 (some 1)]] false)]:=⟨_,rfl⟩
 have X5:Ext nof h H5:=by rw[hH5];exact (Ext.b4 _ _ _ _).tr (Ext.b1 _)
 have l5:H5.length=h.length+5:=by rw[hH5];simp
 have H5':H5=h++[some (a5_.arr 2 [[.ptr r 21 0 0,.ptr o 5 0 0]] false),some (a5_.arr 1 [[.int .i64 R.id]] false),some (a5_.arr 1 [[.int .i64 R.last]] false),some (a5_.arr 1 [[.ref (h.length+1) 1 0 1 (some 1)]] false),some (a5_.arr 1 [[.ref (h.length+1+1) 1 0 1 (some 1)]] false)]:=by rw[hH5];simp
 have C0:H5[h.length]?=some (some (a5_.arr 2 [[.ptr r 21 0 0,.ptr o 5 0 0]] false)):=by rw[H5'];exact k_h 0
 have C1:H5[h.length+1]?=some (some (a5_.arr 1 [[.int .i64 R.id]] false)):=by rw[H5'];exact k_h 1
 have C2:H5[h.length+1+1]?=some (some (a5_.arr 1 [[.int .i64 R.last]] false)):=by rw[H5'];exact k_h 2
 have C3:H5[h.length+1+1+1]?=some (some (a5_.arr 1 [[.ref (h.length+1) 1 0 1 (some 1)]] false)):=by rw[H5'];exact k_h 3
 have C4:H5[h.length+1+1+1+1]?=some (some (a5_.arr 1 [[.ref (h.length+1+1) 1 0 1 (some 1)]] false)):=by rw[H5'];exact k_h 4
 clear H5'
 rw[<-hH5]
 clear hH5
 have T0:m_y (h.length+1) (h.length+1+1+1) (h.length+1+1+1+1) H5 [R.id] [R.last]:=by
  refine⟨⟨_,_,λm=>m=h.length+1,λm=>m=h.length+1+1,C3,C4,λm hm=>⟨by omega,by omega,by omega,by omega⟩,λm hm=>⟨by omega,by omega,by omega⟩,?_,⟨_,_,C1,(λe=>by cases e),(λc hc=>by cases hc;simp)⟩,?_,⟨_,_,C2,(λe=>by cases e),(λc hc=>by cases hc;simp)⟩⟩,by omega,by omega,by omega,by omega,by omega⟩
  ·exact .inr (.inr ⟨_,0,some 1,_,_,rfl,rfl,C1,by simp,(λc hc=>by cases hc;simp),by simp[a8_,g2_,Own]⟩)
  ·exact .inr (.inr ⟨_,0,some 1,_,_,rfl,rfl,C2,by simp,(λc hc=>by cases hc;simp),by simp[a8_,g2_,Own]⟩)
 obtain⟨J,hJ⟩:∃J:Nat->a0_->Prop,∀k h',J k h'↔m_y (h.length+1) (h.length+1+1+1) (h.length+1+1+1+1) h' (R.id :: (R.flows.take k).map j2_.node) (R.last :: (R.flows.take k).map j2_.mat)/\Ext (λm=>h.length+1<=m) H5 h':=⟨_,λ_ _=>Iff.rfl⟩
 have J1:∀k h',J k h'->Rd (λm=>L m=2/\m<h.length) h' (N7_ R.flows) ff:=by
  intro k h' hh
  obtain⟨-,e⟩:=(hJ k h').1 hh
  exact Rd.mono (λ_ y=>y) (λm hm y hy=>(e.2 m (by omega) (by omega)).trans (X5.get hy)) _ _ rdf
 have J2:∀k (hk:k<R.flows.length) h' H,J k h'->Ext nof h' H->a6_ P f2 ([]++[.agg (R.flows[k]).cells]++[.ptr (h.length+1+1+1) 1 0 0,.ptr (h.length+1+1+1+1) 1 0 0]) H λ_ h''=>J (k+1) h'':=by
  intro k hk h' H hh hX
  obtain⟨t,e⟩:=(hJ k h').1 hh
  have ek:R.flows.take (k+1)=R.flows.take k++[R.flows[k]]:=K_f hk
  have tl:=M_l k R.flows
  refine (i_m h2 (t.up hX) ⟨by simp;omega,by simp;omega⟩ R.flows[k]).mono λv h'' z=>(hJ _ _).2 ?_
  rw[ek]
  refine⟨by rw[K_8,K_8];exact z.1,(e.trans (hX.trans z.2 (F'':=λm=>h.length+1<=m) (λ_ _ y=>y.elim) (λ_ _ y=>y)) (λ_ _ y=>y) (λ_ _ y=>y))⟩
 refine a1_ ⟨h3.1,h3.2 (λm=>L m=2/\m<h.length) H5 r R g ff f2 [] [.ptr (h.length+1+1+1) 1 0 0,.ptr (h.length+1+1+1+1) 1 0 0] J (X5.get ra.row) h2.2 (by omega) ((hJ _ _).2 ⟨by simpa using T0,Ext.refl _ _⟩) J1 J2⟩ ?_
 rintro _ h6 hh
 obtain⟨t6,e6⟩:=(hJ _ _).1 hh
 rw[K_y]at t6
 obtain⟨a,b,A,B,e2,e3,hA,hB,oa',ca,ob,cb⟩:=t6.ex
 have X6:Ext nof h h6:=⟨by have:=X5.1;have:=e6.1;omega,λm hm _=>(e6.2 m (by omega) (by omega)).trans (X5.2 m hm (λy=>y))⟩
 have r6:=X6.get rr
 have l6:=X6.1
 have b6:=(e6.2 h.length (by omega) (by omega)).trans C0
 have sa:=oa'.scalar
 have sb:=ob.scalar
 have ra':=Own.rd _ (F':=A) (λ_ y=>y) _ oa'
 have rb':=Own.rd _ (F':=B) (λ_ y=>y) _ ob
 simp only[go_sem,reduceEqDiff,b6,e2,e3]
 refine j4_ h4.1 (h4.2 h6 r R ⟨g,ff,r6⟩ (hfit.ofR hk)) ?_
 simp only[go_sem,reduceEqDiff,reducePow,reduceDiv,reduceMod,decide_true,b6,e2,e3]
 refine j4_ h5.1 (h5.2 nof A B h6 R.now _ _ _ _ _ (W3_ nof h6 R.now) ra' rb' (hfit.nowFew (by decide)) (by simp;omega) (by simp;omega)) ?_
 simp only[go_sem,reduceEqDiff,reduceAdd,reduceLeDiff,reducePow,reduceDiv,reduceMod,decide_true,b6,r6,e2,e3]
 refine j4_ u6.1 (u6.2 nof h6 R.hard.log _ _ (v2_ R.hard.log h6) (hfit.logOk hk)) ?_
 have eS:R.now.agreed (R.id :: R.flows.map j2_.node) (R.last :: R.flows.map j2_.mat)=R.settled:=rfl
 rw[eS]
 have hx6:=hx.up X6
 have lr6:=(J_w.1 r6).1
 have no:R.settle=R->XTo wA nof L h r o (({r:=R,o:=out}:RX).settle) h6:=λe=>by
  have:(({r:=R,o:=out}:RX).settle)=⟨R,out⟩:=by show (⟨R.settle,out⟩:RX)=_;rw[e]
  rw[this];exact XTo.from X6 hx6.to
 simp only[go_sem,reduceEqDiff,reduceAdd,b6,r6]
 by_cases c1:R.commit<R.settled
 ·cases c2:R.hard.log.has R.settled
  ·simp only[go_sem,reduceEqDiff,decide_eq_true c1]
   exact no (by unfold b4_.settle;rw[if_neg (by simp[c2])])
  ·by_cases c3:R.hard.log.term R.settled=R.hard.term
   ·simp only[go_sem,reduceEqDiff,reduceAdd,reduceLeDiff,b6,r6,decide_eq_true c1,decide_eq_true c3]
    obtain⟨g6,f6,ra6⟩:=hx6.r
    obtain⟨ma6,ca6,aa6,oa6⟩:=hx6.o
    have e7:(({r:=R,o:=out}:RX).settle)=⟨{R with commit:=R.settled},out⟩:=by
     show (⟨R.settle,out⟩:RX)=_;unfold b4_.settle;rw[if_pos ⟨c1,c2,c3⟩]
    rw[e7]
    have ra7:=(ra.keep (h':=h6) (λ_ _ _=>rfl) λm hm _=>X6.2 m hm (λy=>y))
    exact XTo.from X6 (XAt.setR (R':={R with commit:=R.settled}) ra7 oa6 hx6.lt rfl rfl)
   ·simp only[go_sem,reduceEqDiff,reduceAdd,b6,r6,decide_eq_true c1,decide_eq_false c3]
    exact no (by unfold b4_.settle;rw[if_neg (λz=>c3 z.2.2)])
 ·simp only[go_sem,reduceEqDiff,decide_eq_false c1]
  exact no (by unfold b4_.settle;rw[if_neg (λz=>c1 z.1)])
def n_d (P:Program)(f:FuncId):Prop:=f2_ P f=true/\∀(F:Nat->Prop)(h:a0_)(l:Log)(a:List AV)(prev:Int)(e:List e0_)(b:AV),RdL F h l.c a->Rd F h (b7_ e) b->E3_ l->i0_ e->
 a6_ P f [.agg a,.int .i64 prev,b] h λr h'=>r=.tup [.agg (l.laid prev e).v,.int .i64 (l.laidAt prev e)]/\h'=h
theorem c_d.p {P:Program}{f:FuncId}(hc:c_d P f):n_d P f:=⟨hc.1,λF h l a prev e b ha hb hl he=>(hc.2 F h l a prev e b ha hb hl he).freeze λ_ _ ⟨_,h1,h2,h3⟩=>⟨h3,_,h1▸Frz.tup2 (Frz.aggD (g2_.fz _ (λ_ x=>x) _ h2)) (Frz.int _ _),rfl⟩⟩
theorem wA0:¬wA 0:=λh=>h rfl
theorem XTo.keep {W Q L h r o x h' m}{b:Option a5_}(T:XTo W Q L h r o x h')(h0:¬W (L m))(hq:¬Q m) (hb:h[m]?=some b):h'[m]?=some b:=by
 obtain⟨L1,x1,l1,e1⟩:=T
 exact (e1.2 m (J_w.1 hb).1 (λz=>z.elim h0 hq)).trans hb
theorem XTo.rowR {W Q L h r o x h'}(T:XTo W Q L h r o x h'):x_3 h' r x.r:=let⟨_,x1,_⟩:=T;x1.rowR
theorem XAt.ge {L h r o x}(a:XAt L h r o x){m:Nat}(hm:h.length<=m):L m=0:=Classical.byContradiction λz=>by have:=a.lt m z;omega
theorem XTo.callN {P:Program}{f:FuncId}{avs:List AV}{W Q Q' L h r o x h' h3 x'}{K:AV->Prop}(T:XTo W Q L h r o x h')(hx:Ext nof h' h3)(hQ:∀m,m<h.length->Q' m->Q m)
  (hc:∀L1,XAt L1 h' r o x->a6_ P f avs h3 λv h''=>K v/\XTo W Q' L1 h3 r o x' h''):a6_ P f avs h3 λv h''=>K v/\XTo W Q L h r o x' h'':=by
 obtain⟨L1,x1,l1,e1⟩:=T
 refine (hc L1 x1).mono ?_
 rintro v h'' ⟨k,b⟩
 exact⟨k,XTo.trans1 l1 e1 hQ (XTo.from hx b)⟩
theorem XTo.callM {P:Program}{f:FuncId}{avs:List AV}{W Q Q' L h r o x h' h3 x'}(T:XTo W Q L h r o x h')(hx:Ext nof h' h3)(hQ:∀m,m<h.length->Q' m->Q m)
  (hc:∀L1,XAt L1 h' r o x->a6_ P f avs h3 λ_ h''=>XTo W Q' L1 h3 r o x' h''):a6_ P f avs h3 λ_ h''=>XTo W Q L h r o x' h'':=
 (T.callN (K:=λ_=>True) hx hQ λL1 x1=>(hc L1 x1).mono λ_ _ b=>⟨trivial,b⟩).mono λ_ _ b=>b.2
theorem XTo.setR {W Q L h r o R R' out h' g f}(T:XTo W Q L h r o ⟨R,out⟩ h') (row:h'[r]?=some (some (.arr 21 [R.row g f] false))) (e1:R'.granted=R.granted) (e2:R'.flows=R.flows) (hW:∀k,k≠0->W k):
  XTo W Q L h r o ⟨R',out⟩ (h'.set r (some (.arr 21 [R'.row g f] false))):=by
 obtain⟨L1,x1,l1,e1'⟩:=T
 obtain⟨g1,f1,ra⟩:=x1.r
 obtain⟨ma,ca,aa,oa⟩:=x1.o
 have:=ra.row.symm.trans row
 simp only[Option.some.injEq,a5_.arr.injEq,List.cons.injEq,b4_.row]at this
 obtain⟨-,⟨⟨-,-,-,-,-,-,-,-,-,-,-,-,-,-,-,-,-,rfl,rfl,-⟩,-⟩,-⟩:=this
 exact XTo.trans1 l1 e1' (λ_ _ y=>y) ((XAt.setR (Q:=Q) ra oa x1.lt e1 e2).weakW λk hk=>hW k hk)
theorem C_c {F:Nat->Prop}{h:a0_}{n:Nat}{t k:Int}{data:List Int}{d:AV}{G:Nat->Prop} (hb:h[n]?=some (some (.arr 3 [[.int .i64 t,.int .i64 k,d]] false))) (hd:Rd G h (b3_ data) d) (hF:∀m,G m->F m) (hn:F n):
  Rd F h (b7_ [⟨t,k,data⟩]) (.ref n 3 0 1 (some 1)):=by
 refine⟨_,.inr (.inr ⟨n,0,1,some 1,_,_,rfl,hn,hb,by simp,(λc hc=>by cases hc;omega),rfl⟩),?_⟩
 simp only[K_t,K_9,e0_.c,E4_,RdL,Rd,L_d,List.take_succ_cons,List.take_zero]
 exact⟨_,_,rfl,⟨_,_,rfl,rfl,_,_,rfl,rfl,_,_,rfl,Rd.mono hF (λ_ _ _ y=>y) _ _ hd,rfl⟩,rfl⟩
def o_b (P:Program)(f:FuncId):Prop:=f2_ P f=true/\∀(G:Nat->Prop)(L:Nat->Nat)(h:a0_)(r o:Nat)(x:RX)(k j:Nat)(kind:Int)(data:List Int)(d:AV),XAt L h r o x->x.r.fit k->k<2^28->x.few j->j<=2^20->Rd G h (b3_ data) d->c2_ data/\data.length<=2^16->e2_ kind->
 a6_ P f [.agg [.ptr r 21 0 0,.ptr o 5 0 0],.int .i64 kind,d] h λv h'=>v=.int .i64 (x.r.last+1)/\XTo wA nof L h r o (x.lay kind data) h'
theorem z_z {P:Program}{f f1 f2 f3 f4 f5:FuncId}(hf:Is P f (r5_ f1 f2 f3 f4 f5))(u1:L1_ P f1)(u2:n_d P f2)(u3:L0_ P f3)(u4:f_t P f4)(u5:h_f P f5):o_b P f:=by
 refine⟨hf.2,λG L h r o x k j kind data d hx hfit hk hj hj2 hd hdata hkind=>a4_ hf.1 (J_y rfl) ?_⟩
 show vc P (r5_ f1 f2 f3 f4 f5).code ⟨[(0,.agg [.ptr r 21 0 0,.ptr o 5 0 0]),(1,.int .i64 kind),(2,d)],[],h⟩ (b2_ (r5_ f1 f2 f3 f4 f5).res _)
 have hmore:=hfit.more (e:=⟨x.r.hard.term,kind,data⟩) ⟨hdata,⟨by have:=hfit.term;show _<=x.r.hard.term;omega,by have:=hfit.term;show x.r.hard.term<=_;omega⟩,hkind⟩
 have hr:=C_m x kind data
 have ho:=C_n x kind data
 have elay:x.lay kind data=⟨(x.lay kind data).r,(x.lay kind data).o⟩:=rfl
 rw[elay,hr,ho]
 obtain⟨R,out⟩:=x
 simp only at hfit hmore hj ⊢
 have lt:=hx.lt
 obtain⟨g,ff,ra⟩:=id hx.r
 have rr:=ra.row
 have lr:=(J_w.1 rr).1
 simp only[b4_.row]at rr
 have R1:∀a,(h++[a])[r]?=_:=λa=>(Ext.b1 a).get rr
 have R2:∀a b,(h++[a]++[b])[r]?=_:=λa b=>(Ext.b2 a b).get rr
 have sd:=hd.scalar
 have bl:=hfit.base
 have ll:=hfit.last
 have hl0:0<=R.last:=by unfold b4_.last Log.last;omega
 have hl1:R.last<=2^40+k:=hfit.last
 have ew:IntKind.i64.wrap (R.last+1)=R.last+1:=a7_ (by omega)
 simp only[r5_,go_sem,reduceEqDiff,reduceAdd]
 refine j4_ u1.1 (u1.2 _ r R ⟨g,ff,R1 _⟩ (hfit.logOk (by omega))) ?_
 obtain⟨H1,hH1⟩:∃H1,H1=h++[some (a5_.arr 2 [[.ptr r 21 0 0,.ptr o 5 0 0]] false)]++[some (a5_.arr 3 [[.int .i64 R.hard.term,.int .i64 kind,d]] false)]:=⟨_,rfl⟩
 have X1:Ext nof h H1:=by rw[hH1];exact Ext.b2 _ _
 have l1:H1.length=h.length+2:=by rw[hH1];simp
 have C0:H1[h.length]?=some (some (a5_.arr 2 [[.ptr r 21 0 0,.ptr o 5 0 0]] false)):=by rw[hH1];exact b_z _ _ _
 have C1:H1[h.length+1]?=some (some (a5_.arr 3 [[.int .i64 R.hard.term,.int .i64 kind,d]] false)):=by rw[hH1];exact O1_ _ _ _
 have r1:=X1.get rr
 have lr1:=(J_w.1 r1).1
 have ne0:(r=h.length)=False:=eq_false (by omega)
 have ap:=u2.2 (λ_=>True) H1 R.hard.log _ R.last [⟨R.hard.term,kind,data⟩] (.ref (h.length+1) 3 0 1 (some 1)) (RdL.mono (F:=nof) (λ_ _=>trivial) (λ_ _ _ y=>y) _ _ (v2_ R.hard.log H1)) (C_c C1 (hd.up X1) (λ_ _=>trivial) trivial) (hfit.logOk (by omega)) ⟨by simp,λe he=>by simp at he;subst he;show data.length<=_;omega⟩
 have elaid:R.hard.log.laid R.last [⟨R.hard.term,kind,data⟩]=⟨R.hard.log.base,R.hard.log.bterm,R.hard.log.es++[⟨R.hard.term,kind,data⟩]⟩:=laid_one _ _
 rw[elaid]at ap
 simp only[Log.v_eq]at ap
 simp only[go_sem,reduceEqDiff,reduceAdd,reduceLeDiff,R1,R2,sd,b5_ sd]
 rw[<-hH1]
 clear hH1
 refine j4_ u2.1 ap ?_
 rw[d9_]
 simp only[go_sem,reduceEqDiff,reduceAdd,reduceLeDiff,reducePow,reduceDiv,reduceMod,decide_true,r1,C0,lr1,ne0]
 rw[ew]
 have hx1:=hx.up X1
 have ra1:=(ra.keep (h':=H1) (λ_ _ _=>rfl) λm hm _=>X1.2 m hm (λy=>y))
 obtain⟨ma1,ca1,aa1,oa1⟩:=id hx1.o
 obtain⟨R',hR'⟩:∃R':b4_,R'={R with hard:={R.hard with log:=⟨R.hard.log.base,R.hard.log.bterm,R.hard.log.es++[⟨R.hard.term,kind,data⟩]⟩}}:=⟨_,rfl⟩
 have T1:XTo wA nof L H1 r o ⟨R',out⟩ (H1.set r (some (.arr 21 [R'.row g ff] false))):=XAt.setR ra1 oa1 hx1.lt (by rw[hR']) (by rw[hR'])
 have hmore:R'.fit (k+1):=by rw[hR'];exact hmore
 obtain⟨H2,hH2⟩:∃H2,H2=H1.set r (some (.arr 21 [R'.row g ff] false)):=⟨_,rfl⟩
 have row2:R'.row g ff=[.int .i64 R.id,.int .i64 R.hard.group,.int .i64 R.hard.term,.int .i64 R.hard.vote,.int .i64 R.hard.log.base,.int .i64 R.hard.log.bterm,i5_ (R.hard.log.es++[⟨R.hard.term,kind,data⟩]),g1_ R.hard.conf.old,g1_ R.hard.conf.new,g1_ R.hard.conf.learners,k0_ R.hard.snap,
  .int .i64 R.commit,.int .i64 R.applied,.int .i64 R.role,.int .i64 R.leader,.int .i64 R.elapsed,.int .i64 R.timeout,g,ff,.int .i64 R.round,.int .i64 R.beat]:=by rw[hR'];rfl
 have r2:H2[r]?=some (some (.arr 21 [R'.row g ff] false)):=by rw[hH2];exact J_0 lr1
 rw[<-hH2]at T1
 rw[row2]at hH2 r2
 rw[<-hH2]
 have eR'l:R'.hard.log=⟨R.hard.log.base,R.hard.log.bterm,R.hard.log.es++[⟨R.hard.term,kind,data⟩]⟩:=by rw[hR']
 have eR'g:R'.hard.group=R.hard.group:=by rw[hR']
 have sl:=u3.2 nof H2 R'.hard.log _ (R.last+1) 1 (v2_ R'.hard.log H2) (hmore.logOk (by omega))
 have es:R'.hard.log.slice (R.last+1) 1=[⟨R.hard.term,kind,data⟩]:=by rw[eR'l,<-laid_one];exact i_j _ _
 rw[es,eR'l]at sl
 simp only at sl
 refine a1_ ⟨u3.1,sl⟩ ?_
 rintro e1 H3 ⟨oe,-,X3⟩
 have se:=oe.scalar
 have z2:∀m,L m=0->¬wA (L m):=λm e=>by rw[e];exact wA0
 have C2:=T1.keep (z2 _ (hx.ge (J_4 _))) (λy=>y) C0
 have C3:=X3.get C2
 rw[d9_]
 have r3:=X3.get r2
 simp only[go_sem,reduceEqDiff,reduceAdd,reduceLeDiff,reducePow,reduceDiv,reduceMod,decide_true,C3,b5_ se,r3]
 have el:({b9_.zero with kind:=2,from_:=R.last+1,log:=⟨0,0,[⟨R.hard.term,kind,data⟩]⟩}:b9_).cells e1 .nils .nils .nils .nils=[.int .i64 2,.int .i64 0,.int .i64 0,.int .i64 0,.int .i64 (R.last+1),.int .i64 0,.int .i64 0,e1,.nils,.nils,.nils,.nils,.int .i64 0,.int .i64 0,.int .i64 0,.int .i64 0,.int .i64 0]:=rfl
 have tl:=XTo.callM (Q':=λm=>H2.length<=m) T1 X3 (λm hm (z:H2.length<=m)=>by rw[hH2,J_2]at z;omega) λL1 x1=>
  (u4.2 (λm=>H2.length<=m) L1 H3 r o _ {b9_.zero with kind:=2,from_:=R.last+1,log:=⟨0,0,[⟨R.hard.term,kind,data⟩]⟩} e1 .nils .nils .nils .nils (x1.up X3) oe (Own.nils 1) (Own.nils 1) (Own.nils 1) (Own.nils 1) (λn hn=>x1.ge hn) (by have:=hj.2;show (out.changes.length+1)*216<=2^46;have a:out.changes.length+1<=2^21:=by {have b:out.changes.length<=j:=this;omega};exact K_e (K_w 216 a) (by decide))).mono λ_ _ b=>b.weakW Z6_
 rw[el]at tl
 refine a1_ ⟨u4.1,tl⟩ ?_
 intro _ H4 T2
 have D2:=T2.keep (z2 _ (hx.ge (J_4 _))) (λy=>y) C0
 rw[d9_]
 simp only[go_sem,reduceEqDiff,reduceAdd,reduceLeDiff,reducePow,reduceDiv,reduceMod,decide_true,D2]
 have eT:(({r:=R',o:=out}:RX).tell {b9_.zero with kind:=2,from_:=R.last+1,log:=⟨0,0,[⟨R.hard.term,kind,data⟩]⟩})=⟨R',{out with changes:=out.changes++[{b9_.zero with kind:=2,group:=R.hard.group,from_:=R.last+1,log:=⟨0,0,[⟨R.hard.term,kind,data⟩]⟩}]}⟩:=by
  unfold RX.tell;simp only[eR'g]
 rw[eT]at T2
 by_cases c:kind=2
 ·simp only[go_sem,reduceEqDiff,decide_eq_true c,D2]
  have mt:=XTo.callM (Q':=nof) T2 (Ext.refl _ _) (λ_ _ y=>y) λL1 x1=>u5.2 L1 H4 r o _ (k+1) R.last x1 hmore (by omega) ⟨hl0,by omega⟩
  refine a1_ ⟨u5.1,mt⟩ ?_
  intro _ H5 T3
  rw[if_pos c,<-hR']
  simp only[go_sem,reduceEqDiff,ew]
  have e5:R'.flows=R.flows:=by rw[hR']
  rw[<-e5]
  exact XTo.from X1 T3
 ·rw[if_neg c,<-hR']
  simp only[go_sem,reduceEqDiff,decide_eq_false c,ew]
  exact XTo.from X1 T2
def h_g (P:Program)(f:FuncId):Prop:=f2_ P f=true/\∀(L:Nat->Nat)(h:a0_)(r o:Nat)(x:RX)(k j:Nat),XAt L h r o x->x.r.fit k->k<2^28->x.few j->j<2^20->
 a6_ P f [.agg [.ptr r 21 0 0,.ptr o 5 0 0]] h λ_ h'=>XTo wA nof L h r o x.lead h'
theorem w_h {P:Program}{f f1 f2 f3 f4 f5 f6:FuncId}(hf:Is P f (p4_ f1 f2 f3 f4 f5 f6))(u1:L1_ P f1)(u2:h_f P f2)(u3:o_b P f3)(u4:B_r P f4)(u5:d_9 P f5)(u6:O3_ P f6):h_g P f:=by
 refine⟨hf.2,λL h r o x k j hx hfit hk hj hj2=>a4_ hf.1 (J_y rfl) ?_⟩
 show vc P (p4_ f1 f2 f3 f4 f5 f6).code ⟨[(0,.agg [.ptr r 21 0 0,.ptr o 5 0 0])],[],h⟩ (b2_ (p4_ f1 f2 f3 f4 f5 f6).res _)
 obtain⟨R,out⟩:=x
 simp only at hfit
 have lt:=hx.lt
 have X1:=Ext.b1 (h:=h) (some (a5_.arr 2 [[.ptr r 21 0 0,.ptr o 5 0 0]] false))
 have hx1:=hx.up X1
 obtain⟨g,ff,ra⟩:=hx1.r
 obtain⟨ma,ca,aa,oa⟩:=hx1.o
 have rr:=ra.row
 have lrh:r<h.length:=lt r (by rw[ra.lr];omega)
 have lr1:r<h.length+1:=by omega
 simp only[b4_.row]at rr
 have B1:=x3_ h (some (a5_.arr 2 [[.ptr r 21 0 0,.ptr o 5 0 0]] false))
 have ne:(r=h.length)=False:=eq_false (by omega)
 simp only[p4_,go_sem,reduceEqDiff,reduceAdd,reduceLeDiff,reducePow,reduceDiv,reduceMod,decide_true,rr,ne,B1,lr1,J_2,L_j]
 have T0:XTo wA nof L (h++[some (a5_.arr 2 [[.ptr r 21 0 0,.ptr o 5 0 0]] false)]) r o ⟨{R with role:=2,leader:=R.id,beat:=0,granted:=[],flows:=[]},out⟩ _:=XAt.setR0 (R':={R with role:=2,leader:=R.id,beat:=0,granted:=[],flows:=[]}) ra oa hx1.lt rfl rfl
 simp only[b4_.row]at T0
 have z2:∀m,h.length<=m->¬wA (L m):=λm e=>by rw[hx.ge e];exact wA0
 generalize List.set (h++[some (a5_.arr 2 [[.ptr r 21 0 0,.ptr o 5 0 0]] false)]) r _=H1 at *
 have D0:=T0.keep (z2 _ (J_4 _)) (λy=>y) B1
 have hl1:R.last<=2^40+k:=hfit.last
 have hl0:0<=R.last:=by have:=hfit.base;unfold b4_.last Log.last;omega
 have f0:({R with role:=2,leader:=R.id,beat:=0,granted:=[],flows:=[]}:b4_).fit k:=by
  obtain⟨g1,g2,g3,g4,g5,g6,g7,g8,g9,g10,g11,g12,g13,g14,g15⟩:=hfit
  exact⟨g1,g2,g3,g4,g5,g6,g7,g8,g9,g10,⟨L_e _,by show (0:Int)<=1;omega⟩,g12,by simp,⟨by simp,by simp⟩,g15⟩
 have el:({R with role:=2,leader:=R.id,beat:=0,granted:=[],flows:=[]}:b4_).last=R.last:=rfl
 refine j4_ u1.1 (by have:=u1.2 H1 r _ T0.rowR (f0.logOk (by omega));rw[el]at this;exact this) ?_
 have rw1:∃g f,H1[r]?=some (some (.arr 21 [({R with role:=2,leader:=R.id,beat:=0,granted:=[],flows:=[]}:b4_).row g f] false)):=T0.rowR
 obtain⟨g1,ff1,row1⟩:=rw1
 simp only[b4_.row]at row1
 simp only[go_sem,reduceEqDiff,reducePow,reduceDiv,reduceMod,decide_true,D0]
 have mt:=XTo.callM (Q':=nof) T0 (Ext.refl _ _) (λ_ _ y=>y) λL1 x1=>u2.2 L1 H1 r o _ k R.last x1 f0 (by omega) ⟨hl0,by omega⟩
 refine a1_ ⟨u2.1,mt⟩ ?_
 intro _ H2 T2
 have D2:=T2.keep (z2 _ (J_4 _)) (λy=>y) B1
 have eled:({R with role:=2,leader:=R.id,beat:=0,granted:=[],flows:=[]}:b4_).meet ({R with role:=2,leader:=R.id,beat:=0,granted:=[],flows:=[]}:b4_).flows R.last=R.led:=rfl
 simp only[eled]at T2
 have f2:=hfit.led (by omega)
 simp only[go_sem,reduceEqDiff,reduceAdd,reduceLeDiff,reducePow,reduceDiv,reduceMod,decide_true,D2]
 have lt':=XTo.callN (Q':=nof) T2 (Ext.refl _ _) (λ_ _ y=>y) λL1 x1=>u3.2 nof L1 H2 r o ⟨R.led,out⟩ k j 0 [] .nils x1 f2 hk hj (by omega) (Rd.nils 1) ⟨λ_ h=>by simp at h,by simp⟩ ⟨by omega,by omega⟩
 refine a1_ ⟨u3.1,lt'⟩ ?_
 rintro _ H3 ⟨-,T3⟩
 have D3:=T3.keep (z2 _ (J_4 _)) (λy=>y) B1
 have f3:(({r:=R.led,o:=out}:RX).lay 0 []).r.fit (k+1):=b4_.fit.lay (x:={r:=R.led,o:=out}) (kind:=0) (data:=[]) f2 (by omega) ⟨λ_ h=>by simp at h,by simp⟩ ⟨by omega,by omega⟩
 have j3:(({r:=R.led,o:=out}:RX).lay 0 []).few (j+1):=RX.few.lay (x:={r:=R.led,o:=out}) hj 0 []
 simp only[go_sem,reduceEqDiff,reduceAdd,reduceLeDiff,D3]
 have et:=XTo.callM (Q':=nof) T3 (Ext.refl _ _) (λ_ _ y=>y) λL1 x1=>(d_q u5 u4 x1 f3 (by omega) j3 (by omega)).mono λ_ _ b=>b.weakW Z6_
 refine a1_ ⟨u5.1,et⟩ ?_
 intro _ H4 T4
 have D4:=T4.keep (z2 _ (J_4 _)) (λy=>y) B1
 have f4:(({r:=R.led,o:=out}:RX).lay 0 []).on.r.fit (k+1):=by
  show (RX.each _ _).r.fit (k+1);rw[(j_9 _ _).1];exact f3
 simp only[go_sem,reduceEqDiff,reduceAdd,reduceLeDiff,D4]
 have st:=XTo.callM (Q':=nof) T4 (Ext.refl _ _) (λ_ _ y=>y) λL1 x1=>u6.2 L1 H4 r o _ (k+1) x1 f4 (by omega)
 refine a1_ ⟨u6.1,st⟩ ?_
 intro _ H5 T5
 simp only[go_sem]
 exact XTo.from X1 T5
end Glb
