/-
  A library of its own.
-/
import Derived.Test.YtdeiamnhnfmilaaGreatGlbCvote
import Derived.Test.YtdeiamnhnfmilaaGreatGlbTurA
set_option linter.unusedSimpArgs false
set_option linter.unusedVariables false
set_option maxRecDepth 10000
set_option maxHeartbeats 16000000
open Nat (reduceAdd reduceEqDiff reduceLeDiff)
namespace Glb
open Go
def r_f (d:Int):Int:=10+d % 10
theorem C_a (d:Int):(0<=d/\d.tmod 10=d % 10)\/(d<0/\(d.tmod 10=d % 10-10\/d.tmod 10=0/\d % 10=0)):=by
 by_cases h:0<=d
 ·exact .inl ⟨h,Int.tmod_eq_emod_of_nonneg h⟩
 ·have e:d.tmod 10=-((-d) % 10):=by
   rw[<-Int.tmod_eq_emod_of_nonneg (show 0<=-d by omega),Int.neg_tmod];omega
  refine .inr ⟨by omega,?_⟩
  rw[e]
  omega
def n_8 (P:Program)(f:FuncId):Prop:=f2_ P f=true/\∀(h:a0_)(d:Int),a6_ P f [.int .i64 d] h λr h'=>r=.int .i64 (r_f d)/\h'=h
theorem c_f {P:Program}{f:FuncId}(hf:Is P f u3_):n_8 P f:=by
 refine⟨hf.2,λh d=>a4_ hf.1 (J_y rfl) ?_⟩
 show vc P u3_.code ⟨[(0,.int .i64 d)],[],h⟩ (b2_ u3_.res _)
 have z:¬(10:Int)=0:=by decide
 simp only[u3_,go_sem,reduceEqDiff,D_6,if_neg z]
 have t:=C_a d
 by_cases c:d.tmod 10<0
 ·have e1:IntKind.i64.wrap (d.tmod 10+10)=d % 10:=by rw[a7_ (by omega)];omega
  have e2:IntKind.i64.wrap (10+d % 10)=r_f d:=by rw[a7_ (by omega)];rfl
  simp only[go_sem,reduceEqDiff,decide_eq_true c,e1,e2]
 ·have e1:d.tmod 10=d % 10:=by omega
  have e2:IntKind.i64.wrap (10+d % 10)=r_f d:=by rw[a7_ (by omega)];rfl
  have c':¬d % 10<0:=by omega
  simp only[go_sem,reduceEqDiff,decide_eq_false c',e1,e2]
def I3_ (term voted:Int)(l:Log)(m:Msg):Bool:=decide (m.kind=1) && (decide (m.term=term) && ((decide (voted=0) || decide (voted=m.from_)) && l.newer m.index m.prev))
def h_l (P:Program)(f:FuncId):Prop:=f2_ P f=true/\∀(F F':Nat->Prop)(h:a0_)(term voted:Int)(l:Log)(m:Msg)(a b:List AV),RdL F h l.c a->RdL F' h m.c b->E3_ l->
 a6_ P f [.int .i64 term,.int .i64 voted,.agg a,.agg b] h λr h'=>r=.bool (I3_ term voted l m)/\h'=h
theorem G4_ {m:Msg}{F:Nat->Prop}{h:a0_}{a:List AV}(hh:RdL F h m.c a):∃e d,a=m.cells e d/\Rd F h (b7_ m.es) e/\Rd F h (b3_ m.data) d:=by
 simp only[Msg.c,RdL,Rd]at hh
 obtain⟨_,_,rfl,rfl,_,_,rfl,rfl,_,_,rfl,rfl,_,_,rfl,rfl,_,_,rfl,rfl,_,_,rfl,rfl,_,_,rfl,rfl,_,_,rfl,rfl,_,_,rfl,rfl,_,_,rfl,rfl,_,_,rfl,rfl,_,_,rfl,rfl,_,_,rfl,rfl,_,_,rfl,rfl,_,_,rfl,rfl,e,_,rfl,he,d,_,rfl,hd,rfl⟩:=hh
 exact⟨e,d,rfl,he,hd⟩
theorem s_h {l:Log}{F:Nat->Prop}{h:a0_}{a:List AV}(hh:RdL F h l.c a):∃d,a=[.int .i64 l.base,.int .i64 l.bterm,d]/\Rd F h (b7_ l.es) d:=by
 simp only[Log.c,RdL,Rd]at hh
 obtain⟨_,_,rfl,rfl,_,_,rfl,rfl,d,_,rfl,hd,rfl⟩:=hh
 exact⟨d,rfl,hd⟩
theorem e_f {P : Program} {f g : FuncId} (hf : Is P f (w5_ g)) (hg : d_6 P g) : h_l P f := by
 refine ⟨hf.2, λF F' h term voted l m a b ha hb ok => obs (t9_ _ _) (a4_ hf.1 (J_y rfl) ?_)⟩
 show vc P (w5_ g).code ⟨[(0, .int .i64 term), (1, .int .i64 voted), (2, .agg a), (3, .agg b)], [], h⟩ (b2_ (w5_ g).res _)
 have ha0 := ha
 obtain ⟨d, rfl, hd⟩ := s_h ha
 obtain ⟨e, s, rfl, he, hs⟩ := G4_ hb
 simp only [w5_, go_sem, reduceEqDiff, reduceAdd, Msg.cells, hd.scalar, he.scalar, hs.scalar]
 repeat' (first
  | refine r_i (λ_ => ?_) (λ_ => ?_)
  | refine r_j (λ_ => ?_) (λ_ => ?_)
  | (refine a1_ ⟨hg.1, hg.2 F _ l _ _ _ (ha0.up ((Ext.b1 _).tr (Ext.b1 _))) ok⟩ ?_; rintro _ _ ⟨rfl, rfl⟩)
  | simp only [go_sem, reduceEqDiff, reduceAdd, reduceLeDiff, *])
 all_goals refine ⟨?_, (Ext.b1 _).tr (Ext.b1 _)⟩
 all_goals simp_all [I3_]
def a_v (l:List Msg):D:=.sl 17 (l.map Msg.c)
def ask (id group term index last n:Int):Msg:=⟨1,id,n,group,term,index,last,0,0,0,0,0,0,0,false,[],[]⟩
def k_x (id group term:Int)(l:Log)(c:e3_):List Msg:=(c.voters.filter λn=>decide (n≠id)).map (ask id group term l.last l.lastTerm)
def v_q (m:Msg):List AV:=m.cells .nils .nils
theorem B_m {id group term:Int}{l:Log}{c:e3_}:∀m∈k_x id group term l c,m.es=[]/\m.data=[]:=by
 intro m hm
 simp only[k_x,L_v]at hm
 obtain⟨n,-,rfl⟩:=hm
 exact⟨rfl,rfl⟩
theorem n_2 (id group term:Int)(l:Log)(c:e3_):(k_x id group term l c).length<=c.voters.length:=by
 simp only[k_x,K_p];exact L_y _ _
def v_o (P:Program)(f:FuncId):Prop:=f2_ P f=true/\∀(F F':Nat->Prop)(h:a0_)(id group term:Int)(l:Log)(c:e3_)(a b:List AV),RdL F h l.c a->RdL F' h c.c b->E3_ l->c.few (2^30)->
 a6_ P f [.int .i64 id,.int .i64 group,.int .i64 term,.agg a,.agg b] h λr h'=>f_u h.length h' 17 r ((k_x id group term l c).map v_q)/\Ext nof h h'
theorem h_3 {P:Program}{f g v:FuncId}(hf:Is P f (D1_ g v))(hg:Z2_ P g)(hv:R5_ P v e3_.voters):v_o P f:=by
 refine⟨hf.2,λF F' h id group term l c a b ha hb ok few=>a4_ hf.1 (J_y rfl) ?_⟩
 show vc P (D1_ g v).code ⟨[(0,.int .i64 id),(1,.int .i64 group),(2,.int .i64 term),(3,.agg a),(4,.agg b)],[],h⟩ (b2_ (D1_ g v).res _)
 have ha0:=ha
 have hb0:=hb
 obtain⟨d,rfl,hd⟩:=s_h ha
 obtain⟨o,n,e,rfl,ho,hn,he⟩:=J7_ hb
 simp only[D1_,go_sem,reduceEqDiff,reduceAdd,reduceLeDiff,hd.scalar,ho.scalar,hn.scalar,he.scalar]
 have X0:=Ext.b2 (h:=h) (some (.arr 3 [[.int .i64 l.base,.int .i64 l.bterm,d]] false)) (some (.arr 3 [[o,n,e]] false))
 have B1:=O1_ h (some (.arr 3 [[.int .i64 l.base,.int .i64 l.bterm,d]] false)) (some (.arr 3 [[o,n,e]] false))
 refine j4_ hg.1 (hg.2 F _ l _ (ha0.up X0) ok) ?_
 simp only[go_sem,reduceEqDiff,reduceAdd,reduceLeDiff]
 have hb1:=hb0.up X0
 have lH:(h++[some (a5_.arr 3 [[.int .i64 l.base,.int .i64 l.bterm,d]] false)]++[some (a5_.arr 3 [[o,n,e]] false)]).length=h.length+2:=by simp
 generalize h++[some (a5_.arr 3 [[.int .i64 l.base,.int .i64 l.bterm,d]] false)]++[some (a5_.arr 3 [[o,n,e]] false)]=H at *
 refine a1_ ⟨hv.1,hv.2 F' H c _ hb1 ⟨by have:=few.1;omega,by have:=few.2.1;omega,by have:=few.2.2;omega⟩⟩ ?_
 rintro w h1 ⟨ow,x1⟩
 have ow:=Own.lt _ _ ow
 have vl:c.voters.length<=2^31:=by have u:=P1_ (c.old++c.new);simp only[J_z]at u;have:=few.1;have:=few.2.1;simp only[e3_.voters];omega
 have lw:M5_ w=some (.int .i64 c.voters.length):=(Own.rd _ (F':=λ_=>True) (λ_ _=>trivial) _ ow).ints_len
 have l1:=x1.1
 have X1:=X0.trans x1 (F'':=nof) (λ_ _ x=>x) (λ_ _ x=>x)
 simp only[go_sem,reduceEqDiff,lw]
 obtain⟨R,hR⟩:∃R:Int->List AV,R=λn=>v_q (ask id group term l.last l.lastTerm n):=⟨_,rfl⟩
 obtain⟨Q,hQ⟩:∃Q:Int->Bool,Q=λn=>decide (n≠id):=⟨_,rfl⟩
 have eA:(k_x id group term l c).map v_q=(c.voters.filter Q).map R:=by rw[hR,hQ];simp[k_x]
 rw[eA]
 generalize c.voters=vs at *
 obtain⟨I,hI⟩:∃I:Nat->Env->a0_->Prop,∀m L h',I m L h'↔∃(i:Nat)(o:AV),lk 0 L=.int .i64 id/\lk 1 L=.int .i64 group/\lk 2 L=.int .i64 term/\lk 11 L=.int .i64 l.last/\lk 12 L=.int .i64 l.lastTerm/\lk 13 L=o/\lk 22 L=w/\lk 23 L=.int .i64 vs.length/\lk 24 L=.int .i64 i /\
   f_u h1.length h' 17 o (((vs.take i).filter Q).map R)/\Ext nof h1 h'/\i<=vs.length/\m=vs.length-i:=⟨_,λ_ _ _=>Iff.rfl⟩
 refine e8_ I vs.length ((hI _ _ _).2 ⟨0,.nils,by simp[a3_,c9_],by simp[a3_,c9_],by simp[a3_,c9_],by simp[a3_],by simp[a3_],by simp[a3_],by simp[a3_],by simp[a3_],by simp[a3_],.inl ⟨rfl,by simp⟩,Ext.refl _ _,by omega,by omega⟩) ?_
 intro m L h2 hh
 obtain⟨i,o,k0,k1,k2,k11,k12,k13,k22,k23,k24,oo,X2,hi,rfl⟩:=(hI _ _ _).1 hh
 simp only[R0_,go_sem,k23,k24]
 refine b0_ (λci=>?_) (λci=>?_)
 ·simp at ci
  obtain⟨p,hp,hv'⟩:=(Own.rd _ (F':=λ_=>True) (λ_ _=>trivial) _ (Own.mono _ (λ_ x=>x) (λm hm y hy=>by rw[X2.2 m hm.2 (by simp[nof])];exact hy) _ ow)).int_at (i:=i) ci
  have ew:IntKind.i64.wrap (↑i+1)=(i:Int)+1:=a7_ (by omega)
  have tk:vs.take (i+1)=vs.take i++[vs[i]]:=K_f ci
  simp only[go_sem,reduceEqDiff,k0,k22,k24,hp,hv']
  by_cases c0:vs[i]=id
  ·have q:Q vs[i]=false:=by rw[hQ];simp[c0]
   simp only[go_sem,reduceEqDiff,decide_eq_true c0,ew,k24]
   exact⟨_,by omega,(hI _ _ _).2 ⟨i+1,o,by simp[a3_,k0],by simp[a3_,k1],by simp[a3_,k2],by simp[a3_,k11],by simp[a3_,k12],by simp[a3_,k13],by simp[a3_,k22],by simp[a3_,k23],by simp[a3_],by rw[tk,List.filter_append];simpa [q] using oo,X2,ci,rfl⟩⟩
  ·have q:Q vs[i]=true:=by rw[hQ];simp[c0]
   have ll:=L_y Q (vs.take i)
   have lt:=M_l i vs
   obtain⟨o2,h3,s1,s2,s3⟩:=u_2 (bytes:=168) (h:=h2++[some (.arr 17 [R vs[i]] false)]) (ys:=[R vs[i]]) oo (Ext.b1 _) X2.1 (by simp;omega)
   rw[<-c6_ (l4_ h2 17 [R vs[i]] false (some 1) (len:=1) rfl)]at s1
   have eR:R vs[i]=[.int .i64 1,.int .i64 id,.int .i64 vs[i],.int .i64 group,.int .i64 term,.int .i64 l.last,.int .i64 l.lastTerm,.int .i64 0,.int .i64 0,.int .i64 0,.int .i64 0,.int .i64 0,.int .i64 0,.int .i64 0,.bool false,.nils,.nils]:=by rw[hR];rfl
   rw[eR]at s1
   simp only[go_sem,reduceEqDiff,reduceAdd,reduceLeDiff,decide_eq_false c0,k0,k1,k2,k11,k12,k13,k24,s1,ew]
   exact⟨_,by omega,(hI _ _ _).2 ⟨i+1,o2,by simp[a3_,k0],by simp[a3_,k1],by simp[a3_,k2],by simp[a3_,k11],by simp[a3_,k12],by simp[a3_],by simp[a3_,k22],by simp[a3_,k23],by simp[a3_],by rw[tk,List.filter_append,K_8];simpa [q] using s2,(X2.tr (Ext.b1 _)).then s3 (λm hm hm'=>by omega),ci,rfl⟩⟩
 ·simp at ci
  obtain rfl:i=vs.length:=by omega
  rw[K_y]at oo
  simp only[go_sem,reduceEqDiff,k13]
  exact⟨f_u.lo oo (by omega),X1.tr X2⟩
end Glb
