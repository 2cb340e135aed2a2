/-
  A library of its own.
-/
import Derived.Test.YtdeiamnhnfmilaaGreatGlbRafC
set_option linter.unusedSimpArgs false
set_option linter.unusedVariables false
set_option maxRecDepth 10000
set_option maxHeartbeats 8000000
open Nat (reduceAdd reduceDiv reduceEqDiff reduceLeDiff reduceMod reducePow)
namespace Glb
open Go
structure Msg.fit (m:Msg):Prop where
 es:m.es.length<=200/\∀e∈m.es,e.fit
 data:c2_ m.data/\m.data.length<=2^16
 term:m.term<=2^40
 from':e2_ m.from_/\e2_ m.prev
 index:3<=m.kind->0<=m.index/\m.index<=2^40
theorem Msg.fit.small {m:Msg}(h:m.fit):i0_ m.es:=⟨by have:=h.es.1;omega,λe he=>by have:=(h.es.2 e he).1.2;omega⟩
section
variable {k:Nat} {x:b4_}
theorem Log.agree_last {l:Log}{p:Int}{e:List e0_}(h0:0<=l.base)(hp:l.has p=true)(hc:l.laidAt p e=0):p+e.length<=l.last:=by
 have h1:=N6_.1 hp
 by_cases c:l.agree (p+1) e<e.length
 ·rw[(g_m hp c).2]at hc;omega
 ·have:=n_7 (e:=e) hp;have:=n_5 l e (p+1);omega
theorem b4_.fit.laid (h:x.fit k){m:Msg}(hm:m.fit)(hi:0<=m.index/\m.index<=2^40)(hp:x.hard.log.has m.index=true)(hat:x.commit<x.hard.log.laidAt m.index m.es):({x with hard:={x.hard with log:=x.hard.log.laid m.index m.es}}:b4_).fit (k+200)/\(x.hard.log.laid m.index m.es).last=m.index+m.es.length:=by
 have hb:=h.base
 have h0:=h.at'
 have hag:x.hard.log.agree (m.index+1) m.es<m.es.length:=by
  apply Classical.byContradiction;intro c
  have:x.hard.log.laidAt m.index m.es=0:=by unfold Log.laidAt;rw[if_neg (λz=>c z.2)]
  omega
 have e1:=g_m hp hag
 have e2:=t_c hp hag
 have hl:=hm.es.1
 rw[e1.2]at hat
 obtain⟨g1,g2,g3,g4,g5,g6,g7,g8,g9,g10,g11,g12,g13,g14,g15⟩:=h
 refine⟨⟨?_,?_,?_,?_,g5,g6,g7,?_,⟨?_,g9.2.1,?_⟩,⟨g10.1,Int.le_trans g10.2 (by omega)⟩,g11,⟨g12.1,Int.le_trans g12.2 (by omega)⟩,K_e g13 (by omega),g14,g15⟩,e2⟩
 ·show 0<=(x.hard.log.laid m.index m.es).base/\(x.hard.log.laid m.index m.es).base<=2^40+((k+200:Nat):Int)
  rw[(c_8 _ _ _).1];exact⟨g1.1,by omega⟩
 ·show (x.hard.log.laid m.index m.es).es.length<=k+200
  rw[e1.1];simp only[J_z,K_i,K_o];omega
 ·show (x.hard.log.laid m.index m.es).last<=2^40+((k+200:Nat):Int)
  rw[e2];omega
 ·show ∀e∈(x.hard.log.laid m.index m.es).es,e.fit
  rw[e1.1]
  intro e he
  simp only[K_6]at he
  rcases he with he | he
  ·exact g4 e (L_g he)
  ·exact hm.es.2 e (K_z he)
 ·show e2_ x.hard.group/\e2_ x.hard.vote/\e2_ (x.hard.log.laid m.index m.es).bterm
  rw[(c_8 _ _ _).2];exact g8
 ·show (x.hard.log.laid m.index m.es).base<=x.applied
  rw[(c_8 _ _ _).1];exact g9.1
 ·show x.commit<=(x.hard.log.laid m.index m.es).last
  rw[e2];omega
theorem B_c {l:Log}{b:Int}(hb:l.has b=true):l.cut b=⟨b,l.term b,l.es.drop (b-l.base).toNat⟩/\(l.cut b).last=l.last:=by
 have h1:=N6_.1 hb
 have e:l.cut b=⟨b,l.term b,l.es.drop (b-l.base).toNat⟩:=by simp only[Log.cut,hb,if_true]
 refine⟨e,?_⟩
 rw[e];unfold Log.last at *;simp only[K_o];omega
theorem c_n (h:x.fit k){base term:Int}(hb:0<=base/\base<=2^40+k)(ht:e2_ term):
  (x.snapped base term).base=base/\(x.snapped base term).bterm=term/\(x.snapped base term).es.length<=k/\(x.snapped base term).last<=2^40+k/\(∀e∈(x.snapped base term).es,e.fit)/\base<=(x.snapped base term).last /\
   (x.hard.log.has base=true/\x.hard.log.term base=term->(x.snapped base term).last=x.hard.log.last):=by
 unfold b4_.snapped
 split
 ·rename_i c
  obtain⟨e1,e2⟩:=B_c c.1
  have h1:=N6_.1 c.1
  rw[e2,e1]
  refine⟨rfl,c.2,?_,h.last,λe he=>h.data e (K_z he),h1.2,λ_=>rfl⟩
  have:=h.len
  simp only[K_o];omega
 ·rename_i c
  refine⟨rfl,rfl,by simp,?_,by simp,by unfold Log.last;simp,λz=>absurd z c⟩
  unfold Log.last;simp;omega
theorem b4_.fit.based (h:x.fit k){base term c a:Int}{cf:e3_}{snap:List Int}(hb:0<=base/\base<=2^40+k)(ht:e2_ term)(hc:cf.right=true)(hs:c2_ snap/\snap.length<=2^16)
  (h1:base<=a/\a<=c/\c<=(x.snapped base term).last):({x with hard:={x.hard with log:=x.snapped base term,conf:=cf,snap:=snap},commit:=c,applied:=a}:b4_).fit k:=by
 obtain⟨s1,s2,s3,s4,s5,s6,-⟩:=c_n h hb ht
 obtain⟨g1,g2,g3,g4,g5,g6,g7,g8,g9,g10,g11,g12,g13,g14,g15⟩:=h
 refine⟨?_,s3,s4,s5,hc,hs,g7,?_,⟨?_,h1.2.1,h1.2.2⟩,g10,g11,g12,g13,g14,g15⟩
 ·show 0<=(x.snapped base term).base/\(x.snapped base term).base<=2^40+k
  rw[s1];exact hb
 ·show e2_ x.hard.group/\e2_ x.hard.vote/\e2_ (x.snapped base term).bterm
  rw[s2];exact⟨g8.1,g8.2.1,ht⟩
 ·show (x.snapped base term).base<=a
  rw[s1];exact h1.1
end
def d_5 (P:Program)(f:FuncId):Prop:=f2_ P f=true/\∀(L:Nat->Nat)(h:a0_)(r o:Nat)(x:RX)(k j:Nat)(m:Msg)(a:List AV),XAt L h r o x->x.r.fit k->k+200<=2^28->x.few j->j+1<2^20->O5_ L h m a->m.fit->0<=m.index/\m.index<=2^40->
 a6_ P f [.agg [.ptr r 21 0 0,.ptr o 5 0 0],.agg a] h λ_ h'=>XTo wA nof L h r o (x.append m) h'
theorem p_e {P:Program}{f f1 f2 f3 f4 f5 f6:FuncId}(hf:Is P f (b8_ f1 f2 f3 f4 f5 f6))(u1:Z1_ P f1)(u2:R3_ P f2)(u3:L1_ P f3)(u4:n_d P f4)(u5:L0_ P f5)(u6:f_t P f6):d_5 P f:=by
 refine⟨hf.2,λL h r o x k j m a hx hfit hk hj hj2 hm hmf hmi=>a4_ hf.1 (J_y rfl) ?_⟩
 show vc P (b8_ f1 f2 f3 f4 f5 f6).code ⟨[(0,.agg [.ptr r 21 0 0,.ptr o 5 0 0]),(1,.agg a)],[],h⟩ (b2_ (b8_ f1 f2 f3 f4 f5 f6).res _)
 obtain⟨G,hr,h0⟩:=id hm
 obtain⟨e,d,rfl,he,hd⟩:=G4_ hr
 have ap:=hx.apart
 obtain⟨R,out⟩:=x
 simp only at hfit
 have hmes:=hmf.es.1
 have le:M5_ e=some (.int .i64 m.es.length):=by have:=he.len;simpa [b7_] using this
 have wn:IntKind.i64.wrap (m.index+m.es.length)=m.index+m.es.length:=a7_ (by omega)
 have wi:IntKind.i64.wrap (m.index-1)=m.index-1:=a7_ (by omega)
 have hlast:=hfit.last
 have hbase:=hfit.base
 obtain⟨H,hH⟩:∃H,H=h++[some (a5_.arr 2 [[.ptr r 21 0 0,.ptr o 5 0 0]] false)]++[some (a5_.arr 17 [m.cells e d] false)]:=⟨_,rfl⟩
 have X1:Ext nof h H:=by rw[hH];exact Ext.b2 _ _
 have lH:H.length=h.length+2:=by rw[hH];simp
 have C0:H[h.length]?=some (some (a5_.arr 2 [[.ptr r 21 0 0,.ptr o 5 0 0]] false)):=by rw[hH];exact b_z _ _ _
 have C1:H[h.length+1]?=some (some (a5_.arr 17 [m.cells e d] false)):=by rw[hH];exact O1_ _ _ _
 have hx1:=hx.up X1
 have z2:∀m,h.length<=m->¬wA (L m):=λm e=>by rw[hx.ge e];exact wA0
 have hr1:RdL (λn=>G n/\n<h.length) H m.c (m.cells e d):=RdL.mono (λ_ y=>y) (X1.keep _) _ _ (RdL.lt _ _ hr)
 have hrT:∀{y H'},XTo wA nof L H r o y H'->RdL (λn=>G n/\n<h.length) H' m.c (m.cells e d):=λT=>RdL.mono (λ_ y=>y) (λn hn y hy=>T.keep (by rw[h0 n hn.1];exact wA0) (λz=>z) hy) _ _ hr1
 have ans:∀{y H'}(j:Nat)(ok:Bool)(ix:Int),XTo wA nof L H r o y H'->y.few j->j<2^20->a6_ P f1 [.agg [.ptr r 21 0 0,.ptr o 5 0 0],.agg (m.cells e d),.bool ok,.int .i64 ix] H' λ_ h''=>XTo wA nof L H r o (y.answer m ok ix) h'':=fun {y H'} j ok ix T yf hj=>
  XTo.callM (Q':=nof) T (Ext.refl _ _) (λ_ _ y=>y) λL1 x1=>(u1.2 L1 H' r o y j m _ _ ok ix x1 yf hj (hrT T)).mono λ_ _ b=>b.weakW Z6_
 simp only[Msg.cells]at ans
 have third:∀(Le:Env)(H':a0_)(y:RX),(RX.append ⟨R,out⟩ m)=(({y with r:={y.r with commit:=max y.r.commit (min m.commit (m.index+m.es.length))}}:RX).answer m true (m.index+m.es.length))->y.few (j+1)->lk 2 Le=.ptr h.length 2 0 0->lk 3 Le=.ptr (h.length+1) 17 0 0->XTo wA nof L H r o y H'->
   vc P (b8_ f1 f2 f3 f4 f5 f6).code.tl.tl.tl.tl.tl ⟨Le,[],H'⟩ (b2_ (b8_ f1 f2 f3 f4 f5 f6).res λ_ h'=>XTo wA nof L h r o (RX.append ⟨R,out⟩ m) h'):=by
  intro Le H' y ey yf k2 k3 T
  have D0:=T.keep (z2 _ (J_4 _)) (λy=>y) C0
  have D1:=T.keep (z2 _ (by omega)) (λy=>y) C1
  obtain⟨g,ff,rr⟩:=T.rowR
  have rr':=rr
  simp only[b4_.row]at rr'
  simp only[Msg.cells]at D1
  have lr:=(J_w.1 rr).1
  have q0:(r=h.length)=False:=eq_false (by omega)
  have q1:(r=h.length+1)=False:=eq_false (by omega)
  rw[ey]
  simp only[b8_,AC.tl_seq,go_sem,reduceEqDiff,reduceAdd,reduceLeDiff,reducePow,reduceDiv,reduceMod,decide_true,k2,k3,D0,D1,le,wn,rr',W7_,K1_,F2_,q0,q1,lr]
  have T1:=XTo.setR (R:=y.r) (out:=y.o) (R':={y.r with commit:=max y.r.commit (min m.commit (m.index+m.es.length))}) T rr rfl rfl (λ_ z=>z)
  simp only[b4_.row]at T1
  have an:=ans (j+1) true (m.index+m.es.length) T1 yf hj2
  refine a1_ ⟨u1.1,an⟩ ?_
  intro _ H2 T2
  simp only[go_sem]
  exact XTo.from X1 T2
 have e0:(b8_ f1 f2 f3 f4 f5 f6).code=.seq (b8_ f1 f2 f3 f4 f5 f6).code.hd (.seq (b8_ f1 f2 f3 f4 f5 f6).code.tl.hd (.seq (b8_ f1 f2 f3 f4 f5 f6).code.tl.tl.hd (.seq (b8_ f1 f2 f3 f4 f5 f6).code.tl.tl.tl.hd (.seq (b8_ f1 f2 f3 f4 f5 f6).code.tl.tl.tl.tl.hd (b8_ f1 f2 f3 f4 f5 f6).code.tl.tl.tl.tl.tl)))):=rfl
 rw[e0]
 generalize (b8_ f1 f2 f3 f4 f5 f6).code.tl.tl.tl.tl.tl=D at third ⊢
 have snd:=third
 simp only[b8_]at snd
 clear third
 obtain⟨g,ff,rr⟩:=hx1.rowR
 have rr':=rr
 have C1':=C1
 simp only[b4_.row]at rr'
 simp only[Msg.cells]at C1' hH
 have lr:=(J_w.1 rr).1
 have q0:(r=h.length)=False:=eq_false (by omega)
 have q1:(r=h.length+1)=False:=eq_false (by omega)
 have q2:(h.length=r)=False:=eq_false (by omega)
 have q3:(h.length+1=r)=False:=eq_false (by omega)
 simp only[b8_,AC.hd_seq,AC.tl_seq,go_sem,reduceEqDiff,reduceAdd,Msg.cells,he.scalar,hd.scalar]
 rw[<-hH]
 clear hH
 have tc:=u2.2 nof H R.hard.log _ m.index (v2_ R.hard.log H) (hfit.logOk (by omega))
 simp only[go_sem,reduceEqDiff,rr']
 by_cases c1:m.index<R.hard.log.base
 ·simp only[go_sem,reduceEqDiff,reduceAdd,reduceLeDiff,rr',C0,C1',decide_eq_true c1]
  have ea:(RX.append ⟨R,out⟩ m)=RX.answer ⟨R,out⟩ m true R.commit:=by unfold RX.append;rw[if_pos c1]
  rw[ea]
  refine a1_ ⟨u1.1,ans j true R.commit hx1.to hj (by omega)⟩ ?_
  intro _ H2 T2
  rw[d9_]
  simp only[go_sem,reducePow,reduceDiv,reduceMod,decide_true]
  exact XTo.from X1 T2
 ·simp only[go_sem,reduceEqDiff,reduceAdd,reduceLeDiff,rr',C0,C1',decide_eq_false c1]
  refine j4_ u2.1 tc ?_
  rw[d9_]
  have no:(R.hard.log.has m.index=false\/¬R.hard.log.term m.index=m.prev)->(RX.append ⟨R,out⟩ m)=RX.answer ⟨R,out⟩ m false (max 0 (min R.last (m.index-1))):=λc=>by unfold RX.append;rw[if_neg c1,if_pos c]
  have noc:(RX.append ⟨R,out⟩ m)=RX.answer ⟨R,out⟩ m false (max 0 (min R.last (m.index-1)))->c_e P f1 [.agg [.ptr r 21 0 0,.ptr o 5 0 0],.agg (m.cells e d),.bool false,.int .i64 (max 0 (min R.last (m.index-1)))] H λ_ h'=>XTo wA nof L h r o (RX.append ⟨R,out⟩ m) h':=λe=>by
   rw[e]
   refine a1_ ⟨u1.1,ans j false (max 0 (min R.last (m.index-1))) hx1.to hj (by omega)⟩ ?_
   intro _ H2 T2
   exact XTo.from X1 T2
  simp only[Msg.cells]at noc
  cases c2:R.hard.log.has m.index
  ·simp only[go_sem,reduceEqDiff,reduceAdd,reduceLeDiff,reducePow,reduceDiv,reduceMod,decide_true,rr',C0,C1',K_u,wi]
   refine j4_ u3.1 (u3.2 H r R hx1.rowR (hfit.logOk (by omega))) ?_
   rw[d9_]
   simp only[go_sem,reduceEqDiff,reduceAdd,reduceLeDiff,reducePow,reduceDiv,reduceMod,decide_true,C0,C1',F2_,W7_,K1_]
   refine a1_ (noc (no (.inl c2))) ?_
   intro _ H2 T2
   rw[d9_]
   simp only[go_sem,reducePow,reduceDiv,reduceMod,decide_true]
   exact T2
  ·by_cases c3:R.hard.log.term m.index=m.prev
   ·simp only[go_sem,reduceEqDiff,reduceAdd,reduceLeDiff,reducePow,reduceDiv,reduceMod,decide_true,rr',C0,C1',K_l,decide_eq_true c3]
    have R3:∀b,(H++[b])[r]?=_:=λb=>(Ext.b1 b).get rr'
    have D0:∀b,(H++[b])[h.length]?=_:=λb=>(Ext.b1 b).get C0
    have D1:∀b,(H++[b])[h.length+1]?=_:=λb=>(Ext.b1 b).get C1'
    have N1:∀sz i o',f0_ (h.length+2) 1 (.ptr r sz i o')=true:=λsz i o'=>d6_ (by omega)
    have N2:∀sz i o',f0_ (h.length+2) 1 (.ptr h.length sz i o')=true:=λsz i o'=>d6_ (by omega)
    have N3:∀sz i o',f0_ (h.length+2) 1 (.ptr (h.length+1) sz i o')=true:=λsz i o'=>d6_ (by omega)
    have eset:∀a b,(H++[a]).set (h.length+2) b=H++[b]:=λa b=>by rw[K_n _ _ (by omega),lH];simp
    have b2:∀b,(H++[b])[h.length+2]?=some b:=λb=>by rw[<-lH];exact x3_ H b
    have w0:(h.length=h.length+2)=False:=eq_false (by omega)
    have w1:(h.length+2=h.length)=False:=eq_false (by omega)
    have w2:(h.length+1=h.length+2)=False:=eq_false (by omega)
    have w3:(h.length+2=h.length+1)=False:=eq_false (by omega)
    have w4:(r=h.length+2)=False:=eq_false (by omega)
    have w5:(h.length+2=r)=False:=eq_false (by omega)
    simp only[go_sem,reduceEqDiff,reduceAdd,reduceLeDiff,reducePow,reduceDiv,reduceMod,i3_,R3,D0,D1,N1,N2,N3,lH,eset]
    have ap4:=u4.2 (λ_=>True) (H++[none]) R.hard.log _ m.index m.es e (RdL.mono (F:=nof) (λ_ _=>trivial) (λ_ _ _ y=>y) _ _ (v2_ R.hard.log _)) (Rd.mono (λ_ _=>trivial) ((X1.tr (Ext.b1 none)).keep _) _ _ he) (hfit.logOk (by omega)) hmf.small
    simp only[Log.v_eq]at ap4
    refine j4_ u4.1 ap4 ?_
    simp only[go_sem,reduceEqDiff,reduceAdd,reduceLeDiff,reducePow,reduceDiv,reduceMod,decide_true,i3_,R3,D0,D1,eset,b2,k4_,Bool.or_true,Bool.true_or]
    obtain⟨l,hl⟩:∃l,l=R.hard.log.laid m.index m.es:=⟨_,rfl⟩
    obtain⟨at',hat⟩:∃at',at'=R.hard.log.laidAt m.index m.es:=⟨_,rfl⟩
    rw[<-hl,<-hat]
    have ea:(RX.append ⟨R,out⟩ m)=(if 0<at'/\at'<=R.commit then ⟨R,out⟩ else
     let y:RX:=if 0<at' then ({({r:=R,o:=out}:RX) with r:={R with hard:={R.hard with log:=l}}}:RX).tell {b9_.zero with kind:=2,from_:=at',log:=⟨0,0,l.slice at' l.es.length⟩} else ⟨R,out⟩
     ({y with r:={y.r with commit:=max y.r.commit (min m.commit (m.index+m.es.length))}}:RX).answer m true (m.index+m.es.length)):=by
     rw[hl,hat];unfold RX.append;rw[if_neg c1,if_neg (by rintro (z | z);rw[c2]at z;cases z;exact z c3)]
    by_cases c4:0<at'
    ·simp only[go_sem,reduceEqDiff,reduceAdd,R3,D0,decide_eq_true c4]
     by_cases c5:at'<=R.commit
     ·simp only[go_sem,decide_eq_true c5]
      rw[ea,if_pos ⟨c4,c5⟩]
      exact XTo.from (X1.tr (Ext.b1 _)) (hx1.up (Ext.b1 _)).to
     ·simp only[go_sem,reduceEqDiff,reduceAdd,reduceLeDiff,R3,D0,b2,decide_eq_false c5,k4_]
      rw[if_neg (λz=>c5 z.2)]at ea
      simp only[if_pos c4]at ea
      have lf:=hfit.laid hmf hmi c2 (by rw[<-hat];omega)
      rw[<-hl]at lf
      have hx3:=hx1.up (Ext.b1 (some (a5_.arr 3 [[.int .i64 l.base,.int .i64 l.bterm,i5_ l.es]] false)))
      have rr3:(H++[some (a5_.arr 3 [[.int .i64 l.base,.int .i64 l.bterm,i5_ l.es]] false)])[r]?=some (some (.arr 21 [R.row g ff] false)):=(Ext.b1 _).get rr
      have T1:=XTo.setR (R':={R with hard:={R.hard with log:=l}}) (hx3.to (W:=wA) (Q:=nof)) rr3 rfl rfl (λ_ z=>z)
      have E0:=D0 (some (a5_.arr 3 [[.int .i64 l.base,.int .i64 l.bterm,i5_ l.es]] false))
      have E1:=D1 (some (a5_.arr 3 [[.int .i64 l.base,.int .i64 l.bterm,i5_ l.es]] false))
      have E2:=b2 (some (a5_.arr 3 [[.int .i64 l.base,.int .i64 l.bterm,i5_ l.es]] false))
      have X3:=Ext.b1 (h:=H) (some (a5_.arr 3 [[.int .i64 l.base,.int .i64 l.bterm,i5_ l.es]] false))
      have l3:r<h.length+3:=by omega
      simp only[go_sem,reduceEqDiff,reduceAdd,reduceLeDiff,b2,w4,q0,lH,l3,J_z]
      simp only[b4_.row]at T1
      have K0:=T1.keep (z2 _ (J_4 _)) (λy=>y) E0
      have K1:=T1.keep (z2 _ (by omega)) (λy=>y) E1
      have K2:=T1.keep (z2 _ (by omega)) (λy=>y) E2
      generalize hH4:List.set (H++_) r _=H4 at *
      obtain⟨R',hR'⟩:∃R':b4_,R'={R with hard:={R.hard with log:=l}}:=⟨_,rfl⟩
      have lf1:R'.fit (k+200):=by rw[hR'];exact lf.1
      have eR':R'.hard.log=l:=by rw[hR']
      have eRg:R'.hard.group=R.hard.group:=by rw[hR']
      rw[<-hR']at T1 ea
      have sl:=u5.2 nof H4 R'.hard.log _ at' l.es.length (v2_ R'.hard.log H4) (lf1.logOk (by omega))
      rw[eR']at sl
      refine a1_ ⟨u5.1,sl⟩ ?_
      rintro e1 H5 ⟨oe,-,X5⟩
      have se:=oe.scalar
      have M0:=X5.get K0
      have M1:=X5.get K1
      have M2:=X5.get K2
      have hl4:H4.length=H.length+1:=by rw[<-hH4,J_2,J_z];rfl
      rw[d9_]
      simp only[go_sem,reduceEqDiff,reduceAdd,reduceLeDiff,reducePow,reduceDiv,reduceMod,decide_true,M0,M2,b5_ se]
      have tl:=XTo.callM (Q':=λn=>H4.length<=n) T1 X5 (λn hn (z:H4.length<=n)=>by rw[J_z]at hn;simp at hn;omega) λL1 x1=>
       (u6.2 (λn=>H4.length<=n) L1 H5 r o _ {b9_.zero with kind:=2,from_:=at',log:=⟨0,0,l.slice at' l.es.length⟩} e1 .nils .nils .nils .nils (x1.up X5) oe (Own.nils 1) (Own.nils 1) (Own.nils 1) (Own.nils 1) (λn hn=>x1.ge hn) (m_m (show out.changes.length<=j from hj.2) (by omega) 216 (by omega))).mono λ_ _ b=>b.weakW Z6_
      refine a1_ ⟨u6.1,tl⟩ ?_
      intro _ H6 T6
      rw[d9_]
      simp only[go_sem,reducePow,reduceDiv,reduceMod,decide_true]
      refine snd _ H6 _ ea (RX.few.tell (x:=({r:=R',o:=out}:RX)) hj _) ?_ ?_ (XTo.from X3 T6)<;>simp[a3_]
    ·simp only[go_sem,decide_eq_false c4]
     rw[if_neg (λz=>c4 z.1)]at ea
     simp only[if_neg c4]at ea
     refine snd _ _ ⟨R,out⟩ ea (hj.mono (by omega)) ?_ ?_ (XTo.from (Ext.b1 _) (hx1.up (Ext.b1 _)).to)<;>simp[a3_]
   ·simp only[go_sem,reduceEqDiff,reduceAdd,reduceLeDiff,reducePow,reduceDiv,reduceMod,decide_true,rr',C0,C1',K_l,K_u,decide_eq_false c3,wi]
    refine j4_ u3.1 (u3.2 H r R hx1.rowR (hfit.logOk (by omega))) ?_
    rw[d9_]
    simp only[go_sem,reduceEqDiff,reduceAdd,reduceLeDiff,reducePow,reduceDiv,reduceMod,decide_true,C0,C1',F2_,W7_,K1_]
    refine a1_ (noc (no (.inr c3))) ?_
    intro _ H2 T2
    rw[d9_]
    simp only[go_sem,reducePow,reduceDiv,reduceMod,decide_true]
    exact T2
theorem Gam.less {G w h r sz es es' gr}(g:Gam G w h) (hr:h[r]?=some (some (.arr sz es gr))) (hl:es'.length=es.length) (ho:W5_ sz es') (hc:∀i j c',l1_ es' i j=some c'->∃c,l1_ es i j=some c/\∀v,V G w c v->V G w c' v):Gam G w (h.set r (some (.arr sz es' gr))):=by
 have hlt:=(J_w.1 hr).1
 refine {len:=by rw[J_2];exact g.len,live:=?_,tag:=?_,inj:=g.inj,liveTag:=g.liveTag,liveS:=g.liveS,tagInj:=g.tagInj,tagS:=g.tagS,tagLt:=g.tagLt,sLt:=g.sLt,arr:=?_,nil:=?_,nilLoc:=g.nilLoc,map:=?_}
 ·intro m
  rw[g.live m]
  by_cases hm:r=m
  ·subst hm
   exact⟨λz=>⟨⟨_,J_0 hlt,rfl⟩,z.2⟩,λz=>⟨⟨_,hr,rfl⟩,z.2⟩⟩
  ·rw[J_x hm]
 ·intro m b hb
  have hm:r≠m:=by rintro rfl;rw[g.tag _ _ hb]at hr;simp at hr
  rw[J_x hm];exact g.tag m b hb
 ·intro m sz' es1 gr' b hm hb
  by_cases h1:r=m
  ·subst h1
   rw[J_0 hlt]at hm
   simp only[Option.some.injEq,a5_.arr.injEq]at hm
   obtain⟨rfl,rfl,rfl⟩:=hm
   obtain⟨⟨cells,ty,hh,h1,h2,h3⟩,hs⟩:=g.arr r _ _ _ b hr hb
   refine⟨⟨cells,ty,hh,by rw[hl];exact h1,λe=>by rw[hl];exact h2 e,λi j c hj=>?_⟩,ho⟩
   obtain⟨c0,e0,f0⟩:=hc i j c hj
   obtain⟨v,hv,hV⟩:=h3 i j c0 e0
   exact⟨v,hv,f0 v hV⟩
  ·rw[J_x h1]at hm
   exact g.arr m sz' es1 gr' b hm hb
 ·intro m sz' es1 gr' hm hb
  by_cases h1:r=m
  ·subst h1
   rw[J_0 hlt]at hm
   simp only[Option.some.injEq,a5_.arr.injEq]at hm
   obtain⟨rfl,rfl,rfl⟩:=hm
   have:=g.nil r _ _ _ hr hb
   subst this
   exact J_3 (by simpa using hl)
  ·rw[J_x h1]at hm
   exact g.nil m sz' es1 gr' hm hb
 ·intro m es1 b hm hb
  by_cases h1:r=m
  ·subst h1;rw[J_0 hlt]at hm;simp at hm
  ·rw[J_x h1]at hm
   exact g.map m es1 b hm hb
def y_n (h h':a0_):Prop:=∀G w,Gam G w h->Gam G w h'
theorem y_n.refl (h:a0_):y_n h h:=λ_ _ g=>g
theorem a6_.less {P:Program}{f:FuncId}{avs:List AV}{h h':a0_}{K:AV->a0_->Prop}(hl:y_n h h')(hc:a6_ P f avs h' K):a6_ P f avs h K:=λG w vs hg hv=>hc G w vs (hl G w hg) hv
theorem w_3 {h:a0_}{r sz:Nat}{a b:List AV}{gr:Bool} (hr:h[r]?=some (some (.arr sz [a++.nils :: b] gr))) (ho:W5_ sz [a++.vals 0 false 3 [] :: b]):y_n h (h.set r (some (.arr sz [a++.vals 0 false 3 [] :: b] gr))):=by
 intro G w g
 refine g.less hr rfl ho λi j c' hc=>?_
 cases i with
 | succ i=>simp[l1_]at hc
 | zero=>
  simp only[l1_,K_k,L_i]at hc ⊢
  rw[K_q]at hc ⊢
  split at hc
  ·rename_i hj;exact⟨c',by rw[if_pos hj];exact hc,λ_ hv=>hv⟩
  ·rename_i hj
   rw[if_neg hj]
   cases hk:j-a.length with
   | zero=>
    rw[hk]at hc
    simp only[K_k,Option.some.injEq]at hc
    subst hc
    refine⟨.nils,rfl,λv hv=>?_⟩
    cases hv
    exact .valsNil _ _ _
   | succ k=>
    rw[hk]at hc
    exact⟨c',by simpa using hc,λ_ hv=>hv⟩
theorem D_3 {P:Program}{f:FuncId}{avs:List AV}{r:AV}{h h':a0_}{K:AV->a0_->Prop}(hl:y_n h h')(hi:f2_ P f=true)(hc:a6_ P f avs h' λr' h''=>r'=r/\h''=h')(hk:K r h'):c_e P f avs h K:=
 a1_ ⟨hi,hc.less hl⟩ λ_ _ ⟨e1,e2⟩=>by subst e1;subst e2;exact hk
def y2_ (P:Program)(f:FuncId):Prop:=f2_ P f=true/\∀(F:Nat->Prop)(h:a0_)(x:e3_)(a:List AV),RdL F h x.c a->x.few (2^40)->
 a6_ P f [.agg a] h λv h'=>∃o n e,v=.agg [o,n,e]/\Own (b1_ x.old) (λm=>h.length<=m) h' o/\Own (b1_ x.new) (λm=>h.length<=m) h' n/\Own (b1_ x.learners) (λm=>h.length<=m) h' e/\Ext nof h h'
theorem j_2 {P:Program}{f g:FuncId}(hf:Is P f (p0_ g))(hg:h_p P g):y2_ P f:=by
 refine⟨hf.2,λF h x a ha hx=>a4_ hf.1 (J_y rfl) ?_⟩
 show vc P (p0_ g).code ⟨[(0,.agg a)],[],h⟩ (b2_ (p0_ g).res _)
 obtain⟨o,n,e,rfl,ho,hn,he⟩:=J7_ ha
 obtain⟨H,hH⟩:∃H,H=h++[some (a5_.arr 3 [[o,n,e]] false)]++[some (a5_.arr 3 [[.nils,.nils,.nils]] false)]:=⟨_,rfl⟩
 have X1:Ext nof h H:=by rw[hH];exact Ext.b2 _ _
 have lH:H.length=h.length+2:=by rw[hH];simp
 have C0:H[h.length]?=some (some (a5_.arr 3 [[o,n,e]] false)):=by rw[hH];exact b_z _ _ _
 have C1:H[h.length+1]?=some (some (a5_.arr 3 [[.nils,.nils,.nils]] false)):=by rw[hH];exact O1_ _ _ _
 simp only[p0_,go_sem,reduceEqDiff,reduceAdd,ho.scalar,hn.scalar,he.scalar]
 rw[<-hH]
 clear hH
 refine a1_ ⟨hg.1,hg.2 F H x.old o (ho.up X1) hx.1⟩ ?_
 rintro o1 H2 ⟨oo,-,X2⟩
 have D0:=X2.get C0
 have D1:=X2.get C1
 rw[d9_]
 simp only[go_sem,reduceEqDiff,reducePow,reduceDiv,reduceMod,decide_true,D0]
 refine a1_ ⟨hg.1,hg.2 F H2 x.new n ((hn.up X1).up X2) hx.2.1⟩ ?_
 rintro n1 H3 ⟨on,-,X3⟩
 have E0:=X3.get D0
 have E1:=X3.get D1
 rw[d9_]
 simp only[go_sem,reduceEqDiff,reducePow,reduceDiv,reduceMod,decide_true,E0]
 refine a1_ ⟨hg.1,hg.2 F H3 x.learners e (((he.up X1).up X2).up X3) hx.2.2⟩ ?_
 rintro e1 H4 ⟨oe,-,X4⟩
 have F0:=X4.get E0
 have F1:=X4.get E1
 have l4:=(J_w.1 F1).1
 have x2:=X2.1
 have x3:=X3.1
 have x4:=X4.1
 rw[d9_]
 simp only[go_sem,reduceEqDiff,reduceAdd,reduceLeDiff,reducePow,reduceDiv,reduceMod,decide_true,F0,F1,oo.scalar,on.scalar,oe.scalar,b5_ oo.scalar,b5_ on.scalar,b5_ oe.scalar,l4]
 have kk:∀v (F:Nat->Prop),(∀m,F m->H.length<=m)->v4_ F H4 (H4.set (h.length+1) v):=λv F hF m hm y hy=>(J_x (by have:=hF m hm;omega)).trans hy
 refine⟨o1,n1,e1,rfl,?_,?_,?_,?_⟩
 ·exact Own.mono _ (λm hm=>by omega) (kk _ _ (λm hm=>hm)) _ (Own.mono _ (λ_ y=>y) ((X3.tr X4).keep _) _ oo)
 ·exact Own.mono _ (λm hm=>by omega) (kk _ _ (λm hm=>by omega)) _ (Own.mono _ (λ_ y=>y) (X4.keep _) _ on)
 ·exact Own.mono _ (λm hm=>by omega) (kk _ _ (λm hm=>by omega)) _ oe
 ·exact (((X1.tr X2).tr X3).tr X4).setNew (by omega) _
def q_0 (P:Program)(f:FuncId):Prop:=f2_ P f=true/\∀(F:Nat->Prop)(h:a0_)(x:e3_)(a:List AV),RdL F h x.c a->x.few (2^40)->a6_ P f [.agg a] h λv h'=>v=.agg x.v/\h'=h
theorem y2_.p {P:Program}{f:FuncId}(hc:y2_ P f):q_0 P f:=⟨hc.1,λF h x a ha hx=>(hc.2 F h x a ha hx).freeze λ_ _ ⟨o,n,e,h1,h2,h3,h4,h5⟩=>⟨h5,_,h1▸Frz.aggD (ds:=x.c) (g2_.fz _ (λ_ x=>x) _ (by simp only[e3_.c,g2_];exact⟨o,_,rfl,h2,n,_,rfl,h3,e,_,rfl,h4,rfl⟩)),rfl⟩⟩
def B_x (P:Program)(f:FuncId):Prop:=f2_ P f=true/\∀(F:Nat->Prop)(h:a0_)(l:List Int)(a:AV),Rd F h (b3_ l) a->l.length<=2^40->a6_ P f [a] h λr h'=>r=k0_ l/\h'=h
theorem L5_.q {P:Program}{f:FuncId}(hc:L5_ P f):B_x P f:=⟨hc.1,λF h l a ha hl=>(hc.2 F h l a ha hl).freeze λ_ _ ⟨h1,h2⟩=>⟨h2,_,Frz.d (Own.fz _ (λ_ x=>x) _ h1),rfl⟩⟩
def G_7 (P:Program)(f:FuncId):Prop:=f2_ P f=true/\∀(F:Nat->Prop)(h:a0_)(l:Log)(a:List AV)(i:Int),RdL F h l.c a->E3_ l->
 a6_ P f [.agg a,.int .i64 i] h λr h'=>r=.tup [.agg (l.cut i).v,.int .i64 (if l.has i then 0 else 3)]/\h'=h
theorem v_k.cp {P:Program}{f:FuncId}(hc:v_k P f):G_7 P f:=⟨hc.1,λF h l a i ha hl=>(hc.2 F h l a i ha hl).freeze λ_ _ ⟨_,h1,h2,h3⟩=>⟨h3,_,h1▸Frz.tup2 (Frz.aggD (g2_.fz _ (λ_ x=>x) _ h2)) (Frz.int _ _),rfl⟩⟩
def m_3 (P:Program)(f:FuncId):Prop:=f2_ P f=true/\∀(G:Nat->Prop)(L:Nat->Nat)(h:a0_)(r o:Nat)(x:RX)(j:Nat)(base term:Int)(c:e3_)(a:List AV)(snap:List Int)(s:AV),XAt L h r o x->E3_ x.r.hard.log->x.few j->j<2^20->RdL G h c.c a->Rd G h (b3_ snap) s->(∀n,G n->L n=0)->c.few (2^40)->snap.length<=2^40->
 a6_ P f [.agg [.ptr r 21 0 0,.ptr o 5 0 0],.int .i64 base,.int .i64 term,.agg a,s] h λ_ h'=>XTo wA nof L h r o (x.base base term c snap) h'
theorem w_q {P:Program}{f f1 f2 f3 f4 f5:FuncId}(hf:Is P f (d1_ f1 f2 f3 f4 f5))(u1:R3_ P f1)(u2:G_7 P f2)(u3:y2_ P f3)(u4:L5_ P f4)(u5:f_t P f5):m_3 P f:=by
 refine⟨hf.2,λG L h r o x j base term c a snap s hx hlog hj hj2 hc hs hG hcf hsl=>a4_ hf.1 (J_y rfl) ?_⟩
 show vc P (d1_ f1 f2 f3 f4 f5).code ⟨[(0,.agg [.ptr r 21 0 0,.ptr o 5 0 0]),(1,.int .i64 base),(2,.int .i64 term),(3,.agg a),(4,s)],[],h⟩ (b2_ (d1_ f1 f2 f3 f4 f5).res _)
 obtain⟨co,cn,ce,rfl,ho,hn,he⟩:=J7_ hc
 have ap:=hx.apart
 obtain⟨R,out⟩:=x
 simp only at hlog
 obtain⟨H,hH⟩:∃H,H=h++[some (a5_.arr 2 [[.ptr r 21 0 0,.ptr o 5 0 0]] false)]++[some (a5_.arr 3 [[co,cn,ce]] false)]:=⟨_,rfl⟩
 have X1:Ext nof h H:=by rw[hH];exact Ext.b2 _ _
 have lH:H.length=h.length+2:=by rw[hH];simp
 have C0:H[h.length]?=some (some (a5_.arr 2 [[.ptr r 21 0 0,.ptr o 5 0 0]] false)):=by rw[hH];exact b_z _ _ _
 have C1:H[h.length+1]?=some (some (a5_.arr 3 [[co,cn,ce]] false)):=by rw[hH];exact O1_ _ _ _
 have hx1:=hx.up X1
 have z2:∀m,h.length<=m->¬wA (L m):=λm e=>by rw[hx.ge e];exact wA0
 have rdc:∀{y H'},XTo wA nof L H r o y H'->RdL (λn=>G n/\n<h.length) H' c.c [co,cn,ce]:=λT=>RdL.mono (λ_ y=>y) (λn hn y hy=>T.keep (by rw[hG n hn.1];exact wA0) (λz=>z) (X1.get hy)) _ _ (RdL.lt _ _ hc)
 have rds:∀{y H'},XTo wA nof L H r o y H'->Rd (λn=>G n/\n<h.length) H' (b3_ snap) s:=λT=>Rd.mono (λ_ y=>y) (λn hn y hy=>T.keep (by rw[hG n hn.1];exact wA0) (λz=>z) (X1.get hy)) _ _ (Rd.lt _ _ hs)
 have third:∀(Le:Env)(H0 H':a0_),y_n H0 H'->H0[h.length]?=some (some (a5_.arr 2 [[.ptr r 21 0 0,.ptr o 5 0 0]] false))->H0[h.length+1]?=some (some (a5_.arr 3 [[co,cn,ce]] false))->lk 1 Le=.int .i64 base->lk 2 Le=.int .i64 term->lk 4 Le=s->lk 5 Le=.ptr h.length 2 0 0->lk 8 Le=.ptr (h.length+1) 3 0 0->XTo wA nof L H r o ⟨{R with hard:={R.hard with log:=R.snapped base term}},out⟩ H'->
   vc P (d1_ f1 f2 f3 f4 f5).code.tl.tl ⟨Le,[],H0⟩ (b2_ (d1_ f1 f2 f3 f4 f5).res λ_ h'=>XTo wA nof L h r o (RX.base ⟨R,out⟩ base term c snap) h'):=by
  intro Le H0 H' hless B0 B1 k1 k2 k4 k5 k8 T
  have D0:=T.keep (z2 _ (J_4 _)) (λy=>y) C0
  have D1:=T.keep (z2 _ (by omega)) (λy=>y) C1
  obtain⟨g,ff,rr⟩:=T.rowR
  have rr':=rr
  simp only[b4_.row]at rr'
  have lr:=(J_w.1 rr).1
  have q0:(r=h.length)=False:=eq_false (by omega)
  have q1:(r=h.length+1)=False:=eq_false (by omega)
  have q2:(h.length=r)=False:=eq_false (by omega)
  have q3:(h.length+1=r)=False:=eq_false (by omega)
  simp only[d1_,AC.tl_seq,go_sem,reduceEqDiff,reduceAdd,reduceLeDiff,k4,k5,k8,B0,B1]
  refine D_3 hless u3.1 (u3.p.2 _ H' c _ (rdc T) hcf) ?_
  rw[d9_]
  simp only[go_sem,reduceEqDiff,reduceAdd,reduceLeDiff,reducePow,reduceDiv,reduceMod,decide_true,D0,D1]
  refine j4_ u4.1 (u4.q.2 _ H' snap _ (rds T) hsl) ?_
  rw[d9_]
  simp only[go_sem,reduceEqDiff,reduceAdd,reduceLeDiff,reducePow,reduceDiv,reduceMod,decide_true,k1,k2,k4,k5,k8,D0,D1,rr',e3_.v_eq,q0,q1,lr,L_j,J_2]
  have T1:=XTo.setR (R':={R with hard:={R.hard with log:=R.snapped base term,conf:=c,snap:=snap}}) T rr rfl rfl (λ_ z=>z)
  simp only[b4_.row]at T1
  have M0:=T1.keep (z2 _ (J_4 _)) (λy=>y) C0
  have M1:=T1.keep (z2 _ (by omega)) (λy=>y) C1
  have hl2:H.length<=(H'.set r (some (.arr 21 [R.row g ff] false))).length:=by obtain⟨_,_,_,e⟩:=T;rw[J_2];exact e.1
  rw[J_2]at hl2
  have hle:∀v,(H'.set r v).length=H'.length:=λv=>J_2
  generalize hH2:List.set H' r _=H2 at *
  have hl3:H2.length=H'.length:=by rw[<-hH2];exact hle _
  refine a1_ ⟨u3.1,u3.2 _ H2 c _ (rdc T1) hcf⟩ ?_
  rintro _ H3 ⟨o1,n1,e1,rfl,o2,n2,e2,X3⟩
  have N0:=X3.get M0
  have N1:=X3.get M1
  rw[d9_]
  simp only[go_sem,reduceEqDiff,reduceAdd,reduceLeDiff,reducePow,reduceDiv,reduceMod,decide_true,N0,N1]
  refine a1_ ⟨u4.1,u4.2 _ H3 snap _ (Rd.mono (λ_ y=>y) (X3.keep _) _ _ (rds T1)) hsl⟩ ?_
  rintro s1 H4 ⟨os,X4⟩
  have P0:=X4.get N0
  have P1:=X4.get N1
  rw[d9_]
  have x3:=X3.1
  simp only[go_sem,reduceEqDiff,reduceAdd,reduceLeDiff,reducePow,reduceDiv,reduceMod,decide_true,P0,P1,b5_ os.scalar]
  have tl:=XTo.callM (Q':=λn=>H2.length<=n) T1 (X3.tr X4) (λn hn (z:H2.length<=n)=>by omega) λL1 x1=>
   (u5.2 (λn=>H2.length<=n) L1 H4 r o _ {b9_.zero with kind:=3,log:=⟨base,term,[]⟩,conf:=c,snap:=snap} .nils o1 n1 e1 s1 (x1.up (X3.tr X4)) (Own.nils 3) (Own.mono _ (λ_ y=>y) (X4.keep _) _ o2) (Own.mono _ (λ_ y=>y) (X4.keep _) _ n2) (Own.mono _ (λ_ y=>y) (X4.keep _) _ e2) (Own.mono _ (λm hm=>by omega) (λ_ _ _ y=>y) _ os) (λn hn=>x1.ge hn) (m_m (show out.changes.length<=j from hj.2) (by omega) 216 (by omega))).mono λ_ _ b=>b.weakW Z6_
  refine a1_ ⟨u5.1,tl⟩ ?_
  intro _ H5 T5
  rw[d9_]
  simp only[go_sem,reducePow,reduceDiv,reduceMod,decide_true]
  exact XTo.from X1 T5
 have e0:(d1_ f1 f2 f3 f4 f5).code=.seq (d1_ f1 f2 f3 f4 f5).code.hd (.seq (d1_ f1 f2 f3 f4 f5).code.tl.hd (d1_ f1 f2 f3 f4 f5).code.tl.tl):=rfl
 rw[e0]
 generalize (d1_ f1 f2 f3 f4 f5).code.tl.tl=D at third ⊢
 have snd:=third
 simp only[d1_]at snd
 clear third
 obtain⟨g,ff,rr⟩:=hx1.rowR
 have rr':=rr
 simp only[b4_.row]at rr'
 have lr:=(J_w.1 rr).1
 simp only[d1_,AC.hd_seq,AC.tl_seq,go_sem,reduceEqDiff,reduceAdd,ho.scalar,hn.scalar,he.scalar]
 rw[<-hH]
 clear hH
 simp only[go_sem,reduceEqDiff,reduceAdd,reduceLeDiff,rr']
 refine j4_ u1.1 (u1.2 nof H R.hard.log _ base (v2_ R.hard.log H) hlog) ?_
 have q0:(r=h.length)=False:=eq_false (by omega)
 have q1:(r=h.length+1)=False:=eq_false (by omega)
 have q2:(h.length=r)=False:=eq_false (by omega)
 have q3:(h.length+1=r)=False:=eq_false (by omega)
 simp only[go_sem,reduceEqDiff]
 have lessE:R.snapped base term=⟨base,term,[]⟩->y_n (H.set r (some (.arr 21 [[.int .i64 R.id,.int .i64 R.hard.group,.int .i64 R.hard.term,.int .i64 R.hard.vote,.int .i64 base,.int .i64 term,.nils,g1_ R.hard.conf.old,g1_ R.hard.conf.new,g1_ R.hard.conf.learners,k0_ R.hard.snap,
   .int .i64 R.commit,.int .i64 R.applied,.int .i64 R.role,.int .i64 R.leader,.int .i64 R.elapsed,.int .i64 R.timeout,g,ff,.int .i64 R.round,.int .i64 R.beat]] false)))
   (H.set r (some (.arr 21 [({R with hard:={R.hard with log:=R.snapped base term}}:b4_).row g ff] false))):=by
  intro es
  have okr:W5_ 21 [({R with hard:={R.hard with log:=⟨base,term,[]⟩}}:b4_).row g ff]:=by
   obtain⟨g2,f2,ra2⟩:=hx1.r
   have:=ra2.row.symm.trans rr
   simp only[Option.some.injEq,a5_.arr.injEq,List.cons.injEq,b4_.row]at this
   obtain⟨-,⟨⟨-,-,-,-,-,-,-,-,-,-,-,-,-,-,-,-,-,rfl,rfl,-⟩,-⟩,-⟩:=this
   intro y hy
   simp only[List.mem_singleton]at hy
   subst hy
   refine⟨rfl,?_⟩
   simp only[b4_.row,List.all_cons,List.all_nil,ra2.go.scalar,ra2.fo.scalar,k4_,r0_,w1_,Bool.and_true,M_q]
   rfl
  have hl:=w_3 (h:=H.set r (some (.arr 21 [[.int .i64 R.id,.int .i64 R.hard.group,.int .i64 R.hard.term,.int .i64 R.hard.vote,.int .i64 base,.int .i64 term,.nils,g1_ R.hard.conf.old,g1_ R.hard.conf.new,g1_ R.hard.conf.learners,k0_ R.hard.snap,
   .int .i64 R.commit,.int .i64 R.applied,.int .i64 R.role,.int .i64 R.leader,.int .i64 R.elapsed,.int .i64 R.timeout,g,ff,.int .i64 R.round,.int .i64 R.beat]] false))) (r:=r) (sz:=21) (gr:=false)
   (a:=[.int .i64 R.id,.int .i64 R.hard.group,.int .i64 R.hard.term,.int .i64 R.hard.vote,.int .i64 base,.int .i64 term]) (b:=[g1_ R.hard.conf.old,g1_ R.hard.conf.new,g1_ R.hard.conf.learners,k0_ R.hard.snap,
   .int .i64 R.commit,.int .i64 R.applied,.int .i64 R.role,.int .i64 R.leader,.int .i64 R.elapsed,.int .i64 R.timeout,g,ff,.int .i64 R.round,.int .i64 R.beat]) (J_0 lr) okr
  rw[L_j]at hl
  rw[es]
  exact hl
 cases c2:R.hard.log.has base
 ·have es:R.snapped base term=⟨base,term,[]⟩:=by unfold b4_.snapped;rw[if_neg (by rintro⟨z,-⟩;rw[c2]at z;cases z)]
  have T1:=XTo.setR (R':={R with hard:={R.hard with log:=R.snapped base term}}) (hx1.to (W:=wA) (Q:=nof)) rr rfl rfl (λ_ z=>z)
  simp only[go_sem,reduceEqDiff,reduceAdd,reduceLeDiff,rr',C0]
  refine snd _ _ _ (lessE es) ?_ ?_ ?_ ?_ ?_ ?_ ?_ T1<;>simp[a3_,c9_,q0,q1,C0,C1]
 ·by_cases c3:R.hard.log.term base=term
  ·have es:R.snapped base term=R.hard.log.cut base:=by unfold b4_.snapped;rw[if_pos ⟨c2,c3⟩]
   have T1:=XTo.setR (R':={R with hard:={R.hard with log:=R.snapped base term}}) (hx1.to (W:=wA) (Q:=nof)) rr rfl rfl (λ_ z=>z)
   simp only[go_sem,reduceEqDiff,reduceAdd,reduceLeDiff,rr',C0,decide_eq_true c3]
   have cp:=u2.2 nof H R.hard.log _ base (v2_ R.hard.log H) hlog
   rw[<-es]at cp
   simp only[Log.v_eq]at cp
   refine j4_ u2.1 cp ?_
   rw[d9_]
   simp only[go_sem,reduceEqDiff,reduceAdd,reduceLeDiff,reducePow,reduceDiv,reduceMod,decide_true,rr',C0,c2,q0,lr]
   refine snd _ _ _ (y_n.refl _) ?_ ?_ ?_ ?_ ?_ ?_ ?_ T1<;>simp[a3_,c9_,q0,q1,C0,C1]
  ·have es:R.snapped base term=⟨base,term,[]⟩:=by unfold b4_.snapped;rw[if_neg (λz=>c3 z.2)]
   have T1:=XTo.setR (R':={R with hard:={R.hard with log:=R.snapped base term}}) (hx1.to (W:=wA) (Q:=nof)) rr rfl rfl (λ_ z=>z)
   simp only[go_sem,reduceEqDiff,reduceAdd,reduceLeDiff,rr',C0,decide_eq_false c3]
   refine snd _ _ _ (lessE es) ?_ ?_ ?_ ?_ ?_ ?_ ?_ T1<;>simp[a3_,c9_,q0,q1,C0,C1]
theorem i_x (st:Rdr):(∀b∈(e5_ st).1,b∈st.all)/\(e5_ st).1.length<=st.all.length/\(∀b∈(e5_ st).2.all,b∈st.all)/\(e5_ st).2.all.length<=st.all.length:=by
 cases st with
 | none=>exact⟨by simp[e5_,a2_],by simp[e5_,a2_],by simp[e5_,a2_,Rdr.all],by simp[e5_,a2_,Rdr.all]⟩
 | some l=>
  unfold e5_ a2_
  by_cases c:l.length<8
  ·simp[c,Rdr.all]
  ·simp only[c,if_false]
   by_cases c2:C4_ (l.take 8)<0\/((l.drop 8).length:Int)<C4_ (l.take 8)
   ·rw[if_pos c2];simp[Rdr.all]
   ·rw[if_neg c2]
    refine⟨λb hb=>K_z (L_g hb),?_,λb hb=>K_z (K_z hb),?_⟩
    ·show ((l.drop 8).take _).length<=l.length
     simp only[K_i,K_o];omega
    ·show ((l.drop 8).drop _).length<=l.length
     simp only[K_o];omega
theorem O6_.q {P:Program}{f:FuncId}(hc:O6_ P f):h_m P f:=⟨hc.1,λG h l b hb h1 h2=>(hc.2 G h l b hb h1 h2).freeze λ_ _ ⟨_,e,h3,h4⟩=>⟨h4,_,e▸Frz.tup2 (Frz.aggD (g2_.fz _ (λ_ x=>x) _ h3)) (Frz.int _ _),rfl⟩⟩
theorem i_a {l:List Int}(hb:c2_ l)(hl:l.length<=2^16):(c2_ (l5_ l).1/\(l5_ l).1.length<=2^16)/\c2_ (l5_ l).2.1/\(l5_ l).2.1.length<=2^16:=by
 obtain⟨a1,a2,a3,a4⟩:=i_x (some l)
 obtain⟨b1,b2,b3,b4⟩:=i_x (e5_ (some l)).2
 have e:Rdr.all (some l)=l:=rfl
 rw[e]at a1 a2 a3 a4
 exact⟨⟨λx hx=>hb x (a1 x hx),by show (e5_ (some l)).1.length<=_;omega⟩,λx hx=>hb x (a3 x (b1 x hx)),by show (e5_ (e5_ (some l)).2).1.length<=_;omega⟩
def a_x (P:Program)(f:FuncId):Prop:=f2_ P f=true/\∀(L:Nat->Nat)(h:a0_)(r o:Nat)(x:RX)(k j:Nat)(m:Msg)(a:List AV),XAt L h r o x->x.r.fit k->k<=2^28->x.few j->j+1<2^20->O5_ L h m a->m.fit->0<=m.index/\m.index<=2^40->
 a6_ P f [.agg [.ptr r 21 0 0,.ptr o 5 0 0],.agg a] h λ_ h'=>XTo wA nof L h r o (x.restore m) h'
theorem l_e {P:Program}{f f1 f2 f3 f4 f5 f6:FuncId}(hf:Is P f (k5_ f1 f2 f3 f4 f5 f6))(u1:Z1_ P f1)(u2:q_v P f2)(u3:q_4 P f3)(u4:h_m P f4)(u5:Is P f5 e4_)(u6:m_3 P f6):a_x P f:=by
 refine⟨hf.2,λL h r o x k j m a hx hfit hk hj hj2 hm hmf hmi=>a4_ hf.1 (J_y rfl) ?_⟩
 show vc P (k5_ f1 f2 f3 f4 f5 f6).code ⟨[(0,.agg [.ptr r 21 0 0,.ptr o 5 0 0]),(1,.agg a)],[],h⟩ (b2_ (k5_ f1 f2 f3 f4 f5 f6).res _)
 obtain⟨G,hr,h0⟩:=id hm
 obtain⟨e,d,rfl,he,hd⟩:=G4_ hr
 obtain⟨ap1,ap2,ap3⟩:=hx.apart
 obtain⟨R,out⟩:=x
 simp only at hfit
 obtain⟨H,hH⟩:∃H,H=h++[some (a5_.arr 2 [[.ptr r 21 0 0,.ptr o 5 0 0]] false)]++[some (a5_.arr 17 [m.cells e d] false)]:=⟨_,rfl⟩
 have X1:Ext nof h H:=by rw[hH];exact Ext.b2 _ _
 have lH:H.length=h.length+2:=by rw[hH];simp
 have C0:H[h.length]?=some (some (a5_.arr 2 [[.ptr r 21 0 0,.ptr o 5 0 0]] false)):=by rw[hH];exact b_z _ _ _
 have C1:H[h.length+1]?=some (some (a5_.arr 17 [m.cells e d] false)):=by rw[hH];exact O1_ _ _ _
 have hx1:=hx.up X1
 have z2:∀m,h.length<=m->¬wA (L m):=λm e=>by rw[hx.ge e];exact wA0
 have hr1:RdL (λn=>G n/\n<h.length) H m.c (m.cells e d):=RdL.mono (λ_ y=>y) (X1.keep _) _ _ (RdL.lt _ _ hr)
 obtain⟨g,ff,rr⟩:=hx1.rowR
 have rr':=rr
 have C1':=C1
 simp only[b4_.row]at rr'
 simp only[Msg.cells]at C1' hH
 have lr:=(J_w.1 rr).1
 have q0:(r=h.length)=False:=eq_false (by omega)
 have q1:(r=h.length+1)=False:=eq_false (by omega)
 have q2:(h.length=r)=False:=eq_false (by omega)
 have q3:(h.length+1=r)=False:=eq_false (by omega)
 simp only[k5_,go_sem,reduceEqDiff,reduceAdd,Msg.cells,he.scalar,hd.scalar]
 rw[<-hH]
 clear hH
 have ans:∀{B:a0_}{L':Nat->Nat}{y H'} (_:RdL (λn=>G n/\n<h.length) B m.c (m.cells e d)) (_:∀n,G n->L' n=0) (j:Nat) (ok:Bool) (ix:Int),XTo wA nof L' B r o y H'->y.few j->j<2^20->a6_ P f1 [.agg [.ptr r 21 0 0,.ptr o 5 0 0],.agg (m.cells e d),.bool ok,.int .i64 ix] H' λ_ h''=>XTo wA nof L' B r o (y.answer m ok ix) h'':=fun {B L' y H'} hb hl j ok ix T yf hj=>
  XTo.callM (Q':=nof) T (Ext.refl _ _) (λ_ _ y=>y) λL1 x1=>(u1.2 L1 H' r o y j m _ (λn=>G n/\n<h.length) ok ix x1 yf hj (RdL.mono (λ_ y=>y) (λn hn y hy=>T.keep (by rw[hl n hn.1];exact wA0) (λz=>z) hy) _ _ hb)).mono λ_ _ b=>b.weakW Z6_
 simp only[Msg.cells]at ans hr1
 simp only[go_sem,reduceEqDiff,rr']
 by_cases c1:m.index<=R.commit
 ·have ea:(RX.restore ⟨R,out⟩ m)=RX.answer ⟨R,out⟩ m true R.commit:=by unfold RX.restore;rw[if_pos c1]
  rw[ea]
  simp only[go_sem,reduceEqDiff,reduceAdd,reduceLeDiff,rr',C0,C1',decide_eq_true c1]
  refine a1_ ⟨u1.1,ans hr1 h0 j true R.commit hx1.to hj (by omega)⟩ ?_
  intro _ H2 T2
  rw[d9_]
  simp only[go_sem,reducePow,reduceDiv,reduceMod,decide_true]
  exact XTo.from X1 T2
 ·simp only[go_sem,reduceEqDiff,reduceAdd,C1',decide_eq_false c1]
  have hd1:Rd (λn=>G n/\n<h.length) H (b3_ m.data) d:=Rd.mono (λ_ y=>y) (X1.keep _) _ _ (Rd.lt _ _ hd)
  have hdl:=hmf.data
  refine a1_ ⟨u2.1,u2.2 _ H m.data d hd1 hdl.1 (by omega)⟩ ?_
  rintro _ H2 ⟨q,rfl,hq,S2,X2⟩
  have lq:=S2.lt
  simp only[go_sem,reduceEqDiff]
  refine a1_ ⟨u3.1,u3.2 _ H2 q _ S2 (by omega)⟩ ?_
  rintro b1 H3 ⟨o1,S3,X3⟩
  simp only[go_sem,reduceEqDiff]
  refine a1_ ⟨u3.1,u3.2 _ H3 q _ S3 (by omega)⟩ ?_
  rintro b2 H4 ⟨o2,S4,X4⟩
  have l2:=X2.1
  have l3:=X3.1
  have l4:=X4.1
  have X34:Ext (only q) H2 H4:=X3.trans X4 (λ_ _ z=>z) (λ_ _ z=>z)
  have XH:Ext nof H H4:=⟨by omega,λm hm _=>(X34.2 m (by omega) (by show m≠q;omega)).trans (X2.2 m hm (λz=>z))⟩
  have o1':Own (b3_ (e5_ (some m.data)).1) (λm=>H.length<=m/\m<q) H4 b1:=Own.mono _ (λ_ y=>y) (λn hn y hy=>(X4.2 n (J_w.1 hy).1 (by show n≠q;omega)).trans hy) _ o1
  obtain⟨tb1,tb2⟩:=i_a hdl.1 hdl.2
  have et:l5_ m.data=((e5_ (some m.data)).1,(e5_ (e5_ (some m.data)).2).1,(e5_ (e5_ (some m.data)).2).2.end_):=rfl
  rw[et]at tb1 tb2
  simp only at tb1 tb2
  have D0:=XH.get C0
  have D1:=XH.get C1'
  have r4:=XH.get rr'
  simp only[go_sem,reduceEqDiff]
  refine j4_ u4.1 (u4.2 (λ_=>True) H4 _ b1 (Own.rd _ (λ_ _=>trivial) _ o1') tb1.1 (by omega)) ?_
  obtain⟨cf,hcf⟩:∃cf,cf=g5_ (e5_ (some m.data)).1:=⟨_,rfl⟩
  rw[<-hcf]
  simp only[go_sem,reduceEqDiff,reduceAdd,reduceLeDiff,e3_.v_eq,r0_]
  have S5:=S4.up (Ext.b1 (some (a5_.arr 3 [[g1_ cf.1.old,g1_ cf.1.new,g1_ cf.1.learners]] false)))
  have X5:=XH.tr (Ext.b1 (some (a5_.arr 3 [[g1_ cf.1.old,g1_ cf.1.new,g1_ cf.1.learners]] false)))
  have C5:=x3_ H4 (some (a5_.arr 3 [[g1_ cf.1.old,g1_ cf.1.new,g1_ cf.1.learners]] false))
  have hx5:=hx1.up X5
  have E0:=X5.get C0
  have E1:=X5.get C1'
  have o2':Rd (λn=>H.length<=n) (H4++[some (a5_.arr 3 [[g1_ cf.1.old,g1_ cf.1.new,g1_ cf.1.learners]] false)]) (b3_ (e5_ (e5_ (some m.data)).2).1) b2:=Rd.mono (λ_ y=>y) ((Ext.b1 _).keep _) _ _ (Own.rd _ (λn hn=>hn.1) _ o2)
  have hr5:=RdL.mono (λ_ y=>y) (X5.keep _) _ _ hr1
  have er:(RX.restore ⟨R,out⟩ m)=(if ¬(e5_ (e5_ (some m.data)).2).2.end_=0\/¬cf.2=0 then ⟨R,out⟩ else
    let y:=RX.base ⟨R,out⟩ m.index m.prev cf.1 (e5_ (e5_ (some m.data)).2).1
    (⟨{y.r with commit:=m.index,applied:=m.index},{y.o with restore:=true}⟩:RX).answer m true m.index):=by
   unfold RX.restore;rw[if_neg c1];simp only[et,<-hcf]
  have l5:H4.length<(H4++[some (a5_.arr 3 [[g1_ cf.1.old,g1_ cf.1.new,g1_ cf.1.learners]] false)]).length:=by simp
  generalize hH5:H4++_=H5 at *
  refine j4_ u5.2 (f_b u5 S5) ?_
  generalize (e5_ (e5_ (some m.data)).2).2.end_=en at *
  generalize (e5_ (e5_ (some m.data)).2).1=sn at *
  by_cases c2:en=0
  ·by_cases c3:cf.2=0
   ·rw[if_neg (by rintro (z | z);exact z c2;exact z c3)]at er
    simp only[go_sem,reduceEqDiff,reduceAdd,reduceLeDiff,E0,E1,C5,decide_eq_true c2,decide_eq_true c3,K_l]
    have bs:=u6.2 (λn=>H.length<=n) L H5 r o ⟨R,out⟩ j m.index m.prev cf.1 _ sn b2 hx5 (hfit.logOk hk) hj (by omega) (RdL.mono (F:=nof) (λ_ z=>z.elim) (λ_ hm=>hm.elim) _ _ (M8_ cf.1 H5)) o2' (λn hn=>hx.ge (by omega)) (by
     have:=r2_ (K6_ (l:=(e5_ (some m.data)).1) (by rw[<-hcf];exact c3));rw[<-hcf]at this;exact this.le (by decide)) (by omega)
    refine a1_ ⟨u6.1,bs⟩ ?_
    intro _ H6 T6
    obtain⟨g6,f6,r6⟩:=T6.rowR
    obtain⟨ma,ca,aa,o6,sma,sca,saa⟩:=T6.rowO
    have M0:=T6.keep (z2 _ (J_4 _)) (λy=>y) E0
    have M1:=T6.keep (z2 _ (by omega)) (λy=>y) E1
    have lr6:=(J_w.1 r6).1
    have lo6:=(J_w.1 o6).1
    have w0:(o=h.length)=False:=eq_false (by omega)
    have w1:(o=h.length+1)=False:=eq_false (by omega)
    have w2:(h.length=o)=False:=eq_false (by omega)
    have w3:(h.length+1=o)=False:=eq_false (by omega)
    have w4:(r=o)=False:=eq_false ap3
    have w5:(o=r)=False:=eq_false (λz=>ap3 z.symm)
    obtain⟨y,hy⟩:∃y,y=RX.base ⟨R,out⟩ m.index m.prev cf.1 sn:=⟨_,rfl⟩
    have yf:y.few (j+1):=by rw[hy];exact RX.few.tell (x:=({r:={R with hard:={R.hard with log:=R.snapped m.index m.prev,conf:=cf.1,snap:=sn}},o:=out}:RX)) hj _
    rw[<-hy]at T6 r6 o6 er
    have T7:=XTo.setR (R:=y.r) (out:=y.o) (R':={y.r with commit:=m.index,applied:=m.index}) T6 r6 rfl rfl (λ_ z=>z)
    have o7:(H6.set r (some (.arr 21 [({y.r with commit:=m.index,applied:=m.index}:b4_).row g6 f6] false)))[o]?=some (some (.arr 5 [[ma,ca,aa,.int .i64 y.o.first,.bool y.o.restore]] false)):=(J_x (λz=>ap3 z)).trans o6
    have T8:=XTo.setO (n:=y.o.first) (b:=true) T7 o7 (λ_ z=>z)
    have r6':=r6
    simp only[b4_.row]at r6' T8
    simp only[go_sem,reduceEqDiff,reduceAdd,reduceLeDiff,reducePow,reduceDiv,reduceMod,decide_true,M0,M1,r6',o6,lr6,lo6,q0,q1,w0,w1,w4,L_j,J_2]
    have eo:({y.o with first:=y.o.first,restore:=true}:Rdy)={y.o with restore:=true}:=rfl
    have an:=ans hr5 h0 (j+1) true m.index T8 yf hj2
    refine a1_ ⟨u1.1,an⟩ ?_
    intro _ H8 T9
    rw[er]
    simp only[go_sem]
    exact XTo.from X1 (XTo.from X5 T9)
   ·rw[if_pos (.inr c3)]at er
    rw[er]
    simp only[go_sem,reduceEqDiff,decide_eq_true c2,decide_eq_false c3,K_l,K_u]
    exact XTo.from X1 (XTo.from X5 hx5.to)
  ·rw[if_pos (.inl c2)]at er
   rw[er]
   simp only[go_sem,reduceEqDiff,decide_eq_false c2,K_u]
   exact XTo.from X1 (XTo.from X5 hx5.to)
theorem e_g {l:List Int}(hb:c2_ l)(hl:l.length<=2^16):(c2_ (l5_ l).1/\(l5_ l).1.length<=2^16)/\c2_ (l5_ l).2.1/\(l5_ l).2.1.length<=2^16:=by
 have key:∀st:Rdr,(∀b∈(e5_ st).1,b∈st.all)/\(e5_ st).1.length<=st.all.length/\(∀b∈(e5_ st).2.all,b∈st.all)/\(e5_ st).2.all.length<=st.all.length:=by
  intro st
  cases st with
  | none=>exact⟨by simp[e5_,a2_],by simp[e5_,a2_],by simp[e5_,a2_,Rdr.all],by simp[e5_,a2_,Rdr.all]⟩
  | some l=>
   unfold e5_ a2_
   by_cases c:l.length<8
   ·simp[c,Rdr.all]
   ·simp only[c,if_false]
    by_cases c2:C4_ (l.take 8)<0\/((l.drop 8).length:Int)<C4_ (l.take 8)
    ·rw[if_pos c2];simp[Rdr.all]
    ·rw[if_neg c2]
     refine⟨λb hb=>K_z (L_g hb),?_,λb hb=>K_z (K_z hb),?_⟩
     ·show ((l.drop 8).take _).length<=l.length
      simp only[K_i,K_o];omega
     ·show ((l.drop 8).drop _).length<=l.length
      simp only[K_o];omega
 obtain⟨a1,a2,a3,a4⟩:=key (some l)
 obtain⟨b1,b2,b3,b4⟩:=key (e5_ (some l)).2
 have e:Rdr.all (some l)=l:=rfl
 rw[e]at a1 a2 a3 a4
 exact⟨⟨λx hx=>hb x (a1 x hx),by show (e5_ (some l)).1.length<=_;omega⟩,λx hx=>hb x (a3 x (b1 x hx)),by show (e5_ (e5_ (some l)).2).1.length<=_;omega⟩
section
variable {k j:Nat} {x:RX} {m:Msg}
theorem b4_.fit.elapsed0 {x:b4_}(h:x.fit k):({x with elapsed:=0}:b4_).fit k:=by
 obtain⟨g1,g2,g3,g4,g5,g6,g7,g8,g9,g10,g11,g12,g13,g14,g15⟩:=h
 exact⟨g1,g2,g3,g4,g5,g6,g7,g8,g9,⟨L_e _,by show (0:Int)<=k;omega⟩,g11,g12,g13,g14,g15⟩
theorem b4_.fit.vote {x:b4_}(h:x.fit k){v:Int}(hv:e2_ v):({x with hard:={x.hard with vote:=v}}:b4_).fit k:=by
 obtain⟨g1,g2,g3,g4,g5,g6,g7,g8,g9,g10,g11,g12,g13,g14,g15⟩:=h
 exact⟨g1,g2,g3,g4,g5,g6,g7,⟨g8.1,hv,g8.2.2⟩,g9,g10,g11,g12,g13,g14,g15⟩
theorem u_u (h:x.r.fit k)(hj:x.few j)(hm:m.fit):(x.asked m).r.fit k/\(x.asked m).few (j+2):=by
 have e:x.asked m=(if I3_ x.r.hard.term x.r.hard.vote x.r.hard.log m then (let z:RX:={x with r:={x.r with elapsed:=0}};if z.r.hard.vote=m.from_ then z else z.term z.r.hard.term m.from_) else x).send {Msg.zero with kind:=2,to:=m.from_,ok:=I3_ x.r.hard.term x.r.hard.vote x.r.hard.log m}:=rfl
 rw[e]
 split
 ·simp only
  split
  ·exact⟨h.elapsed0,(RX.few.send (x:={x with r:={x.r with elapsed:=0}}) hj _).mono (by omega)⟩
  ·exact⟨h.elapsed0.vote hm.from'.1,(RX.few.tell (x:={x with r:={x.r with elapsed:=0,hard:={x.r.hard with term:=x.r.hard.term,vote:=m.from_}}}) hj _).send _⟩
 ·exact⟨h,(hj.send _).mono (by omega)⟩
theorem r_k (h:x.r.fit k)(hk:k<2^28)(hj:x.few j):(x.voted m).r.fit (k+2)/\(x.voted m).few (j+22):=by
 unfold RX.voted
 split
 ·exact⟨h.mono (by omega),hj.mono (by omega)⟩
 ·have f:({x.r with granted:=x.r.granted++[m.from_]}:b4_).fit (k+1):=by
   obtain⟨g1,g2,g3,g4,g5,g6,g7,g8,g9,g10,g11,g12,g13,g14,g15⟩:=h.mono (M_s k)
   have:=h.granted
   exact⟨g1,g2,g3,g4,g5,g6,g7,g8,g9,g10,g11,g12,by show (x.r.granted++[m.from_]).length<=k+1+1;simp;omega,g14,g15⟩
  simp only
  split
  ·exact⟨b4_.fit.lead (x:={x with r:={x.r with granted:=x.r.granted++[m.from_]}}) f (by omega),RX.few.lead (x:={x with r:={x.r with granted:=x.r.granted++[m.from_]}}) f (by omega) hj⟩
  ·exact⟨f.mono (by omega),RX.few.mono (x:={x with r:={x.r with granted:=x.r.granted++[m.from_]}}) hj (by omega)⟩
theorem j2_.well.heard' {w:j2_}(h:w.well)(m:Msg)(hi:0<=m.index/\m.index<=2^40):(w.heard m).well:=by
 obtain⟨h1,⟨h2,h3⟩,h4,h5⟩:=h
 unfold j2_.heard
 split
 ·split
  ·exact⟨h1,⟨by show 0<=max w.next (max w.mat m.index+1);omega,by show max w.next (max w.mat m.index+1)<=_;omega⟩,by show 0<=max w.mat m.index;omega,by show max w.mat m.index<=_;omega⟩
  ·exact⟨h1,⟨by show 0<=max (w.mat+1) (min (w.next-1) (m.index+1));omega,by show max (w.mat+1) (min (w.next-1) (m.index+1))<=_;omega⟩,h4,h5⟩
 ·exact⟨h1,⟨h2,h3⟩,h4,h5⟩
theorem b4_.fit.setFlow' {x:b4_}(h:x.fit k)(i:Nat){w:j2_}(hw:w.well):({x with flows:=x.flows.set i w}:b4_).fit k:=by
 obtain⟨g1,g2,g3,g4,g5,g6,g7,g8,g9,g10,g11,g12,g13,g14,g15⟩:=h
 refine⟨g1,g2,g3,g4,g5,g6,g7,g8,g9,g10,g11,g12,g13,⟨by show (x.flows.set i w).length<=21;rw[J_2];exact g14.1,λy hy=>?_⟩,g15⟩
 rcases List.mem_or_eq_of_mem_set hy with z | z
 ·exact g14.2 y z
 ·rw[z];exact hw
theorem t_u (h:x.r.fit k)(hj:x.few j)(hi:0<=m.index/\m.index<=2^40):(x.heard m).r.fit k/\(x.heard m).few (j+1):=by
 unfold RX.heard
 split
 ·exact⟨h,hj.mono (by omega)⟩
 ·split
  ·exact⟨h,hj.mono (by omega)⟩
  ·rename_i i hi'
   have hil:i<x.r.flows.length:=by
    unfold t_1 at hi'
    exact (List.findIdx?_eq_some_iff_getElem.1 hi').1
   have ww:=(h.flows.2 _ (K_1 hil)).heard' m hi
   have e:(x.r.flows[i]?).getD ⟨0,0,0,0⟩=x.r.flows[i]:=by rw[J_5 hil];rfl
   rw[e]
   have f:=h.setFlow' i ww
   simp only
   split<;>split<;>first
    | exact⟨f.settle,(RX.few.send (x:=RX.settle {x with r:={x.r with flows:=x.r.flows.set i (x.r.flows[i].heard m)}}) hj _)⟩
    | exact⟨f,(RX.few.send (x:={x with r:={x.r with flows:=x.r.flows.set i (x.r.flows[i].heard m)}}) hj _)⟩
    | exact⟨f.settle,RX.few.mono (x:=RX.settle {x with r:={x.r with flows:=x.r.flows.set i (x.r.flows[i].heard m)}}) hj (M_s j)⟩
    | exact⟨f,RX.few.mono (x:={x with r:={x.r with flows:=x.r.flows.set i (x.r.flows[i].heard m)}}) hj (M_s j)⟩
theorem q_m (h:x.r.fit k)(hj:x.few j)(hm:m.fit)(hi:0<=m.index/\m.index<=2^40):(x.append m).r.fit (k+200)/\(x.append m).few (j+2):=by
 unfold RX.append
 split
 ·exact⟨h.mono (by omega),(RX.few.send hj _).mono (by omega)⟩
 ·split
  ·exact⟨h.mono (by omega),(RX.few.send hj _).mono (by omega)⟩
  ·rename_i c1 c2
   simp only
   have hp:x.r.hard.log.has m.index=true:=by
    cases e:x.r.hard.log.has m.index with
    | false=>exact absurd (.inl e) c2
    | true=>rfl
   split
   ·exact⟨h.mono (by omega),hj.mono (by omega)⟩
   ·rename_i c3
    have hb:=h.base
    by_cases c4:0<x.r.hard.log.laidAt m.index m.es
    ·rw[if_pos c4]
     obtain⟨f,el⟩:=h.laid hm hi hp (by omega)
     have fc:=f.at'
     refine⟨f.setCommit (c:=max x.r.commit (min m.commit (m.index+m.es.length))) (by show x.r.commit<=_;omega) (by show _<=(x.r.hard.log.laid m.index m.es).last;rw[el];have:=fc.2.2;have e3:x.r.commit<=(x.r.hard.log.laid m.index m.es).last:=this;omega),?_⟩
     exact (RX.few.tell (x:={x with r:={x.r with hard:={x.r.hard with log:=x.r.hard.log.laid m.index m.es}}}) hj _).send _
    ·rw[if_neg c4]
     have h0:x.r.hard.log.laidAt m.index m.es=0:=by
      unfold Log.laidAt at c4 ⊢
      split at c4
      ·have h1:=N6_.1 hp;omega
      ·rename_i c;rw[if_neg c]
     have hl:=Log.agree_last hb.1 hp h0
     have:=h.at'
     exact⟨(h.setCommit (c:=max x.r.commit (min m.commit (m.index+m.es.length))) (by omega) (by omega)).mono (by omega),(RX.few.send (x:={x with r:={x.r with commit:=max x.r.commit (min m.commit (m.index+m.es.length))}}) hj _).mono (by omega)⟩
theorem l_h (h:x.r.fit k)(hj:x.few j)(hm:m.fit)(hi:0<=m.index/\m.index<=2^40):(x.restore m).r.fit k/\(x.restore m).few (j+2):=by
 unfold RX.restore
 split
 ·exact⟨h,(RX.few.send hj _).mono (by omega)⟩
 ·simp only
  split
  ·exact⟨h,hj.mono (by omega)⟩
  ·rename_i c1 c2
   obtain⟨tb1,tb2⟩:=e_g hm.data.1 hm.data.2
   have hc:(g5_ (l5_ m.data).1).2=0:=Classical.byContradiction λz=>c2 (.inr z)
   obtain⟨s1,s2,s3,s4,s5,s6,s7⟩:=c_n h ⟨hi.1,by omega⟩ hm.from'.2
   exact⟨h.based (c:=m.index) (a:=m.index) ⟨hi.1,by omega⟩ hm.from'.2 (K6_ hc) tb2 ⟨L_e _,L_e _,s6⟩,
    RX.few.send (x:=(⟨{(x.base m.index m.prev (g5_ (l5_ m.data).1).1 (l5_ m.data).2.1).r with commit:=m.index,applied:=m.index},{(x.base m.index m.prev (g5_ (l5_ m.data).1).1 (l5_ m.data).2.1).o with restore:=true}⟩:RX)) (RX.few.tell (x:={x with r:={x.r with hard:={x.r.hard with log:=x.r.snapped m.index m.prev,conf:=(g5_ (l5_ m.data).1).1,snap:=(l5_ m.data).2.1}}}) hj _) _⟩
def RX.turned (x:RX)(m:Msg):RX:=if x.r.hard.term<m.term then (x.term m.term 0).follow 0 else x
theorem e_3 (h:x.r.fit k)(hj:x.few j)(hm:m.fit):(x.turned m).r.fit k/\(x.turned m).few (j+1)/\(x.turned m).r.hard.log=x.r.hard.log/\(x.turned m).r.hard.conf=x.r.hard.conf/\(x.turned m).r.hard.group=x.r.hard.group/\(x.turned m).r.commit=x.r.commit:=by
 unfold RX.turned
 split
 ·rename_i c
  have ht:=h.term
  refine⟨(h.setTerm (t:=m.term) (v:=0) ⟨by omega,hm.term⟩ ⟨by omega,by omega⟩).follow 0,?_,rfl,rfl,rfl,rfl⟩
  exact RX.few.tell (x:={x with r:={x.r with hard:={x.r.hard with term:=m.term,vote:=0}}}) hj _
 ·exact⟨h,hj.mono (by omega),rfl,rfl,rfl,rfl⟩
def RX.taken (y:RX)(m:Msg):RX:=
 if m.kind=1 then y.asked m else if m.kind=2 then y.voted m else if m.kind=4 then y.heard m
 else if y.r.role=2 then y else
  let z:RX:={y with r:={y.r.follow m.from_ with elapsed:=0}}
  if m.kind=3 then z.append m else z.restore m
theorem f_0 (x:RX)(m:Msg):x.step m=if ¬m.group=x.r.hard.group\/m.kind<1\/5<m.kind\/(m.kind=1/\x.r.voter m.from_=false) then x else
 if m.term<(x.turned m).r.hard.term then
  (if m.kind=1 then (x.turned m).send {Msg.zero with kind:=2,to:=m.from_} else if m.kind=3\/m.kind=5 then (x.turned m).send {Msg.zero with kind:=4,to:=m.from_} else x.turned m)
 else (x.turned m).taken m:=rfl
theorem r_x (h:x.r.fit k)(hk:k<2^28)(hj:x.few j)(hm:m.fit)(h1:1<=m.kind/\m.kind<=5):(x.taken m).r.fit (k+200)/\(x.taken m).few (j+22):=by
 unfold RX.taken
 split
 ·obtain⟨a,b⟩:=u_u h hj hm;exact⟨a.mono (by omega),b.mono (by omega)⟩
 ·split
  ·obtain⟨a,b⟩:=r_k (m:=m) h hk hj;exact⟨a.mono (by omega),b.mono (by omega)⟩
  ·split
   ·obtain⟨a,b⟩:=t_u h hj (hm.index (by omega));exact⟨a.mono (by omega),b.mono (by omega)⟩
   ·split
    ·exact⟨h.mono (by omega),hj.mono (by omega)⟩
    ·simp only
     split
     ·obtain⟨a,b⟩:=q_m (x:={x with r:={x.r.follow m.from_ with elapsed:=0}}) (h.follow m.from_).elapsed0 hj hm (hm.index (by omega));exact⟨a,b.mono (by omega)⟩
     ·obtain⟨a,b⟩:=l_h (x:={x with r:={x.r.follow m.from_ with elapsed:=0}}) (h.follow m.from_).elapsed0 hj hm (hm.index (by omega));exact⟨a.mono (by omega),b.mono (by omega)⟩
theorem step_fit (h:x.r.fit k)(hk:k<2^28)(hj:x.few j)(hm:m.fit):(x.step m).r.fit (k+200)/\(x.step m).few (j+23):=by
 rw[f_0]
 split
 ·exact⟨h.mono (by omega),hj.mono (by omega)⟩
 ·rename_i c
  obtain⟨t1,t2,-⟩:=e_3 h hj hm
  split
  ·split
   ·exact⟨t1.mono (by omega),(RX.few.send t2 _).mono (by omega)⟩
   ·split
    ·exact⟨t1.mono (by omega),(RX.few.send t2 _).mono (by omega)⟩
    ·exact⟨t1.mono (by omega),t2.mono (by omega)⟩
  ·exact r_x t1 hk t2 hm ⟨by omega,by omega⟩
theorem g_1 (h:x.r.fit k):x.ends.r.fit k/\x.ends.o.msgs=x.o.msgs/\x.ends.o.changes=x.o.changes:=by
 have f:x.r.ends.fit k:=by unfold b4_.ends;split;exact h.follow 0;exact h
 unfold RX.ends
 simp only
 split
 ·exact⟨f,rfl,rfl⟩
 ·refine⟨?_,rfl,rfl⟩
  obtain⟨g1,g2,g3,g4,g5,g6,g7,g8,g9,g10,g11,g12,g13,g14,g15⟩:=f
  exact⟨g1,g2,g3,g4,g5,g6,g7,g8,⟨Int.le_trans g9.1 g9.2.1,L_e _,g9.2.2⟩,g10,g11,g12,g13,g14,g15⟩
theorem i_e (h:x.r.fit k)(hk:k<2^28)(hj:x.few j)(ht:x.r.hard.term<2^40)(draw:Int):(x.stand draw).r.fit (k+1)/\(x.stand draw).few (j+23):=by
 have h0:=h.term
 have f:=(h.setTerm (t:=x.r.hard.term+1) (v:=x.r.id) ⟨by omega,by omega⟩ ⟨by have:=h.id;omega,by have:=h.id;omega⟩).follow 0
 obtain⟨z,hz⟩:∃z:RX,z={(x.term (x.r.hard.term+1) x.r.id).follow 0 with r:={((x.term (x.r.hard.term+1) x.r.id).follow 0).r with role:=1,elapsed:=0,timeout:=r_f draw,granted:=[((x.term (x.r.hard.term+1) x.r.id).follow 0).r.id]}}:=⟨_,rfl⟩
 have e:x.stand draw=if z.r.now.won z.r.granted then z.lead else z.sends (k_x z.r.id z.r.hard.group z.r.hard.term z.r.hard.log z.r.now):=by rw[hz];rfl
 have zf:z.r.fit k:=by
  rw[hz]
  obtain⟨g1,g2,g3,g4,g5,g6,g7,g8,g9,g10,g11,g12,g13,g14,g15⟩:=f
  exact⟨g1,g2,g3,g4,g5,g6,g7,g8,g9,⟨L_e _,by show (0:Int)<=k;omega⟩,g11,g12,by show [_].length<=k+1;simp,g14,g15⟩
 have zw:z.few (j+1):=by
  rw[hz];exact RX.few.tell (x:={x with r:={x.r with hard:={x.r.hard with term:=x.r.hard.term+1,vote:=x.r.id}}}) hj _
 rw[e]
 split
 ·exact⟨zf.lead (by omega),zw.lead zf (by omega)⟩
 ·have hl:(k_x z.r.id z.r.hard.group z.r.hard.term z.r.hard.log z.r.now).length<=21:=K_e (n_2 _ _ _ _ _) (K_e (Z7_ zf.now) (by omega))
  obtain⟨a,-,-⟩:=l_a (k_x z.r.id z.r.hard.group z.r.hard.term z.r.hard.log z.r.now) z
  exact⟨by rw[a];exact zf.mono (by omega),(zw.sends hl).mono (by omega)⟩
end
theorem q1_ (r:b4_):r.begin.few 0:=⟨J_4 _,J_4 _⟩
theorem s_x {k j:Nat}{x:RX}(h:x.r.fit k)(hj:x.few j):x.on.r.fit k/\x.on.few (j+21):=⟨by show (RX.each _ _).r.fit k;rw[(j_9 _ _).1];exact h,hj.each h.flows.1⟩
theorem b4_.tick_fit {k:Nat}{x:b4_}(h:x.fit k)(hk:k+2<2^28)(draw:Int):(x.tick draw).r.fit (k+2):=by
 unfold b4_.tick
 split
 ·refine (g_1 ?_).1
  have hb:=h.beat
  split
  ·have f:({x with beat:=0}:b4_).fit k:=by
    obtain⟨g1,g2,g3,g4,g5,g6,g7,g8,g9,g10,g11,g12,g13,g14,g15⟩:=h
    exact⟨g1,g2,g3,g4,g5,g6,g7,g8,g9,g10,⟨L_e _,by show (0:Int)<=1;omega⟩,g12,g13,g14,g15⟩
   exact (s_x (x:=({x with beat:=0}:b4_).begin) f (q1_ _)).1.mono (by omega)
  ·rename_i c
   obtain⟨g1,g2,g3,g4,g5,g6,g7,g8,g9,g10,g11,g12,g13,g14,g15⟩:=h.mono (show k<=k+2 by omega)
   exact⟨g1,g2,g3,g4,g5,g6,g7,g8,g9,g10,⟨by show 0<=x.beat+1;omega,by show x.beat+1<=1;omega⟩,g12,g13,g14,g15⟩
 ·simp only
  have f:({x with elapsed:=x.elapsed+1}:b4_).fit (k+1):=by
   have he:=h.elapsed
   obtain⟨g1,g2,g3,g4,g5,g6,g7,g8,g9,g10,g11,g12,g13,g14,g15⟩:=h.mono (M_s k)
   exact⟨g1,g2,g3,g4,g5,g6,g7,g8,g9,⟨by show 0<=x.elapsed+1;omega,by show x.elapsed+1<=((k+1:Nat):Int);omega⟩,g11,g12,g13,g14,g15⟩
  refine (g_1 ?_).1
  split
  ·rename_i c
   exact (i_e (x:=({x with elapsed:=x.elapsed+1}:b4_).begin) f (by omega) (q1_ _) c.2.2.1 draw).1
  ·exact f.mono (by omega)
theorem b4_.step_fit {k:Nat}{x:b4_}(h:x.fit k)(hk:k<2^28){m:Msg}(hm:m.fit):(x.step m).r.fit (k+200):=(g_1 (Glb.step_fit (x:=x.begin) h hk (q1_ _) hm).1).1
def DC.withRest:DC->AC->DC
 | .seq a d,r=>.seq a (d.withRest r)
 | .defer o g xs _,r=>.defer o g xs r
def DC.rest:DC->AC
 | .seq _ d=>d.rest
 | .defer _ _ _ r=>r
theorem DC.with_seq (a:AC)(d:DC)(r:AC):(DC.seq a d).withRest r=.seq a (d.withRest r):=rfl
theorem DC.with_defer (o:List AO)(g:FuncId)(xs:List Opd)(x r:AC):(DC.defer o g xs x).withRest r=.defer o g xs r:=rfl
theorem DC.rest_seq (a:AC)(d:DC):(DC.seq a d).rest=d.rest:=rfl
theorem DC.rest_defer (o:List AO)(g:FuncId)(xs:List Opd)(x:AC):(DC.defer o g xs x).rest=x:=rfl
structure y1_ (L:Nat->Nat)(h:a0_)(r:Nat)(x:b4_):Prop where
 r:∃g f,RAt L h r x g f
 lab:∀m,L m≠0->m<h.length/\(L m=1\/L m=2\/L m=6)
def m_2 (L:Nat->Nat)(h:a0_)(r:Nat)(x:RX)(v:AV)(h':a0_):Prop:=∃L' o ma ca aa,v=.agg [ma,ca,aa,.int .i64 x.o.first,.bool x.o.restore]/\(∃g f,RAt L' h' r x.r g f)/\OAt L' h' o x.o ma ca aa/\(∀m,L' m≠0->m<h'.length)/\h.length<=o /\
 (∀m,m<h.length->L' m=L m)/\Ext (λm=>wA (L m)) h h'
theorem y1_.begin {L h r x h0 o}(a:y1_ L h r x)(hx:Ext nof h h0) (ho:h0[o]?=some (some (.arr 5 [[.nils,.nils,.nils,.int .i64 0,.bool false]] false))) (hlo:h.length<=o):XAt (λm=>if m=o then 7 else L m) h0 r o x.begin:=by
 obtain⟨⟨g,f,ra⟩,lab⟩:=a
 have hl:=hx.1
 have e:∀m,m<h.length->(if m=o then 7 else L m)=L m:=λm hm=>if_neg (by omega)
 refine⟨⟨g,f,ra.keep (λm hm _=>e m hm) λm hm _=>hx.2 m hm (λy=>y)⟩,⟨.nils,.nils,.nils,ho,Own.nils 17,trivial,Own.nils 17,trivial,Own.nils 3,if_pos rfl⟩,λm hm=>?_⟩
 by_cases c:m=o
 ·rw[c];exact (J_w.1 ho).1
 ·simp only[if_neg c]at hm
  have:=(lab m hm).1;omega
theorem y1_.lt {L h r x}(a:y1_ L h r x):r<h.length:=let⟨_,_,ra⟩:=a.r;(a.lab r (by rw[ra.lr];omega)).1
theorem y1_.ge {L h r x}(a:y1_ L h r x){m:Nat}(hm:h.length<=m):L m=0:=Classical.byContradiction λz=>by have:=(a.lab m z).1;omega
theorem XTo.out {L h r x h0 o X h'}(a:y1_ L h r x)(hx:Ext nof h h0)(hlo:h.length<=o)(T:XTo wA nof (λm=>if m=o then 7 else L m) h0 r o X h'):
  ∃ma ca aa,h'[o]?=some (some (.arr 5 [[ma,ca,aa,.int .i64 X.o.first,.bool X.o.restore]] false))/\ma.scalar=true/\ca.scalar=true/\aa.scalar=true/\m_2 L h r X (.agg [ma,ca,aa,.int .i64 X.o.first,.bool X.o.restore]) h':=by
 obtain⟨L1,x1,l1,e1⟩:=T
 obtain⟨ma,ca,aa,oa⟩:=x1.o
 have hl:=hx.1
 have e:∀m,m<h.length->(if m=o then 7 else L m)=L m:=λm hm=>if_neg (by omega)
 refine⟨ma,ca,aa,oa.row,oa.m.scalar,oa.c.scalar,oa.a.scalar,L1,o,ma,ca,aa,rfl,x1.r,oa,x1.lt,hlo,λm hm=>(l1 m (by omega) (.inr (λz=>z))).trans (e m hm),?_⟩
 refine⟨by have:=e1.1;omega,λm hm hn=>(e1.2 m (by omega) ?_).trans (hx.2 m hm (λz=>z))⟩
 rintro (z | z)
 ·exact hn (by have z':wA (if m=o then 7 else L m):=z;rw[e m hm]at z';exact z')
 ·exact z
theorem O5_.begin {L h r x m a h0 o}(hm:O5_ L h m a)(ha:y1_ L h r x)(hx:Ext nof h h0)(hlo:h.length<=o):O5_ (λm=>if m=o then 7 else L m) h0 m a:=by
 obtain⟨G,hr,h0'⟩:=hm
 exact⟨λn=>G n/\n<h.length,RdL.mono (λ_ y=>y) (hx.keep _) _ _ (RdL.lt _ _ hr),λn hn=>by show (if n=o then 7 else L n)=0;rw[if_neg (by have:=hn.2;omega)];exact h0' n hn.1⟩
def m_0 (P:Program)(f:FuncId):Prop:=f2_ P f=true/\∀(L:Nat->Nat)(h:a0_)(r:Nat)(x:b4_)(k:Nat)(m:Msg)(a:List AV),y1_ L h r x->x.fit k->k+200<=2^28->O5_ L h m a->m.fit->
 a6_ P f [.ptr r 21 0 0,.agg a] h λv h'=>m_2 L h r (x.step m) v h'
theorem w_e {P:Program}{f f1 f2 f3 f4 f5 f6 f7 f8 f9 f10 f11:FuncId}(hf:IsD P f (a9_ f1 f2 f3 f4 f5 f6 f7 f8 f9 f10 f11))(u1:e_b P f1)(u2:x_5 P f2)(u3:d_1 P f3)(u4:d_3 P f4)(u5:L3_ P f5)(u6:d_4 P f6)
  (u7:h_j P f7) (u8:h_d P f8) (u9:h_i P f9) (u10:d_5 P f10) (u11:a_x P f11):m_0 P f:=by
 refine⟨hf.1,λL h r x k m a hx hfit hk hm hmf=>f_k hf.2 (J_y rfl) ?_⟩
 show dvc P (a9_ f1 f2 f3 f4 f5 f6 f7 f8 f9 f10 f11).code ⟨[(0,.ptr r 21 0 0),(1,.agg a)],[],h⟩ (a_9 P (a9_ f1 f2 f3 f4 f5 f6 f7 f8 f9 f10 f11).res _)
 obtain⟨G,hr,h0⟩:=id hm
 obtain⟨e,d,rfl,he,hd⟩:=G4_ hr
 have second:∀(o n5:Nat)(L0:Nat->Nat)(H H':a0_)(Le:Env),o=h.length+1->h.length+2<=n5->L0=(λm=>if m=o then 7 else L m)->Ext nof h H->XAt L0 H r o x.begin->O5_ L0 H m (m.cells e d)->
   H[h.length]?=some (some (a5_.arr 17 [m.cells e d] false))->H[n5]?=some (some (a5_.arr 2 [[.ptr r 21 0 0,.ptr o 5 0 0]] false))->lk 0 Le=.ptr r 21 0 0->lk 3 Le=.ptr h.length 17 0 0->lk 4 Le=.ptr o 5 0 0->lk 5 Le=.ptr n5 2 0 0->
   ¬(¬m.group=x.begin.r.hard.group\/m.kind<1\/5<m.kind\/(m.kind=1/\x.begin.r.voter m.from_=false))->XTo wA nof L0 H r o (x.begin.turned m) H'->
   vc P (a9_ f1 f2 f3 f4 f5 f6 f7 f8 f9 f10 f11).code.rest.tl.tl ⟨Le,[],H'⟩ (a_9 P (a9_ f1 f2 f3 f4 f5 f6 f7 f8 f9 f10 f11).res (λv h'=>m_2 L h r (x.step m) v h') f2 [.agg [.ptr r 21 0 0,.ptr o 5 0 0]]):=by
  intro o n5 L0 H H' Le ho n5l hL0 X hx0 hm0 B0 B5 k0 k3 k4 k5 hgo T
  have zL:∀n,h.length<=n->n≠o->¬wA (L0 n):=λn hn hno=>by rw[hL0];show ¬wA (if n=o then 7 else L n);rw[if_neg hno,hx.ge hn];exact wA0
  have fin:∀(Le:Env)(H':a0_)(y:RX),x.begin.step m=y->lk 4 Le=.ptr o 5 0 0->XTo wA nof L0 H r o y H'->
    p_8 P f2 [.agg [.ptr r 21 0 0,.ptr o 5 0 0]] H' (B_z (a9_ f1 f2 f3 f4 f5 f6 f7 f8 f9 f10 f11).res Le λv h'=>m_2 L h r (x.step m) v h'):=by
   intro Le H' y ey k4 T
   have yf:=(step_fit (x:=x.begin) (m:=m) hfit (by omega) (q1_ _) hmf).1
   rw[ey]at yf
   obtain⟨L1,x1,l1,e1⟩:=T
   refine d_u ⟨u2.1,u2.2 L1 H' r o y (k+200) x1 yf (by omega)⟩ ?_
   intro _ h'' T2
   have T3:=XTo.trans1 l1 e1 (λ_ _ y=>y) T2
   have es:x.step m=y.ends:=by show (x.begin.step m).ends=_;rw[ey]
   rw[hL0]at T3
   obtain⟨ma,ca,aa,row,s1,s2,s3,out⟩:=T3.out hx X (by omega)
   rw[es]
   simp only[a9_,go_sem,reduceAdd,reduceLeDiff,k4,row]
   exact out
  obtain⟨t1,t2,t3,t4,t5,t6⟩:=e_3 (x:=x.begin) (m:=m) hfit (q1_ _) hmf
  have est:x.begin.step m=if m.term<(x.begin.turned m).r.hard.term then
    (if m.kind=1 then (x.begin.turned m).send {Msg.zero with kind:=2,to:=m.from_} else if m.kind=3\/m.kind=5 then (x.begin.turned m).send {Msg.zero with kind:=4,to:=m.from_} else x.begin.turned m)
   else (x.begin.turned m).taken m:=by rw[f_0,if_neg hgo]
  have k15:1<=m.kind/\m.kind<=5:=by
   constructor
   ·exact Classical.byContradiction λz=>hgo (.inr (.inl (by omega)))
   ·exact Classical.byContradiction λz=>hgo (.inr (.inr (.inl (by omega))))
  have fin':=fin
  simp only[a9_]at fin'
  clear fin
  generalize x.begin.turned m=y at *
  have D0:=T.keep (zL _ (J_4 _) (by omega)) (λz=>z) B0
  have D5:=T.keep (zL _ (by omega) (by omega)) (λz=>z) B5
  obtain⟨g,ff,rr⟩:=T.rowR
  have rr':=rr
  simp only[b4_.row]at rr'
  simp only[Msg.cells]at D0
  have snd6:∀(kd:Int),a6_ P f6 [.agg [.ptr r 21 0 0,.ptr o 5 0 0],.agg (({Msg.zero with kind:=kd,to:=m.from_}:Msg).cells .nils .nils)] H' λ_ h''=>XTo wA nof L0 H r o (y.send {Msg.zero with kind:=kd,to:=m.from_}) h'':=λkd=>
   XTo.callM (Q':=nof) T (Ext.refl _ _) (λ_ _ y=>y) λL1 x1=>(u6.2 nof L1 H' r o y {Msg.zero with kind:=kd,to:=m.from_} .nils .nils x1 (Own.nils 3) (Own.nils 1) (λ_ z=>z.elim) (m_m t2.1 (by omega) 168 (by omega))).mono λ_ _ b=>b.weakW Z6_
  have s2:=snd6 2
  have s4:=snd6 4
  simp only[Msg.cells,Msg.zero]at s2 s4
  have lr:=(J_w.1 rr).1
  simp only[a9_,DC.rest_seq,DC.rest_defer,AC.tl_seq,go_sem,reduceEqDiff,reduceAdd,k0,k3,D0,rr']
  have use:∀{g:FuncId}{y':RX}{Le:Env}{H2:a0_}(_:f2_ P g=true),True:=λ_=>trivial
  by_cases c1:m.term<y.r.hard.term
  ·rw[if_pos c1]at est
   simp only[go_sem,reduceEqDiff,k3,D0,decide_eq_true c1]
   by_cases c2:m.kind=1
   ·rw[if_pos c2]at est
    simp only[go_sem,reduceEqDiff,reduceAdd,reduceLeDiff,k3,k5,D0,D5,decide_eq_true c2]
    refine a1_ ⟨u6.1,s2⟩ ?_
    intro _ H2 T2
    simp only[go_sem]
    exact fin' _ H2 _ est (by simp[a3_,k4]) T2
   ·rw[if_neg c2]at est
    simp only[go_sem,reduceEqDiff,decide_eq_false c2]
    by_cases c3:m.kind=3
    ·rw[if_pos (.inl c3)]at est
     simp only[go_sem,reduceEqDiff,reduceAdd,reduceLeDiff,k3,k5,D0,D5,decide_eq_true c3]
     refine a1_ ⟨u6.1,s4⟩ ?_
     intro _ H2 T2
     simp only[go_sem]
     exact fin' _ H2 _ est (by simp[a3_,k4]) T2
    ·simp only[go_sem,reduceEqDiff,decide_eq_false c3]
     by_cases c4:m.kind=5
     ·rw[if_pos (.inr c4)]at est
      simp only[go_sem,reduceEqDiff,reduceAdd,reduceLeDiff,k3,k5,D0,D5,decide_eq_true c4]
      refine a1_ ⟨u6.1,s4⟩ ?_
      intro _ H2 T2
      simp only[go_sem]
      exact fin' _ H2 _ est (by simp[a3_,k4]) T2
     ·rw[if_neg (by rintro (z | z);exact c3 z;exact c4 z)]at est
      simp only[go_sem,decide_eq_false c4]
      exact fin' _ H' _ est (by simp[a3_,k4]) T
  ·rw[if_neg c1]at est
   have et:y.taken m=if m.kind=1 then y.asked m else if m.kind=2 then y.voted m else if m.kind=4 then y.heard m
    else if y.r.role=2 then y else
     let z:RX:={y with r:={y.r.follow m.from_ with elapsed:=0}}
     if m.kind=3 then z.append m else z.restore m:=rfl
   rw[et]at est
   simp only[go_sem,reduceEqDiff,k3,D0,decide_eq_false c1]
   have q7:=XTo.callK T hm0 wA0 λL1 x1 m1=>u7.2 L1 H' r o y k 1 m _ x1 t1 (by omega) t2 (by omega) m1
   have q8:=XTo.callK T hm0 wA0 λL1 x1 m1=>u8.2 L1 H' r o y k 1 m _ x1 t1 (by omega) t2 (by omega) m1
   simp only[Msg.cells]at q7 q8
   by_cases c2:m.kind=1
   ·rw[if_pos c2]at est
    simp only[go_sem,reduceEqDiff,reduceAdd,reduceLeDiff,k3,k5,D0,D5,decide_eq_true c2]
    refine a1_ ⟨u7.1,q7⟩ ?_
    intro _ H2 T2
    simp only[go_sem]
    exact fin' _ H2 _ est (by simp[a3_,k4]) T2
   ·rw[if_neg c2]at est
    simp only[go_sem,reduceEqDiff,decide_eq_false c2]
    by_cases c3:m.kind=2
    ·rw[if_pos c3]at est
     simp only[go_sem,reduceEqDiff,reduceAdd,reduceLeDiff,k3,k5,D0,D5,decide_eq_true c3]
     refine a1_ ⟨u8.1,q8⟩ ?_
     intro _ H2 T2
     simp only[go_sem]
     exact fin' _ H2 _ est (by simp[a3_,k4]) T2
    ·rw[if_neg c3]at est
     simp only[go_sem,reduceEqDiff,decide_eq_false c3]
     have hmi:=hmf.index (by omega)
     by_cases c4:m.kind=4
     ·rw[if_pos c4]at est
      simp only[go_sem,reduceEqDiff,reduceAdd,reduceLeDiff,k3,k5,D0,D5,decide_eq_true c4]
      have q9:=XTo.callK T hm0 wA0 λL1 x1 m1=>u9.2 L1 H' r o y k 1 m _ x1 t1 (by omega) t2 (by omega) m1 hmi
      simp only[Msg.cells]at q9
      refine a1_ ⟨u9.1,q9⟩ ?_
      intro _ H2 T2
      simp only[go_sem]
      exact fin' _ H2 _ est (by simp[a3_,k4]) T2
     ·rw[if_neg c4]at est
      simp only[go_sem,reduceEqDiff,reduceAdd,k0,rr',decide_eq_false c4]
      by_cases c5:y.r.role=2
      ·rw[if_pos c5]at est
       simp only[go_sem,decide_eq_true c5]
       exact fin' _ H' _ est (by simp[a3_,k4]) T
      ·rw[if_neg c5]at est
       simp only[go_sem,reduceEqDiff,reduceAdd,k0,k3,D0,decide_eq_false c5]
       have fl:=XTo.callM (Q':=nof) T (Ext.refl _ _) (λ_ _ y=>y) λL1 x1=>u5.2 L1 H' r o y m.from_ x1
       refine a1_ ⟨u5.1,fl⟩ ?_
       intro _ H2 T2
       have ef:y.follow m.from_=⟨y.r.follow m.from_,y.o⟩:=rfl
       rw[ef]at T2
       have E0:=T2.keep (zL _ (J_4 _) (by omega)) (λz=>z) B0
       have E5:=T2.keep (zL _ (by omega) (by omega)) (λz=>z) B5
       simp only[Msg.cells]at E0
       have hlr:=hx.lt
       have w0:(r=h.length)=False:=eq_false (by omega)
       have w5:(r=n5)=False:=eq_false (by omega)
       obtain⟨g2,ff2,r2⟩:=T2.rowR
       have lr2:=(J_w.1 r2).1
       have T3:=XTo.setR (R:=y.r.follow m.from_) (out:=y.o) (R':={y.r.follow m.from_ with elapsed:=0}) T2 r2 rfl rfl (λ_ z=>z)
       have r2':=r2
       simp only[b4_.row]at r2' T3
       simp only[go_sem,reduceEqDiff,reduceAdd,reduceLeDiff,k0,k3,r2',lr2,w0,E0]
       generalize hH3:H2.set r _=H3 at *
       have M0:=T3.keep (zL _ (J_4 _) (by omega)) (λz=>z) B0
       have M5:=T3.keep (zL _ (by omega) (by omega)) (λz=>z) B5
       simp only[Msg.cells]at M0
       have zf:({y.r.follow m.from_ with elapsed:=0}:b4_).fit k:=(t1.follow m.from_).elapsed0
       have zw:(⟨{y.r.follow m.from_ with elapsed:=0},y.o⟩:RX).few 1:=t2
       by_cases c6:m.kind=3
       ·have est:x.begin.step m=RX.append ⟨{y.r.follow m.from_ with elapsed:=0},y.o⟩ m:=by rw[est];exact if_pos c6
        simp only[go_sem,reduceEqDiff,reduceAdd,reduceLeDiff,k3,k5,M0,M5,decide_eq_true c6]
        have q10:=XTo.callK T3 hm0 wA0 λL1 x1 m1=>u10.2 L1 H3 r o _ k 1 m _ x1 zf (by omega) zw (by omega) m1 hmf hmi
        simp only[Msg.cells]at q10
        refine a1_ ⟨u10.1,q10⟩ ?_
        intro _ H4 T4
        simp only[go_sem]
        exact fin' _ H4 _ est (by simp[a3_,k4]) T4
       ·have est:x.begin.step m=RX.restore ⟨{y.r.follow m.from_ with elapsed:=0},y.o⟩ m:=by rw[est];exact if_neg c6
        simp only[go_sem,reduceEqDiff,reduceAdd,reduceLeDiff,k3,k5,M0,M5,decide_eq_false c6]
        have q11:=XTo.callK T3 hm0 wA0 λL1 x1 m1=>u11.2 L1 H3 r o _ k 1 m _ x1 zf (by omega) zw (by omega) m1 hmf hmi
        simp only[Msg.cells]at q11
        refine a1_ ⟨u11.1,q11⟩ ?_
        intro _ H4 T4
        simp only[go_sem]
        exact fin' _ H4 _ est (by simp[a3_,k4]) T4
 have third:∀(o n5:Nat)(L0:Nat->Nat)(H:a0_)(Le:Env),o=h.length+1->h.length+2<=n5->L0=(λm=>if m=o then 7 else L m)->Ext nof h H->XAt L0 H r o x.begin->O5_ L0 H m (m.cells e d)->
   H[h.length]?=some (some (a5_.arr 17 [m.cells e d] false))->H[n5]?=some (some (a5_.arr 2 [[.ptr r 21 0 0,.ptr o 5 0 0]] false))->lk 0 Le=.ptr r 21 0 0->lk 3 Le=.ptr h.length 17 0 0->lk 4 Le=.ptr o 5 0 0->lk 5 Le=.ptr n5 2 0 0->
   ¬(¬m.group=x.hard.group\/m.kind<1\/5<m.kind\/(m.kind=1/\x.voter m.from_=false))->
   vc P (a9_ f1 f2 f3 f4 f5 f6 f7 f8 f9 f10 f11).code.rest.tl ⟨Le,[],H⟩ (a_9 P (a9_ f1 f2 f3 f4 f5 f6 f7 f8 f9 f10 f11).res (λv h'=>m_2 L h r (x.step m) v h') f2 [.agg [.ptr r 21 0 0,.ptr o 5 0 0]]):=by
  intro o n5 L0 H Le ho n5l hL0 X hx0 hm0 B0 B5 k0 k3 k4 k5 hgo
  have e3:(a9_ f1 f2 f3 f4 f5 f6 f7 f8 f9 f10 f11).code.rest.tl=.seq (a9_ f1 f2 f3 f4 f5 f6 f7 f8 f9 f10 f11).code.rest.tl.hd (a9_ f1 f2 f3 f4 f5 f6 f7 f8 f9 f10 f11).code.rest.tl.tl:=rfl
  rw[e3]
  generalize (a9_ f1 f2 f3 f4 f5 f6 f7 f8 f9 f10 f11).code.rest.tl.tl=D at second ⊢
  have snd:=second
  simp only[a9_]at snd
  obtain⟨g,ff,rr⟩:=hx0.rowR
  have rr':=rr
  have B0':=B0
  simp only[b4_.row]at rr'
  simp only[Msg.cells]at B0'
  have e1:x.begin.r=x:=rfl
  simp only[a9_,DC.rest_seq,DC.rest_defer,AC.hd_seq,AC.tl_seq,go_sem,reduceEqDiff,reduceAdd,k0,k3,B0',rr']
  by_cases c:x.hard.term<m.term
  ·have et:x.begin.turned m=(x.begin.term m.term 0).follow 0:=if_pos c
   rw[et]at snd
   simp only[go_sem,reduceEqDiff,reduceAdd,reduceLeDiff,k3,k5,B0',B5,e1,decide_eq_true c]
   have tm:=u4.2 L0 H r o x.begin m.term 0 hx0 (by show (0+1)*216<=2^46;decide)
   refine a1_ ⟨u4.1,tm⟩ ?_
   intro _ H4 T4
   simp only[go_sem,reduceEqDiff,k0]
   have fl:=XTo.callM (Q':=nof) T4 (Ext.refl _ _) (λ_ _ y=>y) λL1 x1=>u5.2 L1 H4 r o _ 0 x1
   refine a1_ ⟨u5.1,fl⟩ ?_
   intro _ H5 T5
   simp only[go_sem]
   refine snd o n5 L0 H H5 _ ho n5l hL0 X hx0 hm0 B0 B5 ?_ ?_ ?_ ?_ hgo T5<;>simp[a3_,k0,k3,k4,k5]
  ·have et:x.begin.turned m=x.begin:=if_neg c
   rw[et]at snd
   simp only[go_sem,e1,decide_eq_false c]
   refine snd o n5 L0 H H _ ho n5l hL0 X hx0 hm0 B0 B5 ?_ ?_ ?_ ?_ hgo hx0.to<;>simp[a3_,k0,k3,k4,k5]
 have e0:(a9_ f1 f2 f3 f4 f5 f6 f7 f8 f9 f10 f11).code=(a9_ f1 f2 f3 f4 f5 f6 f7 f8 f9 f10 f11).code.withRest (.seq (a9_ f1 f2 f3 f4 f5 f6 f7 f8 f9 f10 f11).code.rest.hd (a9_ f1 f2 f3 f4 f5 f6 f7 f8 f9 f10 f11).code.rest.tl):=rfl
 rw[e0]
 clear second
 generalize (a9_ f1 f2 f3 f4 f5 f6 f7 f8 f9 f10 f11).code.rest.tl=D at third ⊢
 simp only[a9_,DC.with_seq,DC.with_defer,DC.rest_seq,DC.rest_defer,AC.hd_seq,go_sem,reduceEqDiff,reduceAdd,Msg.cells,he.scalar,hd.scalar]
 obtain⟨H2,hH2⟩:∃H2,H2=h++[some (a5_.arr 17 [m.cells e d] false)]++[some (a5_.arr 5 [[.nils,.nils,.nils,.int .i64 0,.bool false]] false)]:=⟨_,rfl⟩
 have X2:Ext nof h H2:=by rw[hH2];exact Ext.b2 _ _
 have l2:H2.length=h.length+2:=by rw[hH2];simp
 have C0:H2[h.length]?=some (some (a5_.arr 17 [m.cells e d] false)):=by rw[hH2];exact b_z _ _ _
 have C1:H2[h.length+1]?=some (some (a5_.arr 5 [[.nils,.nils,.nils,.int .i64 0,.bool false]] false)):=by rw[hH2];exact O1_ _ _ _
 simp only[Msg.cells]at hH2
 rw[<-hH2]
 clear hH2
 refine a1_ ⟨u1.1,u1.2 H2 r (h.length+1)⟩ ?_
 rintro _ H3 ⟨rfl,X3⟩
 simp only[go_sem,reduceEqDiff,reduceAdd,reduceLeDiff]
 obtain⟨H,hH⟩:∃H,H=H3++[some (a5_.arr 2 [[.ptr r 21 0 0,.ptr (h.length+1) 5 0 0]] false)]:=⟨_,rfl⟩
 obtain⟨n5,hn5⟩:∃n5,n5=H3.length:=⟨_,rfl⟩
 have l3:=X3.1
 have X:Ext nof h H:=by rw[hH];exact (X2.tr X3).tr (Ext.b1 _)
 have B0:H[h.length]?=some (some (a5_.arr 17 [m.cells e d] false)):=by rw[hH];exact (Ext.b1 _).get (X3.get C0)
 have B1:H[h.length+1]?=some (some (a5_.arr 5 [[.nils,.nils,.nils,.int .i64 0,.bool false]] false)):=by rw[hH];exact (Ext.b1 _).get (X3.get C1)
 have B5:H[n5]?=some (some (a5_.arr 2 [[.ptr r 21 0 0,.ptr (h.length+1) 5 0 0]] false)):=by rw[hH,hn5];exact x3_ _ _
 have n5l:h.length+2<=n5:=by omega
 rw[<-hH,<-hn5]
 clear hH
 have hx0:=hx.begin X B1 (by omega)
 have hm0:=hm.begin hx X (show h.length<=h.length+1 by omega)
 obtain⟨o,ho⟩:∃o,o=h.length+1:=⟨_,rfl⟩
 obtain⟨L0,hL0⟩:∃L0:Nat->Nat,L0=λm=>if m=o then 7 else L m:=⟨_,rfl⟩
 rw[<-ho]at B1 B5 hx0 hm0 ⊢
 rw[<-hL0]at hx0 hm0
 have zL:∀n,h.length<=n->n≠o->¬wA (L0 n):=λn hn hno=>by rw[hL0];show ¬wA (if n=o then 7 else L n);rw[if_neg hno,hx.ge hn];exact wA0
 have fin:∀(Le:Env)(H':a0_)(y:RX),x.begin.step m=y->lk 4 Le=.ptr o 5 0 0->XTo wA nof L0 H r o y H'->
   p_8 P f2 [.agg [.ptr r 21 0 0,.ptr o 5 0 0]] H' (B_z (a9_ f1 f2 f3 f4 f5 f6 f7 f8 f9 f10 f11).res Le λv h'=>m_2 L h r (x.step m) v h'):=by
  intro Le H' y ey k4 T
  have yf:=(step_fit (x:=x.begin) (m:=m) hfit (by omega) (q1_ _) hmf).1
  rw[ey]at yf
  obtain⟨L1,x1,l1,e1⟩:=T
  refine d_u ⟨u2.1,u2.2 L1 H' r o y (k+200) x1 yf (by omega)⟩ ?_
  intro _ h'' T2
  have T3:=XTo.trans1 l1 e1 (λ_ _ y=>y) T2
  have es:x.step m=y.ends:=by show (x.begin.step m).ends=_;rw[ey]
  rw[hL0]at T3
  obtain⟨ma,ca,aa,row,s1,s2,s3,out⟩:=T3.out hx X (by omega)
  rw[es]
  simp only[a9_,go_sem,reduceAdd,reduceLeDiff,k4,row]
  exact out
 have fin':=fin
 have thd:=third
 simp only[a9_]at fin' thd
 clear fin third
 obtain⟨g,ff,rr⟩:=hx0.rowR
 have rr':=rr
 have B0':=B0
 simp only[b4_.row]at rr'
 simp only[Msg.cells]at B0'
 have e1:x.begin.r=x:=rfl
 have stop:(¬m.group=x.hard.group\/m.kind<1\/5<m.kind\/(m.kind=1/\x.voter m.from_=false))->x.begin.step m=x.begin:=λc=>by rw[f_0];exact if_pos c
 simp only[go_sem,reduceEqDiff,reduceAdd,B0',rr',e1]
 by_cases c1:m.group=x.hard.group
 ·simp only[go_sem,reduceEqDiff,B0',decide_eq_true c1,K_l]
  by_cases c2:m.kind<1
  ·simp only[go_sem,reduceEqDiff,decide_eq_true c2]
   exact fin' _ H x.begin (stop (.inr (.inl c2))) (by simp[a3_]) hx0.to
  ·simp only[go_sem,reduceEqDiff,B0',decide_eq_false c2]
   by_cases c3:5<m.kind
   ·simp only[go_sem,reduceEqDiff,decide_eq_true c3]
    exact fin' _ H x.begin (stop (.inr (.inr (.inl c3)))) (by simp[a3_]) hx0.to
   ·simp only[go_sem,reduceEqDiff,B0',decide_eq_false c3]
    by_cases c4:m.kind=1
    ·simp only[go_sem,reduceEqDiff,reduceAdd,B0',decide_eq_true c4]
     refine j4_ u3.1 (u3.2 H r x m.from_ ⟨g,ff,rr⟩ (hfit.ofR (by omega)) (hfit.nowFew (by decide))) ?_
     rw[d9_]
     cases c5:x.voter m.from_
     ·simp only[go_sem,reduceEqDiff,reducePow,reduceDiv,reduceMod,decide_true,B0',rr',e1,K_u]
      exact fin' _ H x.begin (stop (.inr (.inr (.inr ⟨c4,c5⟩)))) (by simp[a3_]) hx0.to
     ·simp only[go_sem,reduceEqDiff,reducePow,reduceDiv,reduceMod,decide_true,B0',rr',e1,K_l]
      refine thd o n5 L0 H _ ho n5l hL0 X hx0 hm0 B0 B5 ?_ ?_ ?_ ?_ (by rintro (z | z | z | z);exact z c1;exact c2 z;exact c3 z;rw[c5]at z;cases z.2)<;>simp[a3_,c9_]
    ·simp only[go_sem,reduceEqDiff,decide_eq_false c4]
     refine thd o n5 L0 H _ ho n5l hL0 X hx0 hm0 B0 B5 ?_ ?_ ?_ ?_ (by rintro (z | z | z | z);exact z c1;exact c2 z;exact c3 z;exact c4 z.1)<;>simp[a3_,c9_]
 ·simp only[go_sem,reduceEqDiff,decide_eq_false c1,K_u]
  exact fin' _ H x.begin (stop (.inl c1)) (by simp[a3_]) hx0.to
end Glb
