/-
  A library of its own.
-/
import Derived.Test.YtdeiamnhnfmilaaGreatGlbRafB
set_option linter.unusedSimpArgs false
set_option linter.unusedVariables false
set_option maxRecDepth 10000
set_option maxHeartbeats 8000000
open Nat (reduceAdd reduceDiv reduceEqDiff reduceLeDiff reduceMod reducePow)
namespace Glb
open Go
def AC.hd:AC->AC
 | .seq a _=>a
 | x=>x
def AC.tl:AC->AC
 | .seq _ b=>b
 | x=>x
theorem AC.hd_seq (a b:AC):(AC.seq a b).hd=a:=rfl
theorem AC.tl_seq (a b:AC):(AC.seq a b).tl=b:=rfl
theorem XTo.setO {W Q L h r o R out h' ma ca aa}{n:Int}{b:Bool}(T:XTo W Q L h r o ⟨R,out⟩ h') (row:h'[o]?=some (some (.arr 5 [[ma,ca,aa,.int .i64 out.first,.bool out.restore]] false))) (hW:∀k,k≠0->W k):
  XTo W Q L h r o ⟨R,{out with first:=n,restore:=b}⟩ (h'.set o (some (.arr 5 [[ma,ca,aa,.int .i64 n,.bool b]] false))):=by
 obtain⟨L1,x1,l1,e1'⟩:=T
 obtain⟨g1,f1,ra⟩:=x1.r
 obtain⟨ma',ca',aa',oa⟩:=x1.o
 have:=oa.row.symm.trans row
 simp only[Option.some.injEq,a5_.arr.injEq,List.cons.injEq]at this
 obtain⟨-,⟨⟨rfl,rfl,rfl,-⟩,-⟩,-⟩:=this
 have lo:=(J_w.1 oa.row).1
 have ne:∀m,L1 m≠7->(h'.set o (some (.arr 5 [[ma',ca',aa',.int .i64 n,.bool b]] false)))[m]?=h'[m]?:=λm hm=>J_x (by rintro rfl;exact hm oa.lo)
 refine XTo.trans1 l1 e1' (λ_ _ y=>y) ⟨L1,⟨⟨g1,f1,ra.keep (λ_ _ _=>rfl) λm hm y=>ne m (by omega)⟩,⟨ma',ca',aa',J_0 lo,?_,?_,?_,?_,?_,oa.lo⟩,λm hm=>by rw[J_2];exact x1.lt m hm⟩,λ_ _ _=>rfl,Ext.set _ λ_=>.inl (hW _ (by rw[oa.lo];omega))⟩
 ·exact Own.mono _ (λ_ y=>y) (λm hm y hy=>(ne m (by omega)).trans hy) _ oa.m
 ·exact oa.mc.keep oa.m (λm hm y hy=>(ne m (by omega)).trans hy)
 ·exact Own.mono _ (λ_ y=>y) (λm hm y hy=>(ne m (by omega)).trans hy) _ oa.c
 ·exact oa.cc.keep oa.c (λm hm y hy=>(ne m (by omega)).trans hy)
 ·exact Own.mono _ (λ_ y=>y) (λm hm y hy=>(ne m (by omega)).trans hy) _ oa.a
theorem XTo.setA {W Q L h r o R out h' h3 ma ca aa e}{l:List e0_}(T:XTo W Q L h r o ⟨R,out⟩ h')(X:Ext nof h' h3) (row:h'[o]?=some (some (.arr 5 [[ma,ca,aa,.int .i64 out.first,.bool out.restore]] false))) (he:Own (b7_ l) (λm=>h'.length<=m) h3 e) (hW:∀k,k≠0->W k):
  XTo W Q L h r o ⟨R,{out with apply:=l}⟩ (h3.set o (some (.arr 5 [[ma,ca,e,.int .i64 out.first,.bool out.restore]] false))):=by
 obtain⟨L1,x1,l1,e1'⟩:=T
 obtain⟨g1,f1,ra⟩:=x1.r
 obtain⟨ma',ca',aa',oa⟩:=x1.o
 have:=oa.row.symm.trans row
 simp only[Option.some.injEq,a5_.arr.injEq,List.cons.injEq]at this
 obtain⟨-,⟨⟨rfl,rfl,rfl,-⟩,-⟩,-⟩:=this
 have lo:=(J_w.1 oa.row).1
 have hl:=X.1
 have st:∀m,m<h'.length->L1 m≠7->(h3.set o (some (.arr 5 [[ma',ca',e,.int .i64 out.first,.bool out.restore]] false)))[m]?=h'[m]?:=λm hm h7=>(J_x (by rintro rfl;exact h7 oa.lo)).trans (X.2 m hm (λy=>y))
 have old:∀{m},m<h'.length->relab L1 nof h'.length h3.length 5 m=L1 m:=fun {m} hm=>j5_ (.inr ⟨λy=>y,hm⟩)
 refine XTo.trans1 l1 e1' (λ_ _ y=>y) ⟨relab L1 nof h'.length h3.length 5,⟨⟨g1,f1,ra.keep (λm hm _=>old hm) λm hm y=>st m hm (by omega)⟩,⟨ma',ca',e,J_0 (by omega),?_,?_,?_,?_,?_,(old lo).trans oa.lo⟩,λm hm=>by rw[J_2];exact P4_ (λz=>by have:=x1.lt m z;omega) hm⟩,λm hm _=>old hm,?_⟩
 ·exact Own.mono _ (λm hm=>(old hm.2).trans hm.1) (λm hm y hy=>(st m hm.2 (by omega)).trans hy) _ (Own.lt _ _ oa.m)
 ·exact oa.mc.keep (Own.lt _ _ oa.m) (λm hm y hy=>(st m hm.2 (by omega)).trans hy)
 ·exact Own.mono _ (λm hm=>(old hm.2).trans hm.1) (λm hm y hy=>(st m hm.2 (by omega)).trans hy) _ (Own.lt _ _ oa.c)
 ·exact oa.cc.keep (Own.lt _ _ oa.c) (λm hm y hy=>(st m hm.2 (by omega)).trans hy)
 ·exact Own.mono _ (λm hm=>H6_ (x1.ge hm.1) hm.2 (.inr hm.1)) (λm hm y hy=>(J_x (by omega)).trans hy) _ (Own.lt _ _ he)
 ·exact X.trans (Ext.set (F:=λm=>m=o) _ (λ_=>rfl)) (F'':=λm=>W (L1 m)\/Q m) (λ_ _ y=>y.elim) (λm _ y=>.inl (by rw[y];exact hW _ (by rw[oa.lo];omega)))
theorem XTo.rowO {W Q L h r o x h'}(T:XTo W Q L h r o x h'):∃ma ca aa,h'[o]?=some (some (.arr 5 [[ma,ca,aa,.int .i64 x.o.first,.bool x.o.restore]] false))/\ma.scalar=true/\ca.scalar=true/\aa.scalar=true:=by
 obtain⟨_,x1,_⟩:=T
 obtain⟨ma,ca,aa,oa⟩:=x1.o
 exact⟨ma,ca,aa,oa.row,oa.m.scalar,oa.c.scalar,oa.a.scalar⟩
theorem XAt.apart {L h r o x}(a:XAt L h r o x):r<h.length/\o<h.length/\r≠o:=by
 obtain⟨⟨g,f,ra⟩,⟨ma,ca,aa,oa⟩,lt⟩:=a
 exact⟨lt r (by rw[ra.lr];omega),lt o (by rw[oa.lo];omega),λe=>by have:=ra.lr;have:=oa.lo;rw[e]at *;omega⟩
def v_c (P:Program)(f:FuncId):Prop:=f2_ P f=true/\∀(L:Nat->Nat)(h:a0_)(r o:Nat)(x:RX)(k:Nat),XAt L h r o x->x.r.fit k->k<=2^28->
 a6_ P f [.agg [.ptr r 21 0 0,.ptr o 5 0 0]] h λ_ h'=>XTo wA nof L h r o x.ends h'
def x_5 (P:Program)(f:FuncId):Prop:=f2_ P f=true/\∀(L:Nat->Nat)(h:a0_)(r o:Nat)(x:RX)(k:Nat),XAt L h r o x->x.r.fit k->k<=2^28->
 b_f P f [.agg [.ptr r 21 0 0,.ptr o 5 0 0]] h λ_ h'=>XTo wA nof L h r o x.ends h'
theorem s_d {P:Program}{f1 f2 f3 f4 f5:FuncId}(u1:OfP P f1)(u2:R5_ P f2 e3_.voters)(u3:d_7 P f3)(u4:L3_ P f4)(u5:L0_ P f5)(L:Nat->Nat)(h:a0_)(r o:Nat)(x:RX)(k:Nat)(hx:XAt L h r o x)(hfit:x.r.fit k)(hk:k<=2^28):
  vc P (c4_ f1 f2 f3 f4 f5).code ⟨[(0,.agg [.ptr r 21 0 0,.ptr o 5 0 0])],[],h⟩ (b2_ (c4_ f1 f2 f3 f4 f5).res λ_ h'=>XTo wA nof L h r o x.ends h'):=by
 obtain⟨R,out⟩:=x
 simp only at hfit
 have lt:=hx.lt
 have hbase:=hfit.base
 have hlast:=hfit.last
 have hat:=hfit.at'
 have second:∀(Le:Env)(H0 H:a0_)(R1:b4_),R.ends=R1->R1.fit k->lk 1 Le=.ptr h.length 2 0 0->Ext nof h H0->H0[h.length]?=some (some (.arr 2 [[.ptr r 21 0 0,.ptr o 5 0 0]] false))->XTo wA nof L H0 r o ⟨R1,out⟩ H->
   vc P (c4_ f1 f2 f3 f4 f5).code.tl.tl.tl ⟨Le,[],H⟩ (b2_ (c4_ f1 f2 f3 f4 f5).res λ_ h'=>XTo wA nof L h r o (RX.ends ⟨R,out⟩) h'):=by
  intro Le H0 H R1 e1 fit1 k1 X0 C0 T
  have hlast:=fit1.last
  have hbase:=fit1.base
  have hat:=fit1.at'
  have z2:∀m,h.length<=m->¬wA (L m):=λm e=>by rw[hx.ge e];exact wA0
  have b0:=T.keep (z2 _ (J_4 _)) (λy=>y) C0
  obtain⟨g,ff,r0⟩:=T.rowR
  obtain⟨ma,ca,aa,o0,sma,sca,saa⟩:=T.rowO
  have r0':=r0
  simp only[b4_.row]at r0'
  have lo:=(J_w.1 o0).1
  have lr:=(J_w.1 r0).1
  have eE:RX.ends ⟨R,out⟩=if R1.commit<=R1.applied then ⟨R1,out⟩ else ⟨{R1 with applied:=R1.commit},{out with first:=R1.applied+1,apply:=R1.hard.log.slice (R1.applied+1) (R1.commit-R1.applied)}⟩:=by
   unfold RX.ends;simp only[e1]
  rw[eE]
  simp only[c4_,AC.tl_seq,go_sem,reduceEqDiff,reduceAdd,k1,b0,r0']
  by_cases c:R1.commit<=R1.applied
  ·simp only[go_sem,decide_eq_true c]
   rw[if_pos c]
   exact XTo.from X0 T
  ·have ew:IntKind.i64.wrap (R1.applied+1)=R1.applied+1:=a7_ (by omega)
   have ew2:IntKind.i64.wrap (R1.commit-R1.applied)=R1.commit-R1.applied:=a7_ (by omega)
   rw[if_neg c]
   obtain⟨ap1,ap2,ap3⟩:=hx.apart
   have q1:(o=h.length)=False:=eq_false (by omega)
   have q2:(o=r)=False:=eq_false (by omega)
   have q3:(r=o)=False:=eq_false (by omega)
   have q4:(r=h.length)=False:=eq_false (by omega)
   simp only[go_sem,reduceEqDiff,reduceAdd,reduceLeDiff,reducePow,reduceDiv,reduceMod,decide_true,decide_eq_false c,k1,b0,r0',o0,ew,ew2,q1,q2,lo]
   have T1:=XTo.setO (n:=R1.applied+1) (b:=out.restore) T o0 (λ_ z=>z)
   generalize hH3:H.set o _=H3 at *
   have r3:H3[r]?=some (some (.arr 21 [R1.row g ff] false)):=by rw[<-hH3];exact (J_x (λe=>ap3 e.symm)).trans r0
   have o3:H3[o]?=some (some (.arr 5 [[ma,ca,aa,.int .i64 (R1.applied+1),.bool out.restore]] false)):=by rw[<-hH3];exact J_0 lo
   have b3:=T1.keep (z2 _ (J_4 _)) (λy=>y) C0
   have sl:=u5.2 nof H3 R1.hard.log _ (R1.applied+1) (R1.commit-R1.applied) (v2_ R1.hard.log H3) (fit1.logOk hk)
   refine a1_ ⟨u5.1,sl⟩ ?_
   rintro e H4 ⟨oe,-,X4⟩
   have se:=oe.scalar
   have b4:=X4.get b3
   have r4:=X4.get r3
   have r4':=r4
   have o4:=X4.get o3
   have lo4:=(J_w.1 o4).1
   have lr4:=(J_w.1 r4).1
   simp only[b4_.row]at r4'
   have T2:=XTo.setA (l:=R1.hard.log.slice (R1.applied+1) (R1.commit-R1.applied)) T1 X4 o3 oe (λ_ z=>z)
   rw[d9_]
   simp only[go_sem,reduceEqDiff,reduceAdd,reduceLeDiff,reducePow,reduceDiv,reduceMod,decide_true,k1,b4,r4',o4,se,b5_ se,q1,q2,q4,lo4,lr4,J_2]
   have r5:(H4.set o (some (.arr 5 [[ma,ca,e,.int .i64 (R1.applied+1),.bool out.restore]] false)))[r]?=some (some (.arr 21 [R1.row g ff] false)):=(J_x (λe=>ap3 e.symm)).trans r4
   have T3:=XTo.setR (R':={R1 with applied:=R1.commit}) T2 r5 rfl rfl (λ_ z=>z)
   exact XTo.from X0 T3
 have e0:(c4_ f1 f2 f3 f4 f5).code=.seq (c4_ f1 f2 f3 f4 f5).code.hd (.seq (c4_ f1 f2 f3 f4 f5).code.tl.hd (.seq (c4_ f1 f2 f3 f4 f5).code.tl.tl.hd (c4_ f1 f2 f3 f4 f5).code.tl.tl.tl)):=rfl
 rw[e0]
 generalize (c4_ f1 f2 f3 f4 f5).code.tl.tl.tl=D at second ⊢
 obtain⟨g,ff,rr⟩:=hx.rowR
 have lr:=(J_w.1 rr).1
 simp only[b4_.row]at rr
 have R1:∀a,(h++[a])[r]?=_:=λa=>(Ext.b1 a).get rr
 have R2:∀a b,(h++[a]++[b])[r]?=_:=λa b=>(Ext.b2 a b).get rr
 have cof:=λH=>u1.2 nof H R.hard _ (W2_ R.hard H) (hfit.ofR hk)
 simp only[e3_.v_eq]at cof
 simp only[c4_,AC.hd_seq,AC.tl_seq,go_sem,reduceEqDiff,reduceAdd,reduceLeDiff,R1]
 refine j4_ u1.1 (cof _) ?_
 obtain⟨H2,hH2⟩:∃H2,H2=h++[some (a5_.arr 2 [[.ptr r 21 0 0,.ptr o 5 0 0]] false)]++[some (a5_.arr 3 [[g1_ R.hard.of.1.old,g1_ R.hard.of.1.new,g1_ R.hard.of.1.learners]] false)]:=⟨_,rfl⟩
 have X2:Ext nof h H2:=by rw[hH2];exact Ext.b2 _ _
 have l2:H2.length=h.length+2:=by rw[hH2];simp
 have C0:H2[h.length]?=some (some (a5_.arr 2 [[.ptr r 21 0 0,.ptr o 5 0 0]] false)):=by rw[hH2];exact b_z _ _ _
 have C1:H2[h.length+1]?=some (some (a5_.arr 3 [[g1_ R.hard.of.1.old,g1_ R.hard.of.1.new,g1_ R.hard.of.1.learners]] false)):=by rw[hH2];exact O1_ _ _ _
 have r2:=X2.get rr
 have hx2:=hx.up X2
 have fin:∀(Le:Env),R.ends=R->lk 1 Le=.ptr h.length 2 0 0->vc P D ⟨Le,[],H2⟩ (b2_ (c4_ f1 f2 f3 f4 f5).res λ_ h'=>XTo wA nof L h r o (RX.ends ⟨R,out⟩) h'):=λLe e k1=>second Le H2 H2 R e hfit k1 X2 C0 hx2.to
 simp only[c4_]at fin
 simp only[go_sem,reduceEqDiff,reduceAdd,reduceLeDiff,R2]
 rw[<-hH2]
 by_cases c1:R.role=2
 ·simp only[go_sem,reduceEqDiff,reduceAdd,r2,C0,decide_eq_true c1]
  by_cases c2:R.hard.of.2<=R.commit
  ·simp only[go_sem,reduceEqDiff,reduceAdd,reduceLeDiff,r2,C0,C1,decide_eq_true c2]
   refine a1_ ⟨u2.1,u2.2 nof H2 R.hard.of.1 _ (M8_ R.hard.of.1 H2) (hfit.nowFew (by decide))⟩ ?_
   rintro w H3 ⟨ow,X3⟩
   have C0':=X3.get C0
   have C1':=X3.get C1
   have r3:=X3.get r2
   rw[d9_]
   simp only[go_sem,reduceEqDiff,reduceAdd,reduceLeDiff,reducePow,reduceDiv,reduceMod,decide_true,r3,C0',C1']
   have vl:=Z7_ hfit.now
   refine j4_ u3.1 (u3.2 (λ_=>True) H3 _ w R.id (Own.rd _ (λ_ _=>trivial) _ ow) (by have:R.hard.of.1.voters.length<=14:=vl;omega)) ?_
   rw[d9_]
   have hx3:=hx2.up X3
   have snd:=second
   simp only[c4_]at snd
   cases c3:decide (R.id∈R.hard.of.1.voters)
   ·simp only[go_sem,reduceEqDiff,reduceAdd,reduceLeDiff,reducePow,reduceDiv,reduceMod,decide_true,r3,C0',C1',K_u]
    refine a1_ ⟨u4.1,u4.2 L H3 r o ⟨R,out⟩ 0 hx3⟩ ?_
    intro _ H4 T4
    simp only[go_sem]
    refine snd _ H3 H4 (R.follow 0) ?_ (hfit.follow 0) (by simp[a3_]) (X2.tr X3) C0' T4
    unfold b4_.ends;rw[if_pos ⟨c1,c2,c3⟩]
   ·simp only[go_sem,reduceEqDiff,reduceAdd,reduceLeDiff,reducePow,reduceDiv,reduceMod,decide_true,r3,C0',C1',K_l]
    refine snd _ H3 H3 R ?_ hfit (by simp[a3_]) (X2.tr X3) C0' hx3.to
    unfold b4_.ends;rw[if_neg (λz=>by have:=z.2.2;unfold b4_.voter b4_.now at this;rw[c3]at this;cases this)]
  ·simp only[go_sem,reduceEqDiff,decide_eq_false c2]
   exact fin _ (by unfold b4_.ends;rw[if_neg (λz=>c2 z.2.1)]) (by simp[a3_])
 ·simp only[go_sem,reduceEqDiff,decide_eq_false c1]
  exact fin _ (by unfold b4_.ends;rw[if_neg (λz=>c1 z.1)]) (by simp[a3_])
theorem A_d {P:Program}{f f1 f2 f3 f4 f5:FuncId}(hf:Is P f (c4_ f1 f2 f3 f4 f5))(u1:OfP P f1)(u2:R5_ P f2 e3_.voters)(u3:d_7 P f3)(u4:L3_ P f4)(u5:L0_ P f5):v_c P f:=
 ⟨hf.2,λL h r o x k hx hfit hk=>a4_ hf.1 (J_y rfl) (s_d u1 u2 u3 u4 u5 L h r o x k hx hfit hk)⟩
theorem C_b {P:Program}{f f1 f2 f3 f4 f5:FuncId}(hf:Is P f (c4_ f1 f2 f3 f4 f5))(u1:OfP P f1)(u2:R5_ P f2 e3_.voters)(u3:d_7 P f3)(u4:L3_ P f4)(u5:L0_ P f5):x_5 P f:=
 ⟨hf.2,λL h r o x k hx hfit hk=>m_p hf.1 (J_y rfl) (s_d u1 u2 u3 u4 u5 L h r o x k hx hfit hk)⟩
theorem f_u.at' {lo:Nat}{h:a0_}{sz:Nat}{a:AV}{es:List (List AV)}{e:List AV}{i:Nat}(ho:f_u lo h sz a es) (hi:es[i]?=some e):
  ∃n j row g,q9_ sz a (.int .i64 i)=some (.ptr n sz j 0)/\lo<=n/\h[n]?=some (some (.arr sz row g))/\row[j]?=some e:=by
 have hil:=(J_w.1 hi).1
 rcases ho with⟨rfl,rfl⟩ | ⟨n,off,cap,row,g,rfl,hn,hrow,hle,hcl,h5,h6,h7⟩
 ·simp at hil
 ·refine⟨n,off+i,row,g,?_,hn,hrow,?_⟩
  ·simp only[q9_];rw[if_pos ⟨trivial,by omega,by omega⟩];simp
  ·rw[<-h7,K_7,if_pos hil,K_m]at hi;exact hi
theorem f_u.len {lo:Nat}{h:a0_}{sz:Nat}{a:AV}{es:List (List AV)}(ho:f_u lo h sz a es):M5_ a=some (.int .i64 es.length)/\a.scalar=true:=by
 rcases ho with⟨rfl,rfl⟩ | ⟨n,off,cap,row,g,rfl,hn,hrow,hle,hcl,h5,h6,h7⟩
 ·exact⟨rfl,rfl⟩
 ·exact⟨rfl,rfl⟩
theorem XTo.setG {W Q L h r o R R' out h' h1 g f gv}(T:XTo W Q L h r o ⟨R,out⟩ h')(X:Ext nof h' h1) (row:h'[r]?=some (some (.arr 21 [R.row g f] false))) (ho:Own (b1_ R'.granted) (λm=>h'.length<=m) h1 gv) (hc:d2_ h1 gv) (e2:R'.flows=R.flows) (hW:∀k,k≠0->W k):
  XTo W Q L h r o ⟨R',out⟩ (h1.set r (some (.arr 21 [R'.row gv f] false))):=by
 obtain⟨L1,x1,l1,e1'⟩:=T
 obtain⟨g1,f1,ra⟩:=x1.r
 obtain⟨ma,ca,aa,oa⟩:=x1.o
 have:=ra.row.symm.trans row
 simp only[Option.some.injEq,a5_.arr.injEq,List.cons.injEq,b4_.row]at this
 obtain⟨-,⟨⟨-,-,-,-,-,-,-,-,-,-,-,-,-,-,-,-,-,rfl,rfl,-⟩,-⟩,-⟩:=this
 have lr:=(J_w.1 ra.row).1
 have lr1:r<h1.length:=by have:=X.1;omega
 have ne:∀m,m≠r->(h1.set r (some (.arr 21 [R'.row gv f1] false)))[m]?=h1[m]?:=λm hm=>J_x (λe=>hm e.symm)
 have st:∀m,m<h'.length->m≠r->(h1.set r (some (.arr 21 [R'.row gv f1] false)))[m]?=h'[m]?:=λm hm hr=>(ne m hr).trans (X.2 m hm (λy=>y))
 have old:∀{m},m<h'.length->relab L1 nof h'.length h1.length 1 m=L1 m:=fun {m} hm=>j5_ (.inr ⟨λy=>y,hm⟩)
 have nr:∀m,L1 m≠6->m≠r:=λm hm e=>hm (e▸ra.lr)
 have hl:=X.1
 refine XTo.trans1 l1 e1' (λ_ _ y=>y) ⟨relab L1 nof h'.length h1.length 1,⟨⟨gv,f1,J_0 lr1,?_,?_,?_,?_,(old lr).trans ra.lr⟩,⟨ma,ca,aa,oa.keep (λm hm _=>old hm) λm hm c=>st m hm (nr m (by omega))⟩,λm hm=>by rw[J_2];exact P4_ (λz=>by have:=x1.lt m z;omega) hm⟩,λm hm _=>old hm,?_⟩
 ·exact Own.mono _ (λm hm=>H6_ (x1.ge hm.1) hm.2 (.inr hm.1)) (λm hm y hy=>(ne m (by omega)).trans hy) _ (Own.lt _ _ ho)
 ·exact hc.keep ho (λm hm y hy=>(ne m (by omega)).trans hy)
 ·rw[e2]
  exact Own.mono _ (λm hm=>(old hm.2).trans hm.1) (λm hm y hy=>(st m hm.2 (nr m (by omega))).trans hy) _ (Own.lt _ _ ra.fo)
 ·exact ra.fc.keep (Own.lt _ _ ra.fo) (λm hm y hy=>(st m hm.2 (nr m (by omega))).trans hy)
 ·exact X.trans (Ext.set (F:=λm=>m=r) _ (λ_=>rfl)) (F'':=λm=>W (L1 m)\/Q m) (λ_ _ y=>y.elim) (λm _ y=>.inl (by rw[y];exact hW _ (by rw[ra.lr];omega)))
theorem o_0 (x:RX)(l:List Msg)(w:Msg):x.sends (l++[w])=(x.sends l).send w:=by unfold RX.sends;rw[List.foldl_append];rfl
def h_e (P:Program)(f:FuncId):Prop:=f2_ P f=true/\∀(L:Nat->Nat)(h:a0_)(r o:Nat)(x:RX)(k j:Nat)(draw:Int),XAt L h r o x->x.r.fit k->k<2^28->x.few j->j+1<2^20->x.r.hard.term<2^40->
 a6_ P f [.agg [.ptr r 21 0 0,.ptr o 5 0 0],.int .i64 draw] h λ_ h'=>XTo wA nof L h r o (x.stand draw) h'
theorem r_6 {P:Program}{f f1 f2 f3 f4 f5 f6 f7 f8:FuncId}(hf:Is P f (n6_ f1 f2 f3 f4 f5 f6 f7 f8))(u1:d_3 P f1)(u2:L3_ P f2)(u3:n_8 P f3)(u4:m_5 P f4)(u5:u_3 P f5)(u6:h_g P f6)(u7:v_o P f7)(u8:d_4 P f8):h_e P f:=by
 refine⟨hf.2,λL h r o x k j draw hx hfit hk hj hj2 hterm=>a4_ hf.1 (J_y rfl) ?_⟩
 show vc P (n6_ f1 f2 f3 f4 f5 f6 f7 f8).code ⟨[(0,.agg [.ptr r 21 0 0,.ptr o 5 0 0]),(1,.int .i64 draw)],[],h⟩ (b2_ (n6_ f1 f2 f3 f4 f5 f6 f7 f8).res _)
 have ap:=hx.apart
 obtain⟨R,out⟩:=x
 simp only at hfit hterm
 have X1:=Ext.b1 (h:=h) (some (a5_.arr 2 [[.ptr r 21 0 0,.ptr o 5 0 0]] false))
 have hx1:=hx.up X1
 have z2:∀m,h.length<=m->¬wA (L m):=λm e=>by rw[hx.ge e];exact wA0
 have B1:=x3_ h (some (a5_.arr 2 [[.ptr r 21 0 0,.ptr o 5 0 0]] false))
 obtain⟨g,ff,rr⟩:=hx1.rowR
 have rr':=rr
 simp only[b4_.row]at rr'
 have ht:=hfit.term
 have ew:IntKind.i64.wrap (R.hard.term+1)=R.hard.term+1:=a7_ (by omega)
 simp only[n6_,go_sem,reduceEqDiff,reduceAdd,reduceLeDiff,rr',B1,ew]
 have t1:=u1.2 L _ r o ⟨R,out⟩ (R.hard.term+1) R.id hx1 (by have:=hj.2;show (out.changes.length+1)*216<=2^46;have a:out.changes.length+1<=2^21:=by {have b:out.changes.length<=j:=this;omega};exact K_e (K_w 216 a) (by decide))
 refine a1_ ⟨u1.1,t1⟩ ?_
 intro _ H2 T2
 have D2:=T2.keep (z2 _ (J_4 _)) (λy=>y) B1
 rw[d9_]
 simp only[go_sem,reduceEqDiff,reduceAdd,reduceLeDiff,reducePow,reduceDiv,reduceMod,decide_true,D2]
 have t2:=XTo.callM (Q':=nof) T2 (Ext.refl _ _) (λ_ _ y=>y) λL1 x1=>u2.2 L1 H2 r o _ 0 x1
 refine a1_ ⟨u2.1,t2⟩ ?_
 intro _ H3 T3
 have D3:=T3.keep (z2 _ (J_4 _)) (λy=>y) B1
 obtain⟨y,hy⟩:∃y,y=((({r:=R,o:=out}:RX).term (R.hard.term+1) R.id).follow 0):=⟨_,rfl⟩
 have yfit:y.r.fit k:=by
  rw[hy]
  have:=(hfit.setTerm (t:=R.hard.term+1) (v:=R.id) ⟨by omega,by omega⟩ ⟨by have:=hfit.id;omega,by have:=hfit.id;omega⟩).follow 0
  exact this
 have yfew:y.few (j+1):=by
  rw[hy]
  have:=RX.few.tell (x:=({r:={R with hard:={R.hard with term:=R.hard.term+1,vote:=R.id}},o:=out}:RX)) hj {b9_.zero with kind:=1,term:=R.hard.term+1,voted:=R.id}
  exact this
 have yid:y.r.id=R.id:=by rw[hy];rfl
 have est:(({r:=R,o:=out}:RX).stand draw)=(let z:RX:={y with r:={y.r with role:=1,elapsed:=0,timeout:=r_f draw,granted:=[y.r.id]}}
  if z.r.now.won z.r.granted then z.lead else z.sends (k_x z.r.id z.r.hard.group z.r.hard.term z.r.hard.log z.r.now)):=by rw[hy];rfl
 rw[est]
 rw[<-hy]at T3
 clear hy est T2 t2 t1
 obtain⟨Y,yo⟩:=y
 obtain⟨g3,f3',r3⟩:=T3.rowR
 have r3':=r3
 simp only[b4_.row]at r3'
 simp only at yfit
 obtain⟨ap1,ap2,ap3⟩:=ap
 have lh3:=(J_w.1 D3).1
 have lr3:=(J_w.1 r3).1
 have D3n:∀a,(H3++[a])[h.length]?=_:=λa=>(Ext.b1 a).get D3
 have r3n:∀a,(H3++[a])[r]?=_:=λa=>(Ext.b1 a).get r3'
 have NR:∀sz i o',f0_ H3.length 1 (.ptr r sz i o')=true:=λsz i o'=>d6_ lr3
 have NB:∀sz i o',f0_ H3.length 1 (.ptr h.length sz i o')=true:=λsz i o'=>d6_ lh3
 have q0:(r=h.length)=False:=eq_false (by omega)
 have q1:(r=H3.length)=False:=eq_false (by omega)
 have q2:r<H3.length+1:=by omega
 have q3:(h.length=r)=False:=eq_false (by omega)
 have q4:(h.length=H3.length)=False:=eq_false (by omega)
 have SA:∀x v,(H3++[x]).set r v=H3.set r v++[x]:=λx v=>by rw[J_6 _ _ lr3]
 have SB:∀v x y,(H3.set r v++[x]).set H3.length y=H3.set r v++[y]:=λv x y=>by rw[K_n _ _ (by rw[J_2];exact J_4 _)];simp
 have SC:∀v w x,(H3.set r v++[x]).set r w=H3.set r w++[x]:=λv w x=>by rw[J_6 _ _ (by rw[J_2];exact lr3),L_j]
 have GA:∀v x,(H3.set r v++[x])[r]?=some v:=λv x=>by rw[J_1 (by rw[J_2];exact lr3),J_0 lr3]
 have GB:∀v x,(H3.set r v++[x])[h.length]?=some (some (a5_.arr 2 [[.ptr r 21 0 0,.ptr o 5 0 0]] false)):=λv x=>by rw[J_1 (by rw[J_2];exact lh3),J_x (by omega)];exact D3
 have GC:∀v x,(H3.set r v++[x])[H3.length]?=some x:=λv x=>by rw[K_a (by rw[J_2];exact J_4 _),J_2];simp
 have GN:(H3++[none])[H3.length]?=some none:=by simp
 simp only[go_sem,reduceEqDiff,reduceAdd,reducePow,reduceDiv,reduceMod,i3_,D3n,r3n,NR,NB]
 refine j4_ u3.1 (u3.2 _ draw) ?_
 simp only[go_sem,reduceEqDiff,reduceAdd,reduceLeDiff,reducePow,reduceDiv,reduceMod,decide_true,i3_,D3n,r3n,SA,SB,SC,GA,GB,GC,GN,J_2,J_z,Bool.or_true,Bool.true_or]
 have og:Own (b1_ [Y.id]) (λm=>H3.length<=m) (H3++[some (a5_.arr 1 [[.int .i64 Y.id]] false)]) (.ref H3.length 1 0 1 (some 1)):=.inr (.inr ⟨_,0,some 1,_,_,rfl,J_4 _,x3_ _ _,by simp,(λc hc=>by cases hc;simp),by simp[a8_,g2_,Own]⟩)
 have cg:d2_ (H3++[some (a5_.arr 1 [[.int .i64 Y.id]] false)]) (.ref H3.length 1 0 1 (some 1)):=⟨_,_,x3_ _ _,(λe=>by cases e),(λc hc=>by cases hc;simp)⟩
 have T4:=XTo.setG (R':={Y with role:=1,elapsed:=0,timeout:=r_f draw,granted:=[Y.id]}) T3 (Ext.b1 (some (a5_.arr 1 [[.int .i64 Y.id]] false))) r3 og cg rfl (λ_ z=>z)
 rw[SA]at T4
 obtain⟨Z,hZ⟩:∃Z:b4_,Z={Y with role:=1,elapsed:=0,timeout:=r_f draw,granted:=[Y.id]}:=⟨_,rfl⟩
 have zfit:Z.fit k:=by
  rw[hZ]
  obtain⟨g1,g2,g3,g4,g5,g6,g7,g8,g9,g10,g11,g12,g13,g14,g15⟩:=yfit
  exact⟨g1,g2,g3,g4,g5,g6,g7,g8,g9,⟨L_e _,by show (0:Int)<=k;omega⟩,g11,g12,by show [Y.id].length<=k+1;simp,g14,g15⟩
 have zg:Z.granted=[Y.id]:=by rw[hZ]
 have zrow:∀g f,Z.row g f=[.int .i64 Y.id,.int .i64 Y.hard.group,.int .i64 Y.hard.term,.int .i64 Y.hard.vote,.int .i64 Y.hard.log.base,.int .i64 Y.hard.log.bterm,i5_ Y.hard.log.es,g1_ Y.hard.conf.old,g1_ Y.hard.conf.new,g1_ Y.hard.conf.learners,k0_ Y.hard.snap,
  .int .i64 Y.commit,.int .i64 Y.applied,.int .i64 1,.int .i64 Y.leader,.int .i64 0,.int .i64 (r_f draw),g,f,.int .i64 Y.round,.int .i64 Y.beat]:=λg f=>by rw[hZ];rfl
 have rg4:Rd (λ_=>True) (H3.set r (some (.arr 21 [Z.row (.ref H3.length 1 0 1 (some 1)) f3'] false))++[some (a5_.arr 1 [[.int .i64 Y.id]] false)]) (b1_ Z.granted) (.ref H3.length 1 0 1 (some 1)):=by
  rw[zg]
  exact⟨_,.inr (.inr ⟨_,0,1,some 1,_,_,rfl,trivial,GC _ _,by simp,(λc hc=>by cases hc;simp),rfl⟩),by simp[E4_,RdL,Rd]⟩
 have r4:=GA (some (.arr 21 [Z.row (.ref H3.length 1 0 1 (some 1)) f3'] false)) (some (a5_.arr 1 [[.int .i64 Y.id]] false))
 rw[<-hZ]at T4
 have zrow':=zrow (.ref H3.length 1 0 1 (some 1)) f3'
 rw[zrow']at T4 rg4 r4
 generalize hH4:(H3.set r _++_:a0_)=H4 at *
 have C4:=T4.keep (z2 _ (J_4 _)) (λy=>y) B1
 have ez:Z.id=Y.id/\Z.hard=Y.hard:=by rw[hZ];exact⟨rfl,rfl⟩
 have zfew:(⟨Z,yo⟩:RX).few (j+1):=yfew
 have stz:((let z:RX:={({r:=Y,o:=yo}:RX) with r:={Y with role:=1,elapsed:=0,timeout:=r_f draw,granted:=[Y.id]}}
  if z.r.now.won z.r.granted then z.lead else z.sends (k_x z.r.id z.r.hard.group z.r.hard.term z.r.hard.log z.r.now)))=if Z.now.won Z.granted then RX.lead ⟨Z,yo⟩ else RX.sends ⟨Z,yo⟩ (k_x Z.id Z.hard.group Z.hard.term Z.hard.log Z.now):=by rw[hZ]
 rw[stz]
 clear stz
 refine j4_ u4.1 (u4.2 H4 r Z T4.rowR (zfit.ofR (by omega))) ?_
 rw[d9_]
 simp only[go_sem,reduceEqDiff,reducePow,reduceDiv,reduceMod,decide_true,C4,r4,e3_.v_eq]
 refine j4_ u5.1 (u5.2 nof (λ_=>True) H4 Z.now Z.granted _ _ (M8_ Z.now H4) rg4 (zfit.nowFew (by decide)) (by rw[zg];simp)) ?_
 rw[d9_]
 simp only[go_sem,reduceEqDiff,reducePow,reduceDiv,reduceMod,decide_true,C4,r4]
 cases cw:Z.now.won Z.granted
 ·simp only[go_sem,reduceEqDiff,reduceAdd,reduceLeDiff,C4,r4,K_b,if_false]
  refine j4_ u4.1 (u4.2 H4 r Z T4.rowR (zfit.ofR (by omega))) ?_
  rw[d9_]
  simp only[go_sem,reduceEqDiff,reduceAdd,reduceLeDiff,reducePow,reduceDiv,reduceMod,decide_true,C4,r4,e3_.v_eq]
  have ak:=u7.2 nof nof H4 Z.id Z.hard.group Z.hard.term Z.hard.log Z.now _ _ (v2_ Z.hard.log H4) (M8_ Z.now H4) (zfit.logOk (by omega)) (zfit.nowFew (by decide))
  rw[ez.1,ez.2]at ak ⊢
  refine a1_ ⟨u7.1,ak⟩ ?_
  rintro a H5 ⟨oo,X5⟩
  have hno:=B_m (id:=Y.id) (group:=Y.hard.group) (term:=Y.hard.term) (l:=Y.hard.log) (c:=Z.now)
  have hal:(k_x Y.id Y.hard.group Y.hard.term Y.hard.log Z.now).length<=14:=K_e (n_2 _ _ _ _ _) (Z7_ zfit.now)
  generalize k_x Y.id Y.hard.group Y.hard.term Y.hard.log Z.now=ms at *
  obtain⟨lna,sa⟩:=oo.len
  have C5:=X5.get C4
  have r5:=X5.get r4
  simp only[K_p]at lna
  rw[d9_]
  simp only[go_sem,reduceEqDiff,reduceAdd,reduceLeDiff,reducePow,reduceDiv,reduceMod,decide_true,C5,r5,lna]
  obtain⟨L5,x4,l5,e4⟩:=T4
  have x5:=x4.up X5
  have e5:Ext (λm=>wA (L m)\/nof m) (h++[some (a5_.arr 2 [[.ptr r 21 0 0,.ptr o 5 0 0]] false)]) H5:=e4.trans X5 (λ_ _ z=>z) (λ_ _ z=>z.elim)
  have lh4:=(J_w.1 C4).1
  have z5:∀m,H4.length<=m->¬wO (L5 m):=λm hm=>by rw[x4.ge hm];unfold wO;omega
  have zb:¬wO (L5 h.length):=by
   rw[l5 h.length (by simp) (.inr (λz=>z)),hx.ge (J_4 _)];unfold wO;omega
  obtain⟨I,hI⟩:∃I:Nat->Env->a0_->Prop,∀m Le h',I m Le h'↔∃i:Nat,lk 2 Le=.ptr h.length 2 0 0/\lk 84 Le=a/\lk 85 Le=.int .i64 ms.length/\lk 86 Le=.int .i64 i/\XTo wO nof L5 H5 r o (RX.sends ⟨Z,yo⟩ (ms.take i)) h'/\i<=ms.length/\m=ms.length-i:=⟨_,λ_ _ _=>Iff.rfl⟩
  refine e8_ I ms.length ((hI _ _ _).2 ⟨0,by simp[a3_],by simp[a3_],by simp[a3_],by simp[a3_],x5.to,by omega,by omega⟩) ?_
  intro m Le h' hh
  obtain⟨i,k2,k84,k85,k86,T,hi,rfl⟩:=(hI _ _ _).1 hh
  simp only[B0_,go_sem,k85,k86]
  refine b0_ (λci=>?_) (λci=>?_)
  ·simp at ci
   have ci:i<ms.length:=by omega
   have ew:IntKind.i64.wrap ((i:Int)+1)=((i+1:Nat):Int):=by rw[a7_ (by omega)];omega
   obtain⟨n,q,row,gr,i1,i2,i3,i4⟩:=oo.at' (i:=i) (e:=v_q ms[i]) (by rw[K_s,J_5 ci];rfl)
   have tk:ms.take (i+1)=ms.take i++[ms[i]]:=K_f ci
   obtain⟨ne1,ne2⟩:=hno _ (K_1 ci)
   have sr:=l_a (ms.take i) ⟨Z,yo⟩
   have tl:=M_l i ms
   have sn:=o_0 ⟨Z,yo⟩ (ms.take i) ms[i]
   generalize ms[i]=m at *
   have i5:=T.keep (z5 n i2) (λz=>z) i3
   have C6:=T.keep zb (λz=>z) C5
   have ld:o5_ h' true 17 (.ptr n 17 q 0)=some (.agg (v_q m)):=by rw[n2_ (cs:=v_q m) (by simp[n3_,i5,i4])];rfl
   have C6':∀b,(h'++[b])[h.length]?=_:=λb=>(Ext.b1 b).get C6
   simp only[v_q,Msg.cells]at ld
   simp only[go_sem,reduceEqDiff,reduceAdd,reduceLeDiff,k2,k84,k86,i1,ld,C6']
   have sd:=XTo.callM (Q':=nof) (h3:=h'++[some (a5_.arr 17 [v_q m] false)]) T (Ext.b1 _) (λ_ _ y=>y) λL1 x1=>u8.2 nof L1 (h'++[some (a5_.arr 17 [v_q m] false)]) r o _ m .nils .nils (x1.up (Ext.b1 _)) (by rw[ne1];exact Own.nils 3) (by rw[ne2];exact Own.nils 1) (λ_ z=>z.elim) (by
    have h1:=sr.2.2;have h2:=zfew.1
    have a:(RX.sends ⟨Z,yo⟩ (ms.take i)).o.msgs.length+1<=2^21:=by
     have h3:yo.msgs.length<=j+1:=h2
     have h4:(RX.sends ⟨Z,yo⟩ (ms.take i)).o.msgs.length=yo.msgs.length+(ms.take i).length:=h1
     omega
    exact K_e (K_w 168 a) (by decide))
   simp only[v_q,Msg.cells]at sd
   refine a1_ ⟨u8.1,sd⟩ ?_
   intro _ h2 T2
   simp only[go_sem,reduceEqDiff,k86,ew]
   exact⟨_,by omega,(hI _ _ _).2 ⟨i+1,by simp[a3_,k2],by simp[a3_,k84],by simp[a3_,k85],by simp[a3_],by rw[tk,sn];exact T2,by omega,rfl⟩⟩
  ·simp at ci
   obtain rfl:i=ms.length:=by omega
   rw[K_y]at T
   simp only[go_sem]
   exact XTo.from X1 (XTo.trans1 l5 e5 (λ_ _ y=>y) (T.weakW Z6_))
 ·simp only[go_sem,reduceEqDiff,reduceAdd,reduceLeDiff,C4,if_true]
  have t6:=XTo.callM (Q':=nof) T4 (Ext.refl _ _) (λ_ _ y=>y) λL1 x1=>u6.2 L1 H4 r o ⟨Z,yo⟩ k (j+1) x1 zfit hk zfew hj2
  refine a1_ ⟨u6.1,t6⟩ ?_
  intro _ H5 T5
  simp only[go_sem]
  exact XTo.from X1 T5
def O5_ (L:Nat->Nat)(h:a0_)(m:Msg)(a:List AV):Prop:=∃G:Nat->Prop,RdL G h m.c a/\∀n,G n->L n=0
theorem O5_.to {W:Nat->Prop}{L h r o x h' m a}(hm:O5_ L h m a){L1}(x1:XAt L1 h' r o x)(l1:∀m,m<h.length->L m≠0\/¬nof m->L1 m=L m) (e1:Ext (λm=>W (L m)\/nof m) h h') (hW:¬W 0):O5_ L1 h' m a:=by
 obtain⟨G,hr,h0⟩:=hm
 exact⟨λn=>G n/\n<h.length,RdL.mono (λ_ y=>y) (λn hn y hy=>(e1.2 n hn.2 (λz=>by rcases z with z | z;rw[h0 n hn.1]at z;exact hW z;exact z)).trans hy) _ _ (RdL.lt _ _ hr),λn hn=>(l1 n hn.2 (.inr (λz=>z))).trans (h0 n hn.1)⟩
theorem XTo.callK {P:Program}{f:FuncId}{avs:List AV}{W L h r o x h' x' m a}(T:XTo W nof L h r o x h')(hm:O5_ L h m a)(hW:¬W 0)
  (hc:∀L1,XAt L1 h' r o x->O5_ L1 h' m a->a6_ P f avs h' λ_ h''=>XTo W nof L1 h' r o x' h''):a6_ P f avs h' λ_ h''=>XTo W nof L h r o x' h'':=by
 obtain⟨L1,x1,l1,e1⟩:=T
 exact (hc L1 x1 (hm.to x1 l1 e1 hW)).mono λ_ _ b=>XTo.trans1 l1 e1 (λ_ _ y=>y) b
def h_j (P:Program)(f:FuncId):Prop:=f2_ P f=true/\∀(L:Nat->Nat)(h:a0_)(r o:Nat)(x:RX)(k j:Nat)(m:Msg)(a:List AV),XAt L h r o x->x.r.fit k->k<=2^28->x.few j->j+1<2^20->O5_ L h m a->
 a6_ P f [.agg [.ptr r 21 0 0,.ptr o 5 0 0],.agg a] h λ_ h'=>XTo wA nof L h r o (x.asked m) h'
theorem m_m {n j:Nat}(h:n<=j)(hj:j<2^20)(b:Nat)(hb:b<=216):(n+1)*b<=2^46:=K_e (Nat.mul_le_mul (show n+1<=2^20 by omega) hb) (by decide)
theorem s_k {P:Program}{f f1 f2 f3:FuncId}(hf:Is P f (c5_ f1 f2 f3))(u1:h_l P f1)(u2:d_3 P f2)(u3:d_4 P f3):h_j P f:=by
 refine⟨hf.2,λL h r o x k j m a hx hfit hk hj hj2 hm=>a4_ hf.1 (J_y rfl) ?_⟩
 show vc P (c5_ f1 f2 f3).code ⟨[(0,.agg [.ptr r 21 0 0,.ptr o 5 0 0]),(1,.agg a)],[],h⟩ (b2_ (c5_ f1 f2 f3).res _)
 obtain⟨G,hr,h0⟩:=id hm
 obtain⟨e,d,rfl,he,hd⟩:=G4_ hr
 have ap:=hx.apart
 obtain⟨R,out⟩:=x
 simp only at hfit
 obtain⟨H,hH⟩:∃H,H=h++[some (a5_.arr 2 [[.ptr r 21 0 0,.ptr o 5 0 0]] false)]++[some (a5_.arr 17 [m.cells e d] false)]:=⟨_,rfl⟩
 have X1:Ext nof h H:=by rw[hH];exact Ext.b2 _ _
 have C0:H[h.length]?=some (some (a5_.arr 2 [[.ptr r 21 0 0,.ptr o 5 0 0]] false)):=by rw[hH];exact b_z _ _ _
 have C1:H[h.length+1]?=some (some (a5_.arr 17 [m.cells e d] false)):=by rw[hH];exact O1_ _ _ _
 have hx1:=hx.up X1
 have z2:∀m,h.length<=m->¬wA (L m):=λm e=>by rw[hx.ge e];exact wA0
 have second:∀(Le:Env)(H':a0_)(y:RX)(ok:Bool),(RX.asked ⟨R,out⟩ m)=y.send {Msg.zero with kind:=2,to:=m.from_,ok:=ok}->y.few (j+1)->lk 2 Le=.ptr h.length 2 0 0->lk 3 Le=.ptr (h.length+1) 17 0 0->lk 4 Le=.bool ok->XTo wA nof L H r o y H'->
   vc P (c5_ f1 f2 f3).code.tl.tl.tl ⟨Le,[],H'⟩ (b2_ (c5_ f1 f2 f3).res λ_ h'=>XTo wA nof L h r o (RX.asked ⟨R,out⟩ m) h'):=by
  intro Le H' y ok ey yf k2 k3 k4 T
  have D0:=T.keep (z2 _ (J_4 _)) (λy=>y) C0
  have D1:=T.keep (z2 _ (by omega)) (λy=>y) C1
  simp only[Msg.cells]at D1
  rw[ey]
  simp only[c5_,AC.tl_seq,go_sem,reduceEqDiff,reduceAdd,reduceLeDiff,k2,k3,k4,D0,D1]
  have sd:=XTo.callM (Q':=nof) T (Ext.refl _ _) (λ_ _ y=>y) λL1 x1=>(u3.2 nof L1 H' r o y {Msg.zero with kind:=2,to:=m.from_,ok:=ok} .nils .nils x1 (Own.nils 3) (Own.nils 1) (λ_ z=>z.elim) (m_m yf.1 hj2 168 (by omega))).mono λ_ _ b=>b.weakW Z6_
  refine a1_ ⟨u3.1,sd⟩ ?_
  intro _ H2 T2
  simp only[go_sem]
  exact XTo.from X1 T2
 have e0:(c5_ f1 f2 f3).code=.seq (c5_ f1 f2 f3).code.hd (.seq (c5_ f1 f2 f3).code.tl.hd (.seq (c5_ f1 f2 f3).code.tl.tl.hd (c5_ f1 f2 f3).code.tl.tl.tl)):=rfl
 rw[e0]
 generalize (c5_ f1 f2 f3).code.tl.tl.tl=D at second ⊢
 obtain⟨g,ff,rr⟩:=hx1.rowR
 have rr':=rr
 have C1':=C1
 simp only[b4_.row]at rr'
 simp only[Msg.cells]at C1' hH
 simp only[c5_,AC.hd_seq,AC.tl_seq,go_sem,reduceEqDiff,reduceAdd,Msg.cells,he.scalar,hd.scalar]
 rw[<-hH]
 clear hH
 simp only[go_sem,reduceEqDiff,reduceAdd,reduceLeDiff,rr',C0,C1']
 have gr:=u1.2 nof G H R.hard.term R.hard.vote R.hard.log m _ _ (v2_ R.hard.log H) (RdL.mono (λ_ y=>y) (X1.keep _) _ _ hr) (hfit.logOk hk)
 simp only[Msg.cells]at gr
 refine j4_ u1.1 gr ?_
 rw[d9_]
 have snd:=second
 simp only[c5_]at snd
 have lr:=(J_w.1 rr).1
 have q0:(h.length=r)=False:=eq_false (by omega)
 have q1:(h.length+1=r)=False:=eq_false (by omega)
 have q2:(r=h.length)=False:=eq_false (by omega)
 have q3:(r=h.length+1)=False:=eq_false (by omega)
 simp only[go_sem,reduceEqDiff,reduceAdd,reduceLeDiff,reducePow,reduceDiv,reduceMod,decide_true,rr',C0,C1']
 have easked:(RX.asked ⟨R,out⟩ m)=(if I3_ R.hard.term R.hard.vote R.hard.log m then (let z:RX:=⟨{R with elapsed:=0},out⟩;if z.r.hard.vote=m.from_ then z else z.term z.r.hard.term m.from_) else ⟨R,out⟩).send {Msg.zero with kind:=2,to:=m.from_,ok:=I3_ R.hard.term R.hard.vote R.hard.log m}:=rfl
 cases cg:I3_ R.hard.term R.hard.vote R.hard.log m
 ·rw[cg]at easked
  simp only[go_sem]
  refine snd _ H ⟨R,out⟩ false easked (hj.mono (by omega)) ?_ ?_ ?_ hx1.to<;>simp[a3_]
 ·rw[cg]at easked
  have T0:=XTo.setR (R':={R with elapsed:=0}) (hx1.to (W:=wA) (Q:=nof)) rr rfl rfl (λ_ z=>z)
  simp only[b4_.row]at T0
  simp only[go_sem,reduceEqDiff,reduceAdd,reduceLeDiff,rr',C0,C1',q2,q3,lr]
  generalize hH2:H.set r _=H2 at *
  have D0:=T0.keep (z2 _ (J_4 _)) (λy=>y) C0
  have D1:=T0.keep (z2 _ (by omega)) (λy=>y) C1'
  have rE:H2[r]?=some (some (.arr 21 [({R with elapsed:=0}:b4_).row g ff] false)):=by rw[<-hH2];exact J_0 lr
  simp only[b4_.row]at rE
  simp only[if_true]at easked
  by_cases cv:R.hard.vote=m.from_
  ·simp only[if_pos cv]at easked
   simp only[go_sem,decide_eq_true cv,K_l]
   refine snd _ H2 ⟨{R with elapsed:=0},out⟩ true easked (RX.few.mono (x:=⟨{R with elapsed:=0},out⟩) hj (by omega)) ?_ ?_ ?_ T0<;>simp[a3_]
  ·simp only[if_neg cv]at easked
   simp only[go_sem,reduceEqDiff,reduceAdd,reduceLeDiff,rE,D0,D1,decide_eq_false cv,K_u]
   have tm:=XTo.callM (Q':=nof) T0 (Ext.refl _ _) (λ_ _ y=>y) λL1 x1=>u2.2 L1 H2 r o _ R.hard.term m.from_ x1 (m_m (show out.changes.length<=j from hj.2) (by omega) 216 (by omega))
   refine a1_ ⟨u2.1,tm⟩ ?_
   intro _ H3 T3
   rw[d9_]
   simp only[go_sem,reducePow,reduceDiv,reduceMod,decide_true]
   refine snd _ H3 _ true easked (RX.few.tell (x:=({r:={R with elapsed:=0,hard:={R.hard with vote:=m.from_}},o:=out}:RX)) hj {b9_.zero with kind:=1,term:=R.hard.term,voted:=m.from_}) ?_ ?_ ?_ T3<;>simp[a3_]
theorem XTo.addG {W:Nat->Prop}{L h r o R out H g f n}{Hb:a0_}(T:XTo W nof L h r o ⟨R,out⟩ H) (row:H[r]?=some (some (.arr 21 [R.row g f] false))) (X:Ext nof H Hb) (hW:∀k,k≠0->W k) (hb:R.granted.length<=2^30):
  ∃g' H',d3_ Hb 1 8 g [[.int .i64 n]]=some (g',H')/\g'.scalar=true/\Hb.length<=H'.length/\(∀m,L m=0->m<h.length\/H.length<=m->m<Hb.length->H'[m]?=Hb[m]?)/\H'[r]?=some (some (.arr 21 [R.row g f] false)) /\
   d2_ H' g'/\Rd (λ_=>True) H' (b1_ (R.granted++[n])) g' /\
   XTo W nof L h r o ⟨{R with granted:=R.granted++[n]},out⟩ (H'.set r (some (.arr 21 [({R with granted:=R.granted++[n]}:b4_).row g' f] false))):=by
 obtain⟨L1,x1,l1,e1'⟩:=T
 obtain⟨g1,f1,ra⟩:=x1.r
 obtain⟨ma,ca,aa,oa⟩:=x1.o
 have:=ra.row.symm.trans row
 simp only[Option.some.injEq,a5_.arr.injEq,List.cons.injEq,b4_.row]at this
 obtain⟨-,⟨⟨-,-,-,-,-,-,-,-,-,-,-,-,-,-,-,-,-,rfl,rfl,-⟩,-⟩,-⟩:=this
 have lr:=(J_w.1 ra.row).1
 have hl:=X.1
 have kg:v4_ (λm=>L1 m=1/\m<H.length) H Hb:=λm hm y hy=>X.get hy
 have og:Own (b1_ R.granted) (λm=>(L1 m=1/\m<H.length)\/Hb.length<=m) Hb g1:=Own.mono _ (λm hm=>.inl hm) kg _ (Own.lt _ _ ra.go)
 have cg:d2_ Hb g1:=ra.gc.keep (Own.lt _ _ ra.go) kg
 obtain⟨g',H',s1,s2,s3,s4⟩:=W4_ (bytes:=8) (es:=[[.int .i64 n]]) (ys:=[[.int .i64 n]]) og cg (Ext.refl _ _) (by simp[a8_,g2_,Own]) (λm hm=>.inr hm) (by simp;omega)
 have kk:∀m,m<Hb.length->L1 m≠1->H'[m]?=Hb[m]?:=λm hm hn=>s4.2 m hm (λz=>by rcases z with z | z;exact hn z.1;omega)
 have hl':=s4.1
 have e4:b1_ (R.granted++[n])=.sl 1 (R.granted.map (λn=>[D.int .i64 n])++[[.int .i64 n]]):=by simp[b1_]
 have rr:H'[r]?=some (some (.arr 21 [R.row g1 f1] false)):=(kk r (by omega) (by rw[ra.lr];omega)).trans (X.get ra.row)
 have ne:∀m,m≠r->(H'.set r (some (.arr 21 [({R with granted:=R.granted++[n]}:b4_).row g' f1] false)))[m]?=H'[m]?:=λm hm=>J_x (λe=>hm e.symm)
 have st:∀m,m<H.length->L1 m≠1->m≠r->(H'.set r (some (.arr 21 [({R with granted:=R.granted++[n]}:b4_).row g' f1] false)))[m]?=H[m]?:=λm hm h1 hr=>(ne m hr).trans ((kk m (by omega) h1).trans (X.2 m hm (λy=>y)))
 have nr:∀m,L1 m≠6->m≠r:=λm hm e=>hm (e▸ra.lr)
 have old:∀{m},m<H.length->relab L1 nof Hb.length H'.length 1 m=L1 m:=fun {m} hm=>j5_ (.inr ⟨λy=>y,by omega⟩)
 have s2l:=Own.lt _ _ s2
 have kf:v4_ (λm=>L1 m=2/\m<H.length) H (H'.set r (some (.arr 21 [({R with granted:=R.granted++[n]}:b4_).row g' f1] false))):=λm hm y hy=>(st m hm.2 (by omega) (nr m (by omega))).trans hy
 have kn:v4_ (λm=>((L1 m=1/\m<H.length)\/Hb.length<=m)/\m<H'.length) H' (H'.set r (some (.arr 21 [({R with granted:=R.granted++[n]}:b4_).row g' f1] false))):=λm hm y hy=>(ne m (by rcases hm.1 with z | z;exact nr m (by omega);omega)).trans hy
 refine⟨g',H',s1,s2.scalar,hl',λm h0 hlt hm=>kk m hm ?_,rr,s3,?_,XTo.trans1 l1 e1' (λ_ _ y=>y) ⟨relab L1 nof Hb.length H'.length 1,⟨⟨g',f1,J_0 (by omega),?_,?_,?_,?_,(old lr).trans ra.lr⟩,⟨ma,ca,aa,oa.keep (λm hm _=>old hm) λm hm c=>st m hm (by omega) (nr m (by omega))⟩,λm hm=>by rw[J_2];exact P4_ (λz=>by have:=x1.lt m z;omega) hm⟩,λm hm _=>old hm,?_⟩⟩
 ·rcases hlt with hlt | hlt
  ·rw[l1 m hlt (.inr (λz=>z)),h0];omega
  ·rw[x1.ge hlt];omega
 ·rw[e4];exact Own.rd _ (λ_ _=>trivial) _ s2
 ·show Own (b1_ (R.granted++[n])) _ _ _
  rw[e4]
  refine Own.mono _ (λm hm=>?_) kn _ s2l
  rcases hm.1 with z | z
  ·exact (old z.2).trans z.1
  ·exact H6_ (x1.ge (by omega)) hm.2 (.inr z)
 ·exact s3.keep s2l kn
 ·exact Own.mono _ (λm hm=>(old hm.2).trans hm.1) kf _ (Own.lt _ _ ra.fo)
 ·exact ra.fc.keep (Own.lt _ _ ra.fo) kf
 ·refine (X.trans s4 (F'':=λm=>W (L1 m)\/nof m) (λ_ _ y=>y.elim) (λm hm y=>.inl (by rcases y with y | y;exact hW _ (by rw[y.1];omega);omega))).trans (Ext.set (F:=λm=>m=r) _ (λ_=>rfl)) (λ_ _ y=>y) (λm _ y=>.inl (by rw[y];exact hW _ (by rw[ra.lr];omega)))
def h_d (P:Program)(f:FuncId):Prop:=f2_ P f=true/\∀(L:Nat->Nat)(h:a0_)(r o:Nat)(x:RX)(k j:Nat)(m:Msg)(a:List AV),XAt L h r o x->x.r.fit k->k+1<2^28->x.few j->j<2^20->O5_ L h m a->
 a6_ P f [.agg [.ptr r 21 0 0,.ptr o 5 0 0],.agg a] h λ_ h'=>XTo wA nof L h r o (x.voted m) h'
theorem r_2 {P:Program}{f f1 f2 f3 f4 f5:FuncId}(hf:Is P f (n5_ f1 f2 f3 f4 f5))(u1:d_7 P f1)(u2:d_1 P f2)(u3:m_5 P f3)(u4:u_3 P f4)(u5:h_g P f5):h_d P f:=by
 refine⟨hf.2,λL h r o x k j m a hx hfit hk hj hj2 hm=>a4_ hf.1 (J_y rfl) ?_⟩
 show vc P (n5_ f1 f2 f3 f4 f5).code ⟨[(0,.agg [.ptr r 21 0 0,.ptr o 5 0 0]),(1,.agg a)],[],h⟩ (b2_ (n5_ f1 f2 f3 f4 f5).res _)
 obtain⟨G,hr,h0⟩:=id hm
 obtain⟨e,d,rfl,he,hd⟩:=G4_ hr
 have ap:=hx.apart
 obtain⟨R,out⟩:=x
 simp only at hfit
 obtain⟨H,hH⟩:∃H,H=h++[some (a5_.arr 2 [[.ptr r 21 0 0,.ptr o 5 0 0]] false)]++[some (a5_.arr 17 [m.cells e d] false)]:=⟨_,rfl⟩
 have X1:Ext nof h H:=by rw[hH];exact Ext.b2 _ _
 have lH:H.length=h.length+2:=by rw[hH];simp
 have C0:H[h.length]?=some (some (a5_.arr 2 [[.ptr r 21 0 0,.ptr o 5 0 0]] false)):=by rw[hH];exact b_z _ _ _
 have C1:H[h.length+1]?=some (some (a5_.arr 17 [m.cells e d] false)):=by rw[hH];exact O1_ _ _ _
 have hx1:=hx.up X1
 have z2:∀m,h.length<=m->¬wA (L m):=λm e=>by rw[hx.ge e];exact wA0
 obtain⟨g,ff,ra⟩:=hx1.r
 have rr:=ra.row
 have rr':=rr
 have C1':=C1
 have rg:=Own.rd _ (F':=λ_=>True) (λ_ _=>trivial) _ ra.go
 have sg:=ra.go.scalar
 simp only[b4_.row]at rr'
 simp only[Msg.cells]at C1' hH
 have gl:=hfit.granted
 simp only[n5_,go_sem,reduceEqDiff,reduceAdd,Msg.cells,he.scalar,hd.scalar]
 rw[<-hH]
 clear hH
 have ex:∀(c:¬R.role=1\/m.ok=false\/m.from_∈R.granted\/R.voter m.from_=false),(RX.voted ⟨R,out⟩ m)=⟨R,out⟩:=λc=>if_pos c
 by_cases c1:R.role=1
 ·simp only[go_sem,reduceEqDiff,reduceAdd,rr',C1',decide_eq_true c1,K_l]
  cases c2:m.ok
  ·simp only[go_sem,reduceEqDiff,K_u]
   rw[ex (.inr (.inl c2))]
   exact XTo.from X1 hx1.to
  ·simp only[go_sem,reduceEqDiff,reduceAdd,rr',C0,C1',c2,K_l]
   refine j4_ u1.1 (u1.2 (λ_=>True) H R.granted g m.from_ rg (by omega)) ?_
   rw[d9_]
   cases c3:decide (m.from_∈R.granted)
   ·simp only[go_sem,reduceEqDiff,reduceAdd,reducePow,reduceDiv,reduceMod,decide_true,rr',C0,C1']
    refine j4_ u2.1 (u2.2 H r R m.from_ ⟨g,ff,rr⟩ (hfit.ofR (by omega)) (hfit.nowFew (by decide))) ?_
    rw[d9_]
    cases c4:R.voter m.from_
    ·simp only[go_sem,reduceEqDiff,reducePow,reduceDiv,reduceMod,decide_true,rr',C0,C1',K_u,c2]
     rw[ex (.inr (.inr (.inr c4)))]
     exact XTo.from X1 hx1.to
    ·have n4:¬(¬R.role=1\/m.ok=false\/m.from_∈R.granted\/R.voter m.from_=false):=by
      rintro (z | z | z | z)
      ·exact z c1
      ·rw[c2]at z;cases z
      ·simp at c3;exact c3 z
      ·rw[c4]at z;cases z
     have ev:(RX.voted ⟨R,out⟩ m)=(let y:RX:=⟨{R with granted:=R.granted++[m.from_]},out⟩;if y.r.now.won y.r.granted then y.lead else y):=if_neg n4
     rw[ev]
     clear ex ev
     have R3:∀b,(H++[b])[r]?=_:=λb=>(Ext.b1 b).get rr'
     have D0:∀b,(H++[b])[h.length]?=_:=λb=>(Ext.b1 b).get C0
     have D1:∀b,(H++[b])[h.length+1]?=_:=λb=>(Ext.b1 b).get C1'
     have NR:∀s sz i o' n,s<H.length->f0_ H.length n (.ptr s sz i o')=true:=λs sz i o' n hs=>d6_ hs
     have N1:∀sz i o',f0_ (h.length+1+1) 1 (.ptr r sz i o')=true:=λsz i o'=>d6_ (by omega)
     have N2:∀sz i o',f0_ (h.length+1+1) 1 (.ptr h.length sz i o')=true:=λsz i o'=>d6_ (by omega)
     have N3:∀sz i o',f0_ (h.length+1+1) 1 (.ptr (h.length+1) sz i o')=true:=λsz i o'=>d6_ (by omega)
     simp only[go_sem,reduceEqDiff,reduceAdd,reducePow,reduceDiv,reduceMod,decide_true,i3_,rr',C0,C1',K_l,c2,R3,D0,D1,lH,N1,N2,N3]
     have eset:∀b,(H++[none]).set (h.length+2) b=H++[b]:=λb=>by rw[K_n _ _ (by omega),lH];simp
     rw[eset]
     obtain⟨g',H',s1,s2,s3,s4,s5,s6,s7,s8⟩:=XTo.addG (n:=m.from_) (hx1.to (W:=wA)) rr (Ext.b1 (some (a5_.arr 1 [[.int .i64 m.from_]] false))) (λ_ z=>z) (by omega)
     rw[<-c6_ (l4_ H 1 [_] false (some 1) (len:=1) rfl),lH]at s1
     rw[s1]
     obtain⟨R',hR'⟩:∃R':b4_,R'={R with granted:=R.granted++[m.from_]}:=⟨_,rfl⟩
     have fit':R'.fit (k+1):=by
      rw[hR']
      obtain⟨g1,g2,g3,g4,g5,g6,g7,g8,g9,g10,g11,g12,g13,g14,g15⟩:=hfit.mono (M_s k)
      exact⟨g1,g2,g3,g4,g5,g6,g7,g8,g9,g10,g11,g12,by show (R.granted++[m.from_]).length<=k+1+1;simp;omega,g14,g15⟩
     have eg':R'.granted=R.granted++[m.from_]:=by rw[hR']
     have zrow:∀g f,R'.row g f=R.row g f:=λg f=>by rw[hR'];rfl
     have K0:=(s4 h.length (hx.ge (J_4 _)) (.inl (by omega)) (by simp;omega)).trans (D0 _)
     have K1:=(s4 (h.length+1) (hx.ge (by omega)) (.inl (by omega)) (by simp;omega)).trans (D1 _)
     have b2:=x3_ H (some (a5_.arr 1 [[.int .i64 m.from_]] false))
     rw[lH]at b2
     have K2:=(s4 (h.length+2) (hx.ge (by omega)) (.inr (by omega)) (by simp[lH])).trans b2
     have lr5:=(J_w.1 s5).1
     have s5':=s5
     simp only[b4_.row]at s5'
     have w1:(h.length=r)=False:=eq_false (by omega)
     have w2:(r=h.length)=False:=eq_false (by omega)
     have w3:(h.length+2=r)=False:=eq_false (by omega)
     have w4:(r=h.length+2)=False:=eq_false (by omega)
     have w5:(r=h.length+1)=False:=eq_false (by omega)
     have w6:(h.length+1=r)=False:=eq_false (by omega)
     rw[<-hR']at s8
     have l8:r<H'.length:=lr5
     have r8:(H'.set r (some (.arr 21 [R'.row g' ff] false)))[r]?=some (some (.arr 21 [R'.row g' ff] false)):=J_0 l8
     have g8:Rd (λm=>m≠r) (H'.set r (some (.arr 21 [R'.row g' ff] false))) (b1_ R'.granted) g':=by
      rw[eg']
      obtain⟨L8,x8,-⟩:=s8
      obtain⟨g9,f9,ra9⟩:=x8.r
      have:=ra9.row.symm.trans r8
      simp only[Option.some.injEq,a5_.arr.injEq,List.cons.injEq,b4_.row]at this
      obtain⟨-,⟨⟨-,-,-,-,-,-,-,-,-,-,-,-,-,-,-,-,-,rfl,-⟩,-⟩,-⟩:=this
      rw[<-eg']
      exact Own.rd _ (λm hm=>by rintro rfl;rw[ra9.lr]at hm;omega) _ ra9.go
     have E0:=s8.keep (z2 _ (J_4 _)) (λz=>z) C0
     have E1:=s8.keep (z2 _ (by omega)) (λz=>z) C1'
     rw[zrow]at s8 r8 g8 E0 E1
     have r8':=r8
     simp only[b4_.row]at s8 r8' g8 E0 E1
     have ez:(let y:RX:=⟨{R with granted:=R.granted++[m.from_]},out⟩;if y.r.now.won y.r.granted then y.lead else y)=if R'.now.won R'.granted then RX.lead ⟨R',out⟩ else ⟨R',out⟩:=by rw[hR']
     rw[ez]
     simp only[go_sem,reduceEqDiff,reduceAdd,reduceLeDiff,reducePow,reduceDiv,reduceMod,decide_true,i3_,K0,K1,K2,s5',s2,b5_ s2,w2,w4,w5,lr5,Bool.true_or,J_2]
     generalize H'.set r _=H2 at *
     refine j4_ u3.1 (u3.2 H2 r R' s8.rowR (fit'.ofR (by omega))) ?_
     rw[d9_]
     simp only[go_sem,reduceEqDiff,reducePow,reduceDiv,reduceMod,decide_true,E0,r8',e3_.v_eq]
     refine j4_ u4.1 (u4.2 nof _ H2 R'.now R'.granted _ _ (M8_ R'.now H2) g8 (fit'.nowFew (by decide)) (by rw[eg'];simp;omega)) ?_
     rw[d9_]
     cases cw:R'.now.won R'.granted
     ·simp only[go_sem,reduceEqDiff,reducePow,reduceDiv,reduceMod,decide_true,E0,r8',K_b,if_false]
      exact XTo.from X1 s8
     ·simp only[go_sem,reduceEqDiff,reduceAdd,reduceLeDiff,reducePow,reduceDiv,reduceMod,decide_true,E0,r8',if_true]
      have ld:=XTo.callM (Q':=nof) s8 (Ext.refl _ _) (λ_ _ y=>y) λL1 x1=>u5.2 L1 H2 r o _ (k+1) j x1 fit' hk (RX.few.mono (x:=⟨R',out⟩) hj (J_4 _)) hj2
      refine a1_ ⟨u5.1,ld⟩ ?_
      intro _ H3 T3
      simp only[go_sem]
      exact XTo.from X1 T3
   ·simp only[go_sem,reduceEqDiff,reducePow,reduceDiv,reduceMod,decide_true,rr',C0,C1',c2]
    rw[ex (.inr (.inr (.inl (by simpa using c3))))]
    exact XTo.from X1 hx1.to
 ·simp only[go_sem,reduceEqDiff,rr',decide_eq_false c1,K_u]
  rw[ex (.inl c1)]
  exact XTo.from X1 hx1.to
def Z1_ (P:Program)(f:FuncId):Prop:=f2_ P f=true/\∀(L:Nat->Nat)(h:a0_)(r o:Nat)(x:RX)(j:Nat)(m:Msg)(a:List AV)(G:Nat->Prop)(ok:Bool)(index:Int),XAt L h r o x->x.few j->j<2^20->RdL G h m.c a->
 a6_ P f [.agg [.ptr r 21 0 0,.ptr o 5 0 0],.agg a,.bool ok,.int .i64 index] h λ_ h'=>XTo wO nof L h r o (x.answer m ok index) h'
theorem p_f {P:Program}{f f1:FuncId}(hf:Is P f (l7_ f1))(u1:d_4 P f1):Z1_ P f:=by
 refine⟨hf.2,λL h r o x j m a G ok index hx hj hj2 hr=>a4_ hf.1 (J_y rfl) ?_⟩
 show vc P (l7_ f1).code ⟨[(0,.agg [.ptr r 21 0 0,.ptr o 5 0 0]),(1,.agg a),(2,.bool ok),(3,.int .i64 index)],[],h⟩ (b2_ (l7_ f1).res _)
 obtain⟨e,d,rfl,he,hd⟩:=G4_ hr
 simp only[l7_,go_sem,reduceEqDiff,reduceAdd,reduceLeDiff,Msg.cells,he.scalar,hd.scalar]
 obtain⟨H,hH⟩:∃H,H=h++[some (a5_.arr 2 [[.ptr r 21 0 0,.ptr o 5 0 0]] false)]++[some (a5_.arr 17 [m.cells e d] false)]:=⟨_,rfl⟩
 have X1:Ext nof h H:=by rw[hH];exact Ext.b2 _ _
 simp only[Msg.cells]at hH
 rw[<-hH]
 have sd:=u1.2 nof L H r o x {Msg.zero with kind:=4,to:=m.from_,ok:=ok,index:=index,round:=m.round} .nils .nils (hx.up X1) (Own.nils 3) (Own.nils 1) (λ_ z=>z.elim) (m_m hj.1 hj2 168 (by omega))
 refine a1_ ⟨u1.1,sd⟩ ?_
 intro _ H2 T2
 simp only[go_sem]
 exact XTo.from X1 T2
theorem XTo.setW {W:Nat->Prop}{L h r o R out H g f}(T:XTo W nof L h r o ⟨R,out⟩ H) (row:H[r]?=some (some (.arr 21 [R.row g f] false))) (hW:∀k,k≠0->W k) {i:Nat} (hi:i<R.flows.length):
  ∃n j rw gr,q9_ 4 f (.int .i64 i)=some (.ptr n 4 j 0)/\H[n]?=some (some (.arr 4 rw gr))/\rw[j]?=some (R.flows[i]).cells/\n≠r/\n<H.length/\(∀m,L m=0->m<h.length\/H.length<=m->m≠n) /\
   ∀w:j2_,XTo W nof L h r o ⟨{R with flows:=R.flows.set i w},out⟩ (H.set n (some (.arr 4 (rw.set j w.cells) gr))):=by
 obtain⟨L1,x1,l1,e1'⟩:=T
 obtain⟨g1,f1,ra⟩:=x1.r
 obtain⟨ma,ca,aa,oa⟩:=x1.o
 have:=ra.row.symm.trans row
 simp only[Option.some.injEq,a5_.arr.injEq,List.cons.injEq,b4_.row]at this
 obtain⟨-,⟨⟨-,-,-,-,-,-,-,-,-,-,-,-,-,-,-,-,-,rfl,rfl,-⟩,-⟩,-⟩:=this
 obtain⟨n,off,rw,gr,cs,len,cap,e1,hn,ix,hrow,hcs,hd,wr⟩:=g_g (j:=i) (d0:=(R.flows[i]).c) ra.fo (by rw[K_s,J_5 hi];rfl)
 have ecs:cs=(R.flows[i]).cells:=g_b (g2_.rd _ (F':=λ_=>True) (λ_ _=>trivial) _ hd)
 subst ecs
 have hlt:=(J_w.1 hrow).1
 have ne:∀m,L1 m≠2->m≠n:=λm hm e=>hm (e▸hn)
 refine⟨n,off+i,rw,gr,ix,hrow,hcs,λe=>by rw[e,ra.lr]at hn;omega,hlt,λm h0 hm=>?_,λw=>?_⟩
 ·rcases hm with hm | hm
  ·exact ne m (by rw[l1 m hm (.inr (λz=>z)),h0];omega)
  ·omega
 ·have st:∀m,L1 m≠2->(H.set n (some (.arr 4 (rw.set (off+i) w.cells) gr)))[m]?=H[m]?:=λm hm=>J_x (λe=>ne m hm e.symm)
  have hown:=wr (λm=>L1 m=2) H w.c w.cells (λ_ z=>z) (λ_ _ _ y=>y) rfl (by simp only[j2_.c,j2_.cells,g2_,Own];exact⟨_,_,rfl,rfl,_,_,rfl,rfl,_,_,rfl,rfl,_,_,rfl,rfl,rfl⟩)
  refine XTo.trans1 l1 e1' (λ_ _ y=>y) ⟨L1,⟨⟨g1,f1,(st r (by rw[ra.lr];omega)).trans ra.row,?_,?_,?_,?_,ra.lr⟩,⟨ma,ca,aa,oa.keep (λ_ _ _=>rfl) λm hm c=>st m (by omega)⟩,λm hm=>by rw[J_2];exact x1.lt m hm⟩,λ_ _ _=>rfl,Ext.set _ λ_=>.inl (hW _ (by rw[hn];omega))⟩
  ·exact Own.mono _ (λ_ y=>y) (λm hm y hy=>(st m (by omega)).trans hy) _ ra.go
  ·exact ra.gc.keep ra.go (λm hm y hy=>(st m (by omega)).trans hy)
  ·show Own (.sl 4 ((R.flows.set i w).map j2_.c)) _ _ _
   rw[List.map_set]
   exact hown
  ·have hc:=ra.fc
   subst e1
   obtain⟨row',g',hr',h1,h2⟩:=hc
   rw[hrow]at hr'
   simp only[Option.some.injEq,a5_.arr.injEq,true_and]at hr'
   obtain⟨rfl,rfl⟩:=hr'
   exact⟨_,_,J_0 hlt,h1,λc hc=>by rw[J_2];exact h2 c hc⟩
theorem m_d {P:Program}{f:FuncId}(hf:Is P f h8_){h:a0_}{n:Nat}{m:Msg}{e d:AV} (hq:h[n]?=some (some (.arr 17 [m.cells e d] false))) (w:j2_):
  a6_ P f [.agg w.cells,.ptr n 17 0 0] h λr h'=>r=.bool (decide (w.node=m.from_))/\h'=h:=by
 refine obs (t9_ _ _) (a4_ hf.1 (J_y rfl) ?_)
 show vc P h8_.code ⟨[(0,.agg w.cells),(1,.ptr n 17 0 0)],[],h⟩ (b2_ h8_.res _)
 have hq2:∀b,(h++[b])[n]?=_:=λb=>(Ext.b1 b).get hq
 simp only[Msg.cells]at hq2
 simp only[h8_,j2_.cells,go_sem,reduceEqDiff,reduceAdd,hq2]
 exact Ext.b1 _
theorem j2_.well.heard {w:j2_}(h:w.well)(m:Msg)(hi:0<=m.index/\m.index<=2^40):(w.heard m).well:=by
 obtain⟨h1,⟨h2,h3⟩,h4,h5⟩:=h
 unfold j2_.heard
 split
 ·split
  ·exact⟨h1,⟨by show 0<=max w.next (max w.mat m.index+1);omega,by show max w.next (max w.mat m.index+1)<=_;omega⟩,by show 0<=max w.mat m.index;omega,by show max w.mat m.index<=_;omega⟩
  ·exact⟨h1,⟨by show 0<=max (w.mat+1) (min (w.next-1) (m.index+1));omega,by show max (w.mat+1) (min (w.next-1) (m.index+1))<=_;omega⟩,h4,h5⟩
 ·exact⟨h1,⟨h2,h3⟩,h4,h5⟩
theorem b4_.fit.setFlow {k:Nat}{x:b4_}(h:x.fit k)(i:Nat){w:j2_}(hw:w.well):({x with flows:=x.flows.set i w}:b4_).fit k:=by
 obtain⟨g1,g2,g3,g4,g5,g6,g7,g8,g9,g10,g11,g12,g13,g14,g15⟩:=h
 refine⟨g1,g2,g3,g4,g5,g6,g7,g8,g9,g10,g11,g12,g13,⟨by show (x.flows.set i w).length<=21;rw[J_2];exact g14.1,λy hy=>?_⟩,g15⟩
 rcases List.mem_or_eq_of_mem_set hy with z | z
 ·exact g14.2 y z
 ·rw[z];exact hw
def h_i (P:Program)(f:FuncId):Prop:=f2_ P f=true/\∀(L:Nat->Nat)(h:a0_)(r o:Nat)(x:RX)(k j:Nat)(m:Msg)(a:List AV),XAt L h r o x->x.r.fit k->k<=2^28->x.few j->j<2^20->O5_ L h m a->0<=m.index/\m.index<=2^40->
 a6_ P f [.agg [.ptr r 21 0 0,.ptr o 5 0 0],.agg a] h λ_ h'=>XTo wA nof L h r o (x.heard m) h'
theorem r_8 {P:Program}{f f1 f2 f3 f4 f5 f6:FuncId}(hf:Is P f (n7_ f1 f2 f3 f4 f5 f6))(u1:Is P f1 h8_)(u2:L2_ P f2)(u3:m_6 P f3)(u4:O3_ P f4)(u5:L1_ P f5)(u6:B_r P f6):h_i P f:=by
 refine⟨hf.2,λL h r o x k j m a hx hfit hk hj hj2 hm hmi=>a4_ hf.1 (J_y rfl) ?_⟩
 show vc P (n7_ f1 f2 f3 f4 f5 f6).code ⟨[(0,.agg [.ptr r 21 0 0,.ptr o 5 0 0]),(1,.agg a)],[],h⟩ (b2_ (n7_ f1 f2 f3 f4 f5 f6).res _)
 obtain⟨G,hr,h0⟩:=id hm
 obtain⟨e,d,rfl,he,hd⟩:=G4_ hr
 have ap:=hx.apart
 obtain⟨R,out⟩:=x
 simp only at hfit
 obtain⟨H,hH⟩:∃H,H=h++[some (a5_.arr 2 [[.ptr r 21 0 0,.ptr o 5 0 0]] false)]++[some (a5_.arr 17 [m.cells e d] false)]:=⟨_,rfl⟩
 have X1:Ext nof h H:=by rw[hH];exact Ext.b2 _ _
 have lH:H.length=h.length+2:=by rw[hH];simp
 have C0:H[h.length]?=some (some (a5_.arr 2 [[.ptr r 21 0 0,.ptr o 5 0 0]] false)):=by rw[hH];exact b_z _ _ _
 have C1:H[h.length+1]?=some (some (a5_.arr 17 [m.cells e d] false)):=by rw[hH];exact O1_ _ _ _
 have hx1:=hx.up X1
 have z2:∀m,h.length<=m->¬wA (L m):=λm e=>by rw[hx.ge e];exact wA0
 obtain⟨g,ff,ra⟩:=hx1.r
 have rr:=ra.row
 have rr':=rr
 have C1':=C1
 have rf:=Own.rd _ (F':=λm=>L m=2) (λ_ y=>y) _ ra.fo
 have hfl:=hfit.flows
 simp only[b4_.row]at rr'
 simp only[Msg.cells]at C1' hH
 simp only[n7_,go_sem,reduceEqDiff,reduceAdd,Msg.cells,he.scalar,hd.scalar]
 rw[<-hH]
 clear hH
 simp only[go_sem,reduceEqDiff,rr']
 refine j4_ u2.1 (u2.2 _ H R.flows ff f1 [] [.ptr (h.length+1) 17 0 0] (λw=>decide (w.node=m.from_)) rf (by omega) u1.2 (λw _=>m_d u1 C1 w)) ?_
 by_cases c1:R.role=2
 ·cases c2:t_1 R.flows m.from_ with
  | none=>
   have e1:(RX.heard ⟨R,out⟩ m)=⟨R,out⟩:=by unfold RX.heard;rw[if_neg (by simpa using c1)];simp only[c2]
   rw[e1,U5_ c2]
   have zn:(-1:Int)<0:=by omega
   simp only[go_sem,reduceEqDiff,reduceAdd,rr',C0,decide_eq_true c1,K_l,decide_eq_true zn]
   exact XTo.from X1 hx1.to
  | some i=>
   obtain⟨e1,hi⟩:=U4_ (k:=0) c2
   rw[M_f]at e1
   rw[e1]
   have zn:¬(i:Int)<0:=by omega
   have eh:(RX.heard ⟨R,out⟩ m)=(let f:=(R.flows[i]).heard m
    let y:RX:=⟨{R with flows:=R.flows.set i f},out⟩
    let z:=if m.ok then y.settle else y
    if m.ok=false\/f.next<=z.r.last then z.to f else z):=by
    unfold RX.heard;rw[if_neg (by simpa using c1)];simp only[c2,J_5 hi,K_v]
   obtain⟨n,jj,rw,gr,w1,w2,w3,w4,w5,w6,w7⟩:=XTo.setW (hx1.to (W:=wA)) rr (λ_ z=>z) hi
   have ww:=(hfl.2 _ (K_1 hi)).heard m hmi
   have ws:=hfl.2 _ (K_1 hi)
   rw[eh]
   clear eh
   generalize R.flows[i]=w at *
   have pc:n3_ H (.ptr n 4 jj 0)=some w.cells:=by simp[n3_,w2,w3]
   have R3:∀b,(H++[b])[r]?=_:=λb=>(Ext.b1 b).get rr'
   have D0:∀b,(H++[b])[h.length]?=_:=λb=>(Ext.b1 b).get C0
   have D1:∀b,(H++[b])[h.length+1]?=_:=λb=>(Ext.b1 b).get C1'
   have D2:∀b,(H++[b])[n]?=_:=λb=>(Ext.b1 b).get w2
   have N1:∀sz i o',f0_ (h.length+1+1) 1 (.ptr r sz i o')=true:=λsz i o'=>d6_ (by omega)
   have N2:∀sz i o',f0_ (h.length+1+1) 1 (.ptr h.length sz i o')=true:=λsz i o'=>d6_ (by omega)
   have N3:∀sz i o',f0_ (h.length+1+1) 1 (.ptr (h.length+1) sz i o')=true:=λsz i o'=>d6_ (by omega)
   have N4:∀sz i o',f0_ (h.length+1+1) 1 (.ptr n sz i o')=true:=λsz i o'=>d6_ (by omega)
   have ld:∀b,o5_ (H++[b]) true 4 (.ptr n 4 jj 0)=some (.agg w.cells):=λb=>by rw[n2_ (cs:=w.cells) (by simp[n3_,D2,w3])];rfl
   have eset:∀a b,(H++[a]).set (h.length+2) b=H++[b]:=λa b=>by rw[K_n _ _ (by omega),lH];simp
   simp only[j2_.cells]at ld
   simp only[go_sem,reduceEqDiff,reduceAdd,reduceLeDiff,reducePow,reduceDiv,reduceMod,i3_,rr',C0,decide_eq_true c1,K_l,decide_eq_false zn,R3,D0,D1,lH,N1,N2,N3,N4,w1,ld,eset]
   have hrd:∀b,RdL G (H++[b]) m.c (m.cells e d):=λb=>RdL.mono (λ_ y=>y) ((X1.tr (Ext.b1 b)).keep _) _ _ hr
   have hc:=u3.2 G (H++[none]) w m _ (hrd none) ws.placed hmi
   simp only[Msg.cells,j2_.cells]at hc
   refine j4_ u3.1 hc ?_
   have q0:(h.length=h.length+2)=False:=eq_false (by omega)
   have q1:(h.length+2=h.length)=False:=eq_false (by omega)
   have q2:(h.length+1=h.length+2)=False:=eq_false (by omega)
   have q3:(h.length+2=h.length+1)=False:=eq_false (by omega)
   have q4:(r=h.length+2)=False:=eq_false (by omega)
   have q5:(h.length+2=r)=False:=eq_false (by omega)
   have q6:(n=h.length+2)=False:=eq_false (by omega)
   have q7:(h.length+2=n)=False:=eq_false (by omega)
   have b2:∀b,(H++[b])[h.length+2]?=some b:=λb=>by rw[<-lH];exact x3_ H b
   have ix2:∀b,((q9_ 4 ff (.int .i64 i)).bind λp=>o5_ (H++[b]) true 4 p)=some (.agg w.cells):=λb=>by rw[w1];exact ld b
   simp only[go_sem,reduceEqDiff,reduceAdd,reduceLeDiff,reducePow,reduceDiv,reduceMod,decide_true,i3_,R3,D0,D1,D2,lH,w1,ld,eset,b2,Bool.or_true,Bool.true_or,J_z]
   have ljj:=(J_w.1 w3).1
   have emod:(rw.modify jj λx=>(((x.set 0 (AV.int IntKind.i64 (w.heard m).node)).set 1 (AV.int IntKind.i64 (w.heard m).next)).set 2 (AV.int IntKind.i64 (w.heard m).mat)).set 3 (AV.int IntKind.i64 (w.heard m).round))=rw.set jj (w.heard m).cells:=by
    apply K_0
    intro q
    rw[M_j,L_t]
    by_cases c:jj=q
    ·subst c
     have w3g:rw[jj]=w.cells:=by have:=w3;rw[J_5 ljj]at this;exact Option.some.inj this
     simp[ljj,w3g,j2_.cells]
    ·simp[c]
   rw[if_pos ljj,emod]
   have T1:=w7 (w.heard m)
   obtain⟨F,hF⟩:∃F,F=w.heard m:=⟨_,rfl⟩
   rw[<-hF]at T1 ww ⊢
   have sA:∀v b,(H++[b]).set n v=H.set n v++[b]:=λv b=>J_6 _ _ w5
   rw[sA]
   obtain⟨L1,x0,l1,e1⟩:=T1
   have z1:∀m,h.length<=m->¬wA (L1 m):=λm hm=>by
    by_cases c:m<H.length
    ·rw[l1 m c (.inr (λz=>z))];exact z2 m hm
    ·rw[x0.ge (by rw[J_2];omega)];exact wA0
   have x1:=x0.up (Ext.b1 (some (a5_.arr 4 [F.cells] false)))
   have e3:=e1.trans (Ext.b1 (some (a5_.arr 4 [F.cells] false))) (F'':=λm=>wA (L m)\/nof m) (λ_ _ z=>z) (λ_ _ z=>z.elim)
   have T2:=XTo.trans1 l1 e3 (λ_ _ y=>y) (x1.to (W:=wA) (Q:=nof))
   have fit2:({R with flows:=R.flows.set i F}:b4_).fit k:=hfit.setFlow i ww
   have K0:=T2.keep (z2 _ (J_4 _)) (λy=>y) C0
   have K1:=T2.keep (z2 _ (by omega)) (λy=>y) C1'
   have K2:(H.set n (some (.arr 4 (rw.set jj F.cells) gr))++[some (a5_.arr 4 [F.cells] false)])[h.length+2]?=some (some (a5_.arr 4 [F.cells] false)):=by
    have:=x3_ (H.set n (some (.arr 4 (rw.set jj F.cells) gr))) (some (a5_.arr 4 [F.cells] false))
    rw[J_2,lH]at this;exact this
   simp only[j2_.cells]at K0 K1 K2 T2 x1 e3 ⊢
   clear T2
   generalize hH3:(H.set n _++_:a0_)=H3 at *
   simp only[go_sem,reduceEqDiff,reduceAdd,reducePow,reduceDiv,reduceMod,decide_true]
   obtain⟨g3,ff3,rr3⟩:=x1.rowR
   have rr3':=rr3
   simp only[b4_.row]at rr3'
   clear ix2 sA eset emod
   have toE:∀(H4:a0_)(y:RX),y.few j->y.r.hard=R.hard->XTo wA nof L1 H3 r o y H4->a6_ P f6 [.agg [.ptr r 21 0 0,.ptr o 5 0 0],.agg F.cells] H4 λ_ h'=>XTo wA nof L1 H3 r o (y.to F) h':=λH4 y yf yh T=>
    XTo.callM (Q':=nof) T (Ext.refl _ _) (λ_ _ y=>y) λL1 x1=>(u6.2 L1 H4 r o y F x1 ww.placed (by rw[yh];exact hfit.hard hk) (m_m yf.1 hj2 168 (by omega))).mono λ_ _ b=>b.weakW Z6_
   simp only[j2_.cells]at toE
   have fin:∀{y H4},XTo wA nof L1 H3 r o y H4->XTo wA nof L h r o y H4:=λT=>XTo.from X1 (XTo.trans1 l1 e3 (λ_ _ y=>y) T)
   have yf:(⟨{R with flows:=R.flows.set i F},out⟩:RX).few j:=hj
   cases c3:m.ok
   ·simp only[go_sem,reduceEqDiff,reduceAdd,reduceLeDiff,K0,K1,K2,c3,K_u,true_or,if_true,K_b,if_false]
    refine a1_ ⟨u6.1,toE H3 _ yf rfl x1.to⟩ ?_
    intro _ H4 T4
    simp only[go_sem]
    exact fin T4
   ·simp only[go_sem,reduceEqDiff,reduceAdd,reduceLeDiff,K0,K1,c3,if_true,Bool.true_eq_false,false_or]
    have st:=u4.2 L1 H3 r o _ k x1 fit2 hk
    refine a1_ ⟨u4.1,st⟩ ?_
    intro _ H4 T4
    have M0:=T4.keep (z1 _ (J_4 _)) (λy=>y) K0
    have M1:=T4.keep (z1 _ (by omega)) (λy=>y) K1
    have M2:=T4.keep (z1 _ (by omega)) (λy=>y) K2
    have fit4:(RX.settle ⟨{R with flows:=R.flows.set i F},out⟩).r.fit k:=fit2.settle
    have hard4:(RX.settle ⟨{R with flows:=R.flows.set i F},out⟩).r.hard=R.hard:=by
     show (b4_.settle _).hard=_;unfold b4_.settle;split<;>rfl
    have yf4:(RX.settle ⟨{R with flows:=R.flows.set i F},out⟩).few j:=hj
    generalize (RX.settle ⟨{R with flows:=R.flows.set i F},out⟩)=y at *
    simp only[go_sem,reduceEqDiff,reduceAdd,M0,M1,M2,c3,K_l]
    refine j4_ u5.1 (u5.2 H4 r y.r T4.rowR (fit4.logOk hk)) ?_
    rw[d9_]
    by_cases c4:F.next<=y.r.last
    ·rw[if_pos c4]
     simp only[go_sem,reduceEqDiff,reduceAdd,reduceLeDiff,reducePow,reduceDiv,reduceMod,decide_true,M0,M1,M2,c3,decide_eq_true c4]
     refine a1_ ⟨u6.1,toE H4 y yf4 hard4 T4⟩ ?_
     intro _ H5 T5
     simp only[go_sem]
     exact fin T5
    ·rw[if_neg c4]
     simp only[go_sem,reduceEqDiff,reducePow,reduceDiv,reduceMod,decide_true,M0,M1,M2,c3,decide_eq_false c4]
     exact fin T4
 ·have e1:(RX.heard ⟨R,out⟩ m)=⟨R,out⟩:=by unfold RX.heard;rw[if_pos (by simpa using c1)]
  rw[e1]
  simp only[go_sem,reduceEqDiff,reduceAdd,rr',C0,decide_eq_false c1,K_u]
  exact XTo.from X1 hx1.to
end Glb
