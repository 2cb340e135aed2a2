/-
  A library of its own.
-/
import Derived.Test.YtdeiamnhnfmilaaGreatGlbRafD
set_option linter.unusedSimpArgs false
set_option linter.unusedVariables false
set_option maxRecDepth 10000
set_option maxHeartbeats 8000000
open Nat (reduceAdd reduceDiv reduceEqDiff reduceLeDiff reduceMod reducePow)
namespace Glb
open Go
def m_z (P:Program)(f:FuncId):Prop:=f2_ P f=true/\∀(L:Nat->Nat)(h:a0_)(r:Nat)(x:b4_)(k:Nat)(draw:Int),y1_ L h r x->x.fit k->k+2<2^28->
 a6_ P f [.ptr r 21 0 0,.int .i64 draw] h λv h'=>m_2 L h r (x.tick draw) v h'
theorem w_d {P:Program}{f f1 f2 f3 f4 f5 f6 f7:FuncId}(hf:IsD P f (h9_ f1 f2 f3 f4 f5 f6 f7))(u1:e_b P f1)(u2:x_5 P f2)(u3:B_r P f3)(u4:d_9 P f4)(u5:d_1 P f5)(u6:L1_ P f6)(u7:h_e P f7):m_z P f:=by
 refine⟨hf.1,λL h r x k draw hx hfit hk=>f_k hf.2 (J_y rfl) ?_⟩
 show dvc P (h9_ f1 f2 f3 f4 f5 f6 f7).code ⟨[(0,.ptr r 21 0 0),(1,.int .i64 draw)],[],h⟩ (a_9 P (h9_ f1 f2 f3 f4 f5 f6 f7).res _)
 simp only[h9_,go_sem,reduceEqDiff,reduceAdd]
 refine a1_ ⟨u1.1,u1.2 _ r h.length⟩ ?_
 rintro _ H3 ⟨rfl,X3⟩
 simp only[go_sem,reduceEqDiff,reduceAdd,reduceLeDiff]
 obtain⟨H,hH⟩:∃H,H=H3++[some (a5_.arr 2 [[.ptr r 21 0 0,.ptr h.length 5 0 0]] false)]:=⟨_,rfl⟩
 obtain⟨n5,hn5⟩:∃n5,n5=H3.length:=⟨_,rfl⟩
 have l3:=X3.1
 simp only[J_z,List.length_cons,K_d]at l3
 have X:Ext nof h H:=by rw[hH];exact ((Ext.b1 _).tr X3).tr (Ext.b1 _)
 have B1:H[h.length]?=some (some (a5_.arr 5 [[.nils,.nils,.nils,.int .i64 0,.bool false]] false)):=by rw[hH];exact (Ext.b1 _).get (X3.get (x3_ _ _))
 have B5:H[n5]?=some (some (a5_.arr 2 [[.ptr r 21 0 0,.ptr h.length 5 0 0]] false)):=by rw[hH,hn5];exact x3_ _ _
 have n5l:h.length+1<=n5:=by omega
 rw[<-hH,<-hn5]
 clear hH
 have hx0:=hx.begin X B1 (J_4 _)
 have hlr:=hx.lt
 obtain⟨o,ho⟩:∃o,o=h.length:=⟨_,rfl⟩
 obtain⟨L0,hL0⟩:∃L0:Nat->Nat,L0=λm=>if m=o then 7 else L m:=⟨_,rfl⟩
 rw[<-ho]at B1 B5 hx0 ⊢
 rw[<-hL0]at hx0
 have zL:∀n,h.length<=n->n≠o->¬wA (L0 n):=λn hn hno=>by rw[hL0];show ¬wA (if n=o then 7 else L n);rw[if_neg hno,hx.ge hn];exact wA0
 have fin:∀(Le:Env)(H':a0_)(y:RX),x.tick draw=y.ends->y.r.fit (k+2)->lk 4 Le=.ptr o 5 0 0->XTo wA nof L0 H r o y H'->
   p_8 P f2 [.agg [.ptr r 21 0 0,.ptr o 5 0 0]] H' (B_z (h9_ f1 f2 f3 f4 f5 f6 f7).res Le λv h'=>m_2 L h r (x.tick draw) v h'):=by
  intro Le H' y ey yf k4 T
  obtain⟨L1,x1,l1,e1⟩:=T
  refine d_u ⟨u2.1,u2.2 L1 H' r o y (k+2) x1 yf (by omega)⟩ ?_
  intro _ h'' T2
  have T3:=XTo.trans1 l1 e1 (λ_ _ y=>y) T2
  rw[hL0]at T3
  obtain⟨ma,ca,aa,row,s1,s2,s3,out⟩:=T3.out hx X (by omega)
  rw[ey]
  simp only[h9_,go_sem,reduceAdd,reduceLeDiff,k4,row]
  exact out
 simp only[h9_]at fin
 obtain⟨g,ff,rr⟩:=hx0.rowR
 have e1:x.begin.r=x:=rfl
 rw[e1]at rr
 have rr':=rr
 simp only[b4_.row]at rr'
 have lr:=(J_w.1 rr).1
 have w5:(r=n5)=False:=eq_false (by omega)
 have w0:(n5=r)=False:=eq_false (by omega)
 have hb:=hfit.beat
 have he:=hfit.elapsed
 have ewb:IntKind.i64.wrap (x.beat+1)=x.beat+1:=a7_ (by omega)
 have ewe:IntKind.i64.wrap (x.elapsed+1)=x.elapsed+1:=a7_ (by omega)
 simp only[go_sem,reduceEqDiff,rr']
 by_cases c1:x.role=2
 ·simp only[go_sem,reduceEqDiff,reduceAdd,reduceLeDiff,rr',decide_eq_true c1,lr,ewb]
  by_cases c2:2<=x.beat+1
  ·have et:x.tick draw=(({x with beat:=0}:b4_).begin.on).ends:=by unfold b4_.tick;rw[if_pos c1,if_pos c2]
   have T1:=XTo.setR (R:=x) (out:=Rdy.none) (R':={x with beat:=0}) (hx0.to (W:=wA) (Q:=nof)) rr rfl rfl (λ_ z=>z)
   simp only[b4_.row]at T1
   simp only[go_sem,reduceEqDiff,reduceAdd,reduceLeDiff,rr',B5,decide_eq_true c2,lr,w5,L_j]
   have f0:({x with beat:=0}:b4_).fit k:=by
    obtain⟨g1,g2,g3,g4,g5,g6,g7,g8,g9,g10,g11,g12,g13,g14,g15⟩:=hfit
    exact⟨g1,g2,g3,g4,g5,g6,g7,g8,g9,g10,⟨L_e _,by show (0:Int)<=1;omega⟩,g12,g13,g14,g15⟩
   have ech:=XTo.callM (Q':=nof) T1 (Ext.refl _ _) (λ_ _ y=>y) λL1 x1=>(d_q u4 u3 x1 f0 (by omega) (q1_ _) (by omega)).mono λ_ _ b=>b.weakW Z6_
   refine a1_ ⟨u4.1,ech⟩ ?_
   intro _ H4 T4
   simp only[go_sem]
   exact fin _ H4 _ et ((s_x (x:=({x with beat:=0}:b4_).begin) f0 (q1_ _)).1.mono (by omega)) (by simp[a3_]) T4
  ·have et:x.tick draw=(({x with beat:=x.beat+1}:b4_).begin).ends:=by unfold b4_.tick;rw[if_pos c1,if_neg c2]
   have T1:=XTo.setR (R:=x) (out:=Rdy.none) (R':={x with beat:=x.beat+1}) (hx0.to (W:=wA) (Q:=nof)) rr rfl rfl (λ_ z=>z)
   simp only[b4_.row]at T1
   simp only[go_sem,decide_eq_false c2]
   refine fin _ _ _ et ?_ (by simp[a3_]) T1
   obtain⟨g1,g2,g3,g4,g5,g6,g7,g8,g9,g10,g11,g12,g13,g14,g15⟩:=hfit.mono (show k<=k+2 by omega)
   exact⟨g1,g2,g3,g4,g5,g6,g7,g8,g9,g10,⟨by show 0<=x.beat+1;omega,by show x.beat+1<=1;omega⟩,g12,g13,g14,g15⟩
 ·have T1:=XTo.setR (R:=x) (out:=Rdy.none) (R':={x with elapsed:=x.elapsed+1}) (hx0.to (W:=wA) (Q:=nof)) rr rfl rfl (λ_ z=>z)
  have r1:(H.set r (some (.arr 21 [({x with elapsed:=x.elapsed+1}:b4_).row g ff] false)))[r]?=some (some (.arr 21 [({x with elapsed:=x.elapsed+1}:b4_).row g ff] false)):=J_0 lr
  simp only[b4_.row]at T1 r1
  have f1:({x with elapsed:=x.elapsed+1}:b4_).fit (k+1):=by
   obtain⟨g1,g2,g3,g4,g5,g6,g7,g8,g9,g10,g11,g12,g13,g14,g15⟩:=hfit.mono (M_s k)
   exact⟨g1,g2,g3,g4,g5,g6,g7,g8,g9,⟨by show 0<=x.elapsed+1;omega,by show x.elapsed+1<=((k+1:Nat):Int);omega⟩,g11,g12,g13,g14,g15⟩
  simp only[go_sem,reduceEqDiff,reduceAdd,reduceLeDiff,rr',decide_eq_false c1,lr,J_2,ewe]
  have lr1:r<(H.set r (some (.arr 21 [({x with elapsed:=x.elapsed+1}:b4_).row g ff] false))).length:=by rw[J_2];exact lr
  have F5:=T1.keep (zL n5 (by omega) (by omega)) (λz=>z) B5
  obtain⟨s,hs⟩:∃s:b4_,s={x with elapsed:=x.elapsed+1}:=⟨_,rfl⟩
  have et:x.tick draw=(if s.timeout<=s.elapsed/\s.voter s.id=true/\s.hard.term<2^40/\s.last<2^40 then s.begin.stand draw else s.begin).ends:=by rw[hs];unfold b4_.tick;rw[if_neg c1]
  have eq1:s.timeout=x.timeout/\s.elapsed=x.elapsed+1/\s.id=x.id/\s.hard=x.hard:=by rw[hs];exact⟨rfl,rfl,rfl,rfl⟩
  obtain⟨q1,q2,q3,q4⟩:=eq1
  have eb:({r:={x with elapsed:=x.elapsed+1},o:=Rdy.none}:RX)=s.begin:=by rw[hs];rfl
  rw[<-hs]at f1
  rw[eb]at T1
  generalize hH1:H.set r _=H1 at *
  have rw1:x_3 H1 r s:=T1.rowR
  have no:¬(s.timeout<=s.elapsed/\s.voter s.id=true/\s.hard.term<2^40/\s.last<2^40)->x.tick draw=s.begin.ends:=λc=>by rw[et,if_neg c]
  have eL:(2:Int)^40=1099511627776:=by decide
  rw[q1,q2,q3,q4,eL]at no et
  by_cases c2:x.timeout<=x.elapsed+1
  ·simp only[go_sem,reduceEqDiff,r1,decide_eq_true c2]
   refine j4_ u5.1 (u5.2 H1 r s x.id rw1 (f1.ofR (by omega)) (f1.nowFew (by decide))) ?_
   rw[d9_]
   cases c3:s.voter x.id
   ·simp only[go_sem,reduceEqDiff,reducePow,reduceDiv,reduceMod,decide_true,r1]
    exact fin _ H1 _ (no (λz=>by rw[c3]at z;cases z.2.1)) (f1.mono (by omega)) (by simp[a3_]) T1
   ·simp only[go_sem,reduceEqDiff,reduceAdd,reducePow,reduceDiv,reduceMod,decide_true,r1]
    by_cases c4:x.hard.term<1099511627776
    ·simp only[go_sem,reduceEqDiff,decide_eq_true c4]
     refine j4_ u6.1 (u6.2 H1 r s rw1 (f1.logOk (by omega))) ?_
     rw[d9_]
     by_cases c5:s.last<1099511627776
     ·rw[if_pos ⟨c2,c3,c4,c5⟩]at et
      simp only[go_sem,reduceEqDiff,reduceAdd,reduceLeDiff,reducePow,reduceDiv,reduceMod,decide_true,r1,F5,decide_eq_true c5]
      have st:=XTo.callM (Q':=nof) T1 (Ext.refl _ _) (λ_ _ y=>y) λL1 x1=>u7.2 L1 H1 r o s.begin (k+1) 0 draw x1 f1 (by omega) (q1_ _) (by omega) (by show s.hard.term<2^40;rw[q4,eL];exact c4)
      refine a1_ ⟨u7.1,st⟩ ?_
      intro _ H4 T4
      simp only[go_sem]
      exact fin _ H4 _ et ((i_e (x:=s.begin) f1 (by omega) (q1_ _) (by show s.hard.term<2^40;rw[q4,eL];exact c4) draw).1) (by simp[a3_]) T4
     ·simp only[go_sem,reduceEqDiff,reducePow,reduceDiv,reduceMod,decide_true,r1,decide_eq_false c5]
      exact fin _ H1 _ (no (λz=>c5 z.2.2.2)) (f1.mono (by omega)) (by simp[a3_]) T1
    ·simp only[go_sem,reduceEqDiff,decide_eq_false c4]
     exact fin _ H1 _ (no (λz=>c4 z.2.2.1)) (f1.mono (by omega)) (by simp[a3_]) T1
  ·simp only[go_sem,reduceEqDiff,decide_eq_false c2]
   exact fin _ H1 _ (no (λz=>c2 z.1)) (f1.mono (by omega)) (by simp[a3_]) T1
theorem v_7 {h:a0_}{n:Nat}{v:Option a5_} (hn:h[n]?=some v):h.set n v=h:=by
 apply K_0
 intro i
 rw[L_t]
 have:=(J_w.1 hn).1
 split
 ·rename_i e;subst e;first | exact hn.symm | (rw[if_pos this];exact hn.symm)
 ·rfl
theorem XTo.outS {L h r x h0 o X h' n}(a:y1_ L h r x)(hx:Ext nof h h0)(hlo:h.length<=o)(T:XTo wA nof (λm=>if m=o then 7 else L m) h0 r o X h')(hn:h.length<=n/\n<h0.length)(hno:n≠o):
  ∃ma ca aa,h'[o]?=some (some (.arr 5 [[ma,ca,aa,.int .i64 X.o.first,.bool X.o.restore]] false))/\ma.scalar=true/\ca.scalar=true/\aa.scalar=true/\∀b:Option a5_,m_2 L h r X (.agg [ma,ca,aa,.int .i64 X.o.first,.bool X.o.restore]) (h'.set n b):=by
 obtain⟨L1,x1,l1,e1⟩:=T
 obtain⟨ma,ca,aa,oa⟩:=x1.o
 obtain⟨g,f,ra⟩:=x1.r
 have hl:=hx.1
 have e:∀m,m<h.length->(if m=o then 7 else L m)=L m:=λm hm=>if_neg (by omega)
 have hn0:L1 n=0:=by
  rw[l1 n hn.2 (.inr (λz=>z))]
  show (if n=o then 7 else L n)=0
  rw[if_neg hno,a.ge hn.1]
 have ne:∀(b:Option a5_)(m:Nat),L1 m≠0->(h'.set n b)[m]?=h'[m]?:=λb m hm=>J_x (by rintro rfl;exact hm hn0)
 refine⟨ma,ca,aa,oa.row,oa.m.scalar,oa.c.scalar,oa.a.scalar,λb=>⟨L1,o,ma,ca,aa,rfl,⟨g,f,ra.keep (λ_ _ _=>rfl) λm _ hm=>ne b m (by omega)⟩,oa.keep (λ_ _ _=>rfl) (λm _ hm=>ne b m (by omega)),λm hm=>by rw[J_2];exact x1.lt m hm,hlo,λm hm=>(l1 m (by omega) (.inr (λz=>z))).trans (e m hm),?_⟩⟩
 refine⟨by rw[J_2];have:=e1.1;omega,λm hm hw=>(J_x (by omega)).trans ((e1.2 m (by omega) ?_).trans (hx.2 m hm (λz=>z)))⟩
 rintro (z | z)
 ·exact hw (by have z':wA (if m=o then 7 else L m):=z;rw[e m hm]at z';exact z')
 ·exact z
def D_l (L:Nat->Nat)(h:a0_)(d:D)(a:AV):Prop:=∃G:Nat->Prop,Rd G h d a/\∀n,G n->L n=0/\n<h.length
def a_y (P:Program)(f:FuncId):Prop:=f2_ P f=true/\∀(L:Nat->Nat)(h:a0_)(r:Nat)(x:b4_)(k:Nat)(kind:Int)(data:List Int)(d:AV),y1_ L h r x->x.fit k->k+1<2^28->D_l L h (b3_ data) d->c2_ data/\data.length<=2^16->e2_ kind->
 a6_ P f [.ptr r 21 0 0,.int .i64 kind,d] h λv h'=>∃w,v=.tup [.int .i64 (x.propose kind data).1,w,.int .i64 (x.propose kind data).2.2]/\m_2 L h r (x.propose kind data).2.1 w h'
theorem l_f {P:Program}{f f1 f2 f3 f4 f5 f6 f7 f8:FuncId}(hf:Is P f (b6_ f1 f2 f3 f4 f5 f6 f7 f8))(u1:h_m P f1)(u2:L1_ P f2)(u3:e_b P f3)(u4:o_b P f4)(u5:B_r P f5)(u6:d_9 P f6)(u7:O3_ P f7)(u8:v_c P f8):a_y P f:=by
 refine⟨hf.2,λL h r x k kind data d hx hfit hk hd hdata hkind=>a4_ hf.1 (J_y rfl) ?_⟩
 show vc P (b6_ f1 f2 f3 f4 f5 f6 f7 f8).code ⟨[(0,.ptr r 21 0 0),(1,.int .i64 kind),(2,d)],[],h⟩ (b2_ (b6_ f1 f2 f3 f4 f5 f6 f7 f8).res _)
 obtain⟨G,hd1,hG⟩:=hd
 obtain⟨H,hH⟩:∃H,H=h++[some (a5_.arr 5 [[.nils,.nils,.nils,.int .i64 0,.bool false]] false)]++[some (a5_.arr 5 [[.nils,.nils,.nils,.int .i64 0,.bool false]] false)]:=⟨_,rfl⟩
 have X2:Ext nof h H:=by rw[hH];exact Ext.b2 _ _
 have l2:H.length=h.length+2:=by rw[hH];simp
 have C0:H[h.length]?=some (some (a5_.arr 5 [[.nils,.nils,.nils,.int .i64 0,.bool false]] false)):=by rw[hH];exact b_z _ _ _
 have C1:H[h.length+1]?=some (some (a5_.arr 5 [[.nils,.nils,.nils,.int .i64 0,.bool false]] false)):=by rw[hH];exact O1_ _ _ _
 have ll:=hfit.last
 have hdA:∀{y:RX}{B H':a0_}{L':Nat->Nat},Ext nof h B->(∀n,n<h.length->L' n=L n)->XTo wA nof L' B r (h.length+1) y H'->Rd G H' (b3_ data) d:=λX hl T=>Rd.mono (F:=λn=>G n/\n<h.length) (λ_ y=>y.1) (λn hn y hy=>T.keep (by rw[hl n hn.2,(hG n hn.1).1];exact wA0) (λz=>z) (X.get hy)) _ _ (Rd.lt _ _ hd1)
 have third:∀(o:Nat)(L0:Nat->Nat)(H3:a0_)(Le:Env),o=h.length+1->L0=(λm=>if m=o then 7 else L m)->Ext nof h H3->h.length+2<=H3.length->XAt L0 H3 r o x.begin->H3[h.length]?=some (some (.arr 5 [[.nils,.nils,.nils,.int .i64 0,.bool false]] false))->lk 0 Le=.ptr r 21 0 0->lk 1 Le=.int .i64 kind->lk 2 Le=d->lk 7 Le=.ptr h.length 5 0 0->lk 9 Le=.ptr o 5 0 0->
   x.propose kind data=(x.last+1,(((x.begin.lay kind data).on).settle).ends,0)->
   vc P (b6_ f1 f2 f3 f4 f5 f6 f7 f8).code.tl.tl.tl.tl ⟨Le,[],H3⟩ (b2_ (b6_ f1 f2 f3 f4 f5 f6 f7 f8).res λv h'=>∃w,v=.tup [.int .i64 (x.propose kind data).1,w,.int .i64 (x.propose kind data).2.2]/\m_2 L h r (x.propose kind data).2.1 w h'):=by
  intro o L0 H3 Le ho hL0 X3 l3 hx0 D0 k0 k1 k2 k7 k9 ep
  rw[ep]
  have e1:x.begin.r=x:=rfl
  simp only[b6_,AC.tl_seq,go_sem,k0,k9]
  refine a1_ ⟨u3.1,u3.2 H3 r o⟩ ?_
  rintro _ H4 ⟨rfl,X4⟩
  simp only[go_sem,reduceEqDiff,reduceAdd,reduceLeDiff,k1,k2]
  obtain⟨H5,hH5⟩:∃H5,H5=H4++[some (a5_.arr 2 [[.ptr r 21 0 0,.ptr o 5 0 0]] false)]:=⟨_,rfl⟩
  have X5:Ext nof H3 H5:=by rw[hH5];exact X4.tr (Ext.b1 _)
  have x4:=X4.1
  have B5:H5[H4.length]?=some (some (a5_.arr 2 [[.ptr r 21 0 0,.ptr o 5 0 0]] false)):=by rw[hH5];exact x3_ _ _
  have D5:=X5.get D0
  have hx5:=hx0.up X5
  obtain⟨n5,hn5⟩:∃n5,n5=H4.length:=⟨_,rfl⟩
  rw[<-hH5,<-hn5]
  rw[<-hn5]at B5
  clear hH5
  have zL:∀n,h.length<=n->n≠o->¬wA (L0 n):=λn hn hno=>by rw[hL0];show ¬wA (if n=o then 7 else L n);rw[if_neg hno,hx.ge hn];exact wA0
  have hXX:Ext nof h H5:=X3.tr X5
  have hLL:∀n,n<h.length->L0 n=L n:=λn hn=>by rw[hL0];exact if_neg (by omega)
  subst ho
  have d5:=hdA hXX hLL (hx5.to (W:=wA) (Q:=nof))
  have ly:=u4.2 (λn=>G n) L0 H5 r (h.length+1) x.begin k 0 kind data d hx5 hfit (by omega) (q1_ _) (by omega) d5 hdata hkind
  refine a1_ ⟨u4.1,ly⟩ ?_
  rintro _ H6 ⟨rfl,T6⟩
  have f6:(x.begin.lay kind data).r.fit (k+1):=b4_.fit.lay (x:=x.begin) hfit (by omega) hdata hkind
  have w6:(x.begin.lay kind data).few 1:=RX.few.lay (x:=x.begin) (q1_ _) kind data
  have M6:=T6.keep (zL _ (by omega) (by omega)) (λz=>z) B5
  simp only[go_sem,reduceEqDiff,reduceAdd,reduceLeDiff,k0,M6]
  have ea:=XTo.callM (Q':=nof) T6 (Ext.refl _ _) (λ_ _ y=>y) λL1 x1=>(d_q u6 u5 x1 f6 (by omega) w6 (by omega)).mono λ_ _ b=>b.weakW Z6_
  refine a1_ ⟨u6.1,ea⟩ ?_
  intro _ H7 T7
  have f7:(x.begin.lay kind data).on.r.fit (k+1):=(s_x f6 w6).1
  have M7:=T7.keep (zL _ (by omega) (by omega)) (λz=>z) B5
  simp only[go_sem,reduceEqDiff,reduceAdd,reduceLeDiff,M7]
  have se:=XTo.callM (Q':=nof) T7 (Ext.refl _ _) (λ_ _ y=>y) λL1 x1=>u7.2 L1 H7 r _ _ (k+1) x1 f7 (by omega)
  refine a1_ ⟨u7.1,se⟩ ?_
  intro _ H8 T8
  have f8:(x.begin.lay kind data).on.settle.r.fit (k+1):=f7.settle
  have M8:=T8.keep (zL _ (by omega) (by omega)) (λz=>z) B5
  simp only[go_sem,reduceEqDiff,reduceAdd,reduceLeDiff,M8]
  have en:=XTo.callM (Q':=nof) T8 (Ext.refl _ _) (λ_ _ y=>y) λL1 x1=>u8.2 L1 H8 r _ _ (k+1) x1 f8 (by omega)
  refine a1_ ⟨u8.1,en⟩ ?_
  intro _ H9 T9
  have M9:=T9.keep (zL _ (J_4 _) (by omega)) (λz=>z) D5
  rw[hL0]at T9
  have x5:=X5.1
  obtain⟨ma,ca,aa,row,s1,s2,s3,out⟩:=T9.outS (n:=h.length) hx hXX (by omega) ⟨J_4 _,by omega⟩ (by omega)
  have lh:=(J_w.1 M9).1
  have w0:(h.length+1=h.length)=False:=eq_false (by omega)
  simp only[go_sem,reduceEqDiff,reduceAdd,reduceLeDiff,reducePow,reduceDiv,reduceMod,decide_true,k7,k9,row,M9,s1,s2,s3,lh]
  exact⟨_,rfl,out _⟩
 have e0:(b6_ f1 f2 f3 f4 f5 f6 f7 f8).code=.seq (b6_ f1 f2 f3 f4 f5 f6 f7 f8).code.hd (.seq (b6_ f1 f2 f3 f4 f5 f6 f7 f8).code.tl.hd (.seq (b6_ f1 f2 f3 f4 f5 f6 f7 f8).code.tl.tl.hd (.seq (b6_ f1 f2 f3 f4 f5 f6 f7 f8).code.tl.tl.tl.hd (b6_ f1 f2 f3 f4 f5 f6 f7 f8).code.tl.tl.tl.tl))):=rfl
 rw[e0]
 generalize (b6_ f1 f2 f3 f4 f5 f6 f7 f8).code.tl.tl.tl.tl=D at third ⊢
 have thd:=third
 simp only[b6_]at thd
 clear third
 simp only[b6_,AC.hd_seq,AC.tl_seq,go_sem,reduceEqDiff,reduceAdd]
 rw[<-hH]
 clear hH
 refine j4_ u1.1 (u1.2 G H data d (Rd.mono (λ_ y=>y) (X2.keep _) _ _ hd1) hdata.1 (by omega)) ?_
 simp only[go_sem,reduceEqDiff,reduceAdd,reduceLeDiff,e3_.v_eq,r0_]
 obtain⟨cf,hcf⟩:∃cf,cf=g5_ data:=⟨_,rfl⟩
 rw[<-hcf]
 obtain⟨H3,hH3⟩:∃H3,H3=H++[some (a5_.arr 3 [[g1_ cf.1.old,g1_ cf.1.new,g1_ cf.1.learners]] false)]:=⟨_,rfl⟩
 have X3:Ext nof h H3:=by rw[hH3];exact X2.tr (Ext.b1 _)
 have l3:H3.length=h.length+3:=by rw[hH3];simp[l2]
 have D0:H3[h.length]?=some (some (a5_.arr 5 [[.nils,.nils,.nils,.int .i64 0,.bool false]] false)):=by rw[hH3];exact (Ext.b1 _).get C0
 have D1:H3[h.length+1]?=some (some (a5_.arr 5 [[.nils,.nils,.nils,.int .i64 0,.bool false]] false)):=by rw[hH3];exact (Ext.b1 _).get C1
 rw[<-hH3]
 clear hH3
 have hx0:=hx.begin X3 D1 (by omega)
 have hlr:=hx.lt
 obtain⟨o,ho⟩:∃o,o=h.length+1:=⟨_,rfl⟩
 obtain⟨L0,hL0⟩:∃L0:Nat->Nat,L0=λm=>if m=o then 7 else L m:=⟨_,rfl⟩
 rw[<-ho]at D1 hx0 ⊢
 rw[<-hL0]at hx0
 have zL:∀n,h.length<=n->n≠o->L0 n=0:=λn hn hno=>by rw[hL0];show (if n=o then 7 else L n)=0;rw[if_neg hno,hx.ge hn]
 obtain⟨g,ff,rr⟩:=hx0.rowR
 have e1:x.begin.r=x:=rfl
 rw[e1]at rr
 have rr':=rr
 simp only[b4_.row]at rr'
 have lh:=(J_w.1 D0).1
 have bad:m_2 L h r x.begin (.agg [.nils,.nils,.nils,.int .i64 0,.bool false]) (H3.set h.length (some (.arr 5 [[.nils,.nils,.nils,.int .i64 0,.bool false]] false))):=by
  rw[v_7 D0]
  have T:=hx0.to (W:=wA) (Q:=nof)
  rw[hL0]at T
  obtain⟨ma,ca,aa,row,s1,s2,s3,out⟩:=T.out hx X3 (by omega)
  rw[row]at D1
  simp only[Option.some.injEq,a5_.arr.injEq,List.cons.injEq]at D1
  obtain⟨-,⟨⟨rfl,rfl,rfl,-⟩,-⟩,-⟩:=D1
  exact out
 have w0:(o=h.length)=False:=eq_false (by omega)
 simp only[go_sem,reduceEqDiff,rr']
 by_cases c1:x.role=2
 ·simp only[go_sem,reduceEqDiff,decide_eq_true c1,K_l]
  by_cases c2:¬kind=1/\¬kind=2
  ·have ep:x.propose kind data=(0,x.begin,13):=by unfold b4_.propose;rw[if_neg (by simpa using c1),if_pos c2]
   rw[ep]
   simp only[go_sem,reduceEqDiff,reduceAdd,reduceLeDiff,reducePow,reduceDiv,reduceMod,decide_true,D0,D1,decide_eq_false c2.1,decide_eq_false c2.2,K_u,lh]
   exact⟨_,rfl,bad⟩
  ·by_cases c3:kind=2/\¬cf.2=0
   ·have ep:x.propose kind data=(0,x.begin,4):=by unfold b4_.propose;rw[if_neg (by simpa using c1),if_neg c2,<-hcf,if_pos c3]
    have c31:¬kind=1:=by rw[c3.1];decide
    rw[ep]
    simp only[go_sem,reduceEqDiff,reduceAdd,reduceLeDiff,reducePow,reduceDiv,reduceMod,decide_true,D0,D1,decide_eq_false c31,decide_eq_true c3.1,decide_eq_false c3.2,K_u,K_l,lh]
    exact⟨_,rfl,bad⟩
   ·have p1:x.propose kind data=if 2^40<=x.last then (0,x.begin,17) else (x.last+1,(((x.begin.lay kind data).on).settle).ends,0):=by
     unfold b4_.propose;rw[if_neg (by simpa using c1),if_neg c2,<-hcf,if_neg c3]
    have eL:(2:Int)^40=1099511627776:=by decide
    rw[eL]at p1
    have lst:=u2.2 H3 r x ⟨g,ff,rr⟩ (hfit.logOk (by omega))
    by_cases k1':kind=1
    ·have k2':¬kind=2:=by rw[k1'];decide
     simp only[go_sem,reduceEqDiff,decide_eq_true k1',decide_eq_false k2',K_l]
     refine j4_ u2.1 lst ?_
     by_cases c4:(1099511627776:Int)<=x.last
     ·rw[if_pos c4]at p1
      rw[p1]
      simp only[go_sem,reduceEqDiff,reduceAdd,reduceLeDiff,reducePow,reduceDiv,reduceMod,decide_true,D0,D1,decide_eq_true c4,lh]
      exact⟨_,rfl,bad⟩
     ·rw[if_neg c4]at p1
      simp only[go_sem,reduceEqDiff,decide_eq_false c4]
      refine thd o L0 H3 _ ho hL0 X3 (by omega) hx0 D0 ?_ ?_ ?_ ?_ ?_ p1<;>simp[a3_,c9_]
    ·have k2':kind=2:=Classical.byContradiction λz=>c2 ⟨k1',z⟩
     have c0:cf.2=0:=Classical.byContradiction λz=>c3 ⟨k2',z⟩
     simp only[go_sem,reduceEqDiff,decide_eq_false k1',decide_eq_true k2',decide_eq_true c0,K_u,K_l]
     refine j4_ u2.1 lst ?_
     by_cases c4:(1099511627776:Int)<=x.last
     ·rw[if_pos c4]at p1
      rw[p1]
      simp only[go_sem,reduceEqDiff,reduceAdd,reduceLeDiff,reducePow,reduceDiv,reduceMod,decide_true,D0,D1,decide_eq_true c4,lh]
      exact⟨_,rfl,bad⟩
     ·rw[if_neg c4]at p1
      simp only[go_sem,reduceEqDiff,decide_eq_false c4]
      refine thd o L0 H3 _ ho hL0 X3 (by omega) hx0 D0 ?_ ?_ ?_ ?_ ?_ p1<;>simp[a3_,c9_]
 ·have ep:x.propose kind data=(0,x.begin,30):=by unfold b4_.propose;rw[if_pos (by simpa using c1)]
  rw[ep]
  simp only[go_sem,reduceEqDiff,reduceAdd,reduceLeDiff,reducePow,reduceDiv,reduceMod,decide_true,D0,D1,decide_eq_false c1,K_u,lh]
  exact⟨_,rfl,bad⟩
def q_y (P:Program)(f:FuncId)(t:b4_->Int):Prop:=f2_ P f=true/\∀(h:a0_)(r:Nat)(x:b4_),x_3 h r x->a6_ P f [.ptr r 21 0 0] h λres h'=>res=.int .i64 (t x)/\h'=h
theorem w_f {P:Program}{f:FuncId}(hf:Is P f p8_):q_y P f b4_.role:=by
 refine⟨hf.2,λh r x ⟨g,ff,rr⟩=>a4_ hf.1 (J_y rfl) ?_⟩
 show vc P p8_.code ⟨[(0,.ptr r 21 0 0)],[],h⟩ (b2_ p8_.res _)
 simp only[b4_.row]at rr
 simp only[p8_,go_sem,reduceEqDiff,reduceAdd,rr]
theorem p_d {P:Program}{f:FuncId}(hf:Is P f l9_):q_y P f b4_.commit:=by
 refine⟨hf.2,λh r x ⟨g,ff,rr⟩=>a4_ hf.1 (J_y rfl) ?_⟩
 show vc P l9_.code ⟨[(0,.ptr r 21 0 0)],[],h⟩ (b2_ l9_.res _)
 simp only[b4_.row]at rr
 simp only[l9_,go_sem,reduceEqDiff,reduceAdd,rr]
theorem r_z (l:Log):l.slice (l.base+1) l.es.length=l.es:=by
 unfold Log.slice
 by_cases c:l.es.length=0
 ·have:l.es=[]:=List.length_eq_zero_iff.1 c
  simp[this]
 ·rw[if_neg (by unfold Log.last;omega)]
  rw[show (l.base+1-l.base-1).toNat=0 by omega]
  simp
def c_a (P:Program)(f:FuncId):Prop:=f2_ P f=true/\∀(F:Nat->Prop)(h:a0_)(x:d7_)(a:List AV),RdL F h x.c a->E3_ x.log->x.conf.few (2^40)->x.snap.length<=2^40->(x.log.es.length<=2^40/\(0<=x.log.base/\x.log.base<=2^60))->
 a6_ P f [.agg a] h λv h'=>∃b,v=.agg b/\g2_ x.c (λm=>h.length<=m) h' b/\Ext nof h h'
theorem r_9 {P:Program}{f f1 f2 f3:FuncId}(hf:Is P f (z1_ f1 f2 f3))(u1:L0_ P f1)(u2:y2_ P f2)(u3:L5_ P f3):c_a P f:=by
 refine⟨hf.2,λF h x a ha hlog hc hs hb=>a4_ hf.1 (J_y rfl) ?_⟩
 show vc P (z1_ f1 f2 f3).code ⟨[(0,.agg a)],[],h⟩ (b2_ (z1_ f1 f2 f3).res _)
 obtain⟨e,o,n,l,s,rfl,he,ho,hn,hl,hsn⟩:=R8_ ha
 obtain⟨H,hH⟩:∃H,H=h++[some (a5_.arr 10 [[.int .i64 x.group,.int .i64 x.term,.int .i64 x.vote,.int .i64 x.log.base,.int .i64 x.log.bterm,e,o,n,l,s]] false)]++[some (a5_.arr 10 [[.int .i64 0,.int .i64 0,.int .i64 0,.int .i64 0,.int .i64 0,.nils,.nils,.nils,.nils,.nils]] false)]:=⟨_,rfl⟩
 have X1:Ext nof h H:=by rw[hH];exact Ext.b2 _ _
 have lH:H.length=h.length+2:=by rw[hH];simp
 have C0:H[h.length]?=some (some (a5_.arr 10 [[.int .i64 x.group,.int .i64 x.term,.int .i64 x.vote,.int .i64 x.log.base,.int .i64 x.log.bterm,e,o,n,l,s]] false)):=by rw[hH];exact b_z _ _ _
 have C1:H[h.length+1]?=some (some (a5_.arr 10 [[.int .i64 0,.int .i64 0,.int .i64 0,.int .i64 0,.int .i64 0,.nils,.nils,.nils,.nils,.nils]] false)):=by rw[hH];exact O1_ _ _ _
 have len:M5_ e=some (.int .i64 x.log.es.length):=by have:=he.len;simpa [b7_] using this
 have ew:IntKind.i64.wrap (x.log.base+1)=x.log.base+1:=a7_ (by omega)
 have rl:RdL F H x.log.c [.int .i64 x.log.base,.int .i64 x.log.bterm,e]:=by
  have he':=he.up X1
  simp only[Log.c,RdL,Rd]
  exact⟨_,_,rfl,rfl,_,_,rfl,rfl,_,_,rfl,he',rfl⟩
 simp only[z1_,d7_.cells,go_sem,reduceEqDiff,reduceAdd,reduceLeDiff,he.scalar,ho.scalar,hn.scalar,hl.scalar,hsn.scalar]
 rw[<-hH]
 clear hH
 simp only[go_sem,reduceEqDiff,len,ew]
 have sl:=u1.2 F H x.log _ (x.log.base+1) x.log.es.length rl hlog
 rw[r_z]at sl
 refine a1_ ⟨u1.1,sl⟩ ?_
 rintro e1 H2 ⟨oe,-,X2⟩
 have D0:=X2.get C0
 have D1:=X2.get C1
 have x2:=X2.1
 have l20:h.length<H2.length:=by omega
 have l21:h.length+1<H2.length:=by omega
 simp only[go_sem,reduceEqDiff,reduceAdd,reduceLeDiff,D0,oe.scalar,b5_ oe.scalar,l20]
 obtain⟨H3,hH3⟩:∃H3,H3=H2.set h.length (some (a5_.arr 10 [[.int .i64 x.group,.int .i64 x.term,.int .i64 x.vote,.int .i64 x.log.base,.int .i64 x.log.bterm,e1,o,n,l,s]] false)):=⟨_,rfl⟩
 have X3:Ext nof h H3:=by rw[hH3];exact (X1.tr X2).setNew (J_4 _) _
 have K3:∀m,m≠h.length->H3[m]?=H2[m]?:=λm hm=>by rw[hH3];exact J_x (λz=>hm z.symm)
 have l3:H3.length=H2.length:=by rw[hH3];simp
 have E0:H3[h.length]?=some (some (a5_.arr 10 [[.int .i64 x.group,.int .i64 x.term,.int .i64 x.vote,.int .i64 x.log.base,.int .i64 x.log.bterm,e1,o,n,l,s]] false)):=by rw[hH3];exact J_0 l20
 have E1:=(K3 (h.length+1) (by omega)).trans D1
 have oe3:Own (b7_ x.log.es) (λm=>H.length<=m) H3 e1:=Own.mono _ (λ_ y=>y) (λm hm y hy=>(K3 m (by omega)).trans hy) _ oe
 rw[<-hH3]
 clear hH3
 have rc:RdL F H3 x.conf.c [o,n,l]:=by
  simp only[e3_.c,RdL]
  exact⟨_,_,rfl,ho.up X3,_,_,rfl,hn.up X3,_,_,rfl,hl.up X3,rfl⟩
 refine a1_ ⟨u2.1,u2.2 F H3 x.conf _ rc hc⟩ ?_
 rintro _ H4 ⟨o1,n1,c1,rfl,oo,on,oc,X4⟩
 have x4:=X4.1
 have F0:=X4.get E0
 have F1:=X4.get E1
 have l40:h.length<H4.length:=by omega
 simp only[go_sem,reduceEqDiff,reduceAdd,reduceLeDiff,F0,oo.scalar,on.scalar,oc.scalar,l40]
 obtain⟨H5,hH5⟩:∃H5,H5=H4.set h.length (some (a5_.arr 10 [[.int .i64 x.group,.int .i64 x.term,.int .i64 x.vote,.int .i64 x.log.base,.int .i64 x.log.bterm,e1,o1,n1,c1,s]] false)):=⟨_,rfl⟩
 have X5:Ext nof h H5:=by rw[hH5];exact (X3.tr X4).setNew (J_4 _) _
 have K5:∀m,m≠h.length->H5[m]?=H4[m]?:=λm hm=>by rw[hH5];exact J_x (λz=>hm z.symm)
 have l5:H5.length=H4.length:=by rw[hH5];simp
 have G0:H5[h.length]?=some (some (a5_.arr 10 [[.int .i64 x.group,.int .i64 x.term,.int .i64 x.vote,.int .i64 x.log.base,.int .i64 x.log.bterm,e1,o1,n1,c1,s]] false)):=by rw[hH5];exact J_0 l40
 have G1:=(K5 (h.length+1) (by omega)).trans F1
 have k5:∀lo,h.length+2<=lo->∀{d:D}{a:AV},Own d (λm=>lo<=m) H4 a->Own d (λm=>lo<=m) H5 a:=λlo hlo d a z=>Own.mono _ (λ_ y=>y) (λm hm y hy=>(K5 m (by omega)).trans hy) _ z
 have oe5:=k5 _ (by omega) (Own.mono _ (λ_ y=>y) (X4.keep _) _ oe3)
 have oo5:=k5 _ (by omega) oo
 have on5:=k5 _ (by omega) on
 have oc5:=k5 _ (by omega) oc
 rw[<-hH5]
 clear hH5
 refine a1_ ⟨u3.1,u3.2 F H5 x.snap s (hsn.up X5) hs⟩ ?_
 rintro s1 H6 ⟨os,X6⟩
 have x6:=X6.1
 have I0:=X6.get G0
 have I1:=X6.get G1
 have l60:h.length<H6.length:=by omega
 have l61:h.length+1<H6.length:=by omega
 have ne1:(h.length=h.length+1)=False:=eq_false (by omega)
 simp only[go_sem,reduceEqDiff,reduceAdd,reduceLeDiff,I0,I1,oe.scalar,oo.scalar,on.scalar,oc.scalar,os.scalar,b5_ os.scalar,l60,l61,ne1,J_2]
 refine⟨_,rfl,?_,?_⟩
 ·have k6:∀{d:D}{a:AV},Own d (λm=>h.length+2<=m) H6 a->Own d (λm=>h.length<=m) ((H6.set h.length (some (a5_.arr 10 [[.int .i64 x.group,.int .i64 x.term,.int .i64 x.vote,.int .i64 x.log.base,.int .i64 x.log.bterm,e1,o1,n1,c1,s1]] false))).set (h.length+1) (some (a5_.arr 10 [[.int .i64 x.group,.int .i64 x.term,.int .i64 x.vote,.int .i64 x.log.base,.int .i64 x.log.bterm,e1,o1,n1,c1,s1]] false))) a:=
   λz=>Own.mono _ (λm hm=>by omega) (λm hm y hy=>(J_x (by omega)).trans ((J_x (by omega)).trans hy)) _ z
  have w6:∀lo,h.length+2<=lo->∀{d:D}{a:AV},Own d (λm=>lo<=m) H5 a->Own d (λm=>h.length+2<=m) H6 a:=λlo hlo d a z=>Own.mono _ (λm hm=>by omega) (X6.keep _) _ z
  simp only[d7_.c,g2_,Own]
  exact⟨_,_,rfl,rfl,_,_,rfl,rfl,_,_,rfl,rfl,_,_,rfl,rfl,_,_,rfl,rfl,_,_,rfl,k6 (w6 _ (by omega) oe5),_,_,rfl,k6 (w6 _ (by omega) oo5),_,_,rfl,k6 (w6 _ (by omega) on5),_,_,rfl,k6 (w6 _ (by omega) oc5),_,_,rfl,k6 (Own.mono _ (λm hm=>by omega) (λ_ _ _ y=>y) _ os),rfl⟩
 ·exact ((X5.tr X6).setNew (J_4 _) _).setNew (by omega) _
def v_b (P:Program)(f:FuncId):Prop:=f2_ P f=true/\∀(F:Nat->Prop)(h:a0_)(x:d7_)(a:List AV),RdL F h x.c a->E3_ x.log->x.conf.few (2^40)->x.snap.length<=2^40->(x.log.es.length<=2^40/\(0<=x.log.base/\x.log.base<=2^60))->
 a6_ P f [.agg a] h λv h'=>v=.agg x.v/\h'=h
theorem c_a.p {P:Program}{f:FuncId}(hc:c_a P f):v_b P f:=⟨hc.1,λF h x a ha h1 h2 h3 h4=>(hc.2 F h x a ha h1 h2 h3 h4).freeze λ_ _ ⟨b,e,o,X⟩=>⟨X,_,e▸Frz.aggD (ds:=x.c) (g2_.fz _ (λ_ x=>x) _ o),rfl⟩⟩
def o_a (P:Program)(f:FuncId):Prop:=f2_ P f=true/\∀(F:Nat->Prop)(h:a0_)(id:Int)(x:d7_)(a:List AV)(draw:Int),RdL F h x.c a->E3_ x.log->x.conf.few (2^40)->x.snap.length<=2^40->(x.log.es.length<=2^40/\(0<=x.log.base/\x.log.base<=2^60))->
 a6_ P f [.int .i64 id,.agg a,.int .i64 draw] h λv h'=>∃r,v=.ptr r 21 0 0/\h.length<=r/\h'[r]?=some (some (.arr 21 [(b4_.new id x draw).row .nils .nils] false))/\Ext nof h h'
theorem z_y {P:Program}{f f1 f2:FuncId}(hf:Is P f (I5_ f1 f2))(u1:v_b P f1)(u2:n_8 P f2):o_a P f:=by
 refine⟨hf.2,λF h id x a draw ha h1 h2 h3 h4=>a4_ hf.1 (J_y rfl) ?_⟩
 show vc P (I5_ f1 f2).code ⟨[(0,.int .i64 id),(1,.agg a),(2,.int .i64 draw)],[],h⟩ (b2_ (I5_ f1 f2).res _)
 obtain⟨e,o,n,l,s,rfl,he,ho,hn,hl,hsn⟩:=R8_ ha
 obtain⟨H,hH⟩:∃H,H=h++[some (a5_.arr 10 [[.int .i64 x.group,.int .i64 x.term,.int .i64 x.vote,.int .i64 x.log.base,.int .i64 x.log.bterm,e,o,n,l,s]] false)]:=⟨_,rfl⟩
 have X1:Ext nof h H:=by rw[hH];exact Ext.b1 _
 have C0:H[h.length]?=some (some (a5_.arr 10 [[.int .i64 x.group,.int .i64 x.term,.int .i64 x.vote,.int .i64 x.log.base,.int .i64 x.log.bterm,e,o,n,l,s]] false)):=by rw[hH];exact x3_ _ _
 have lH:H.length=h.length+1:=by rw[hH];simp
 have ha':=ha.up (X1.tr (Ext.b1 none))
 simp only[d7_.cells]at ha'
 have fr:=u1.2 F (H++[none]) x _ ha' h1 h2 h3 h4
 simp only[I5_,d7_.cells,go_sem,reduceEqDiff,reduceAdd,reduceLeDiff,he.scalar,ho.scalar,hn.scalar,hl.scalar,hsn.scalar]
 rw[<-hH]
 clear hH
 have C1:(H++[none])[h.length]?=_:=(Ext.b1 none).get C0
 have eset:∀a b:Option a5_,(H++[a]).set (h.length+1) b=H++[b]:=λa b=>by rw[K_n _ _ (by omega),lH];simp
 have C2:(H++[none])[h.length+1]?=some none:=by rw[<-lH];exact x3_ _ _
 have l2:h.length+1<(H++[none]).length:=by simp[lH]
 refine j4_ u1.1 fr ?_
 simp only[go_sem,reduceEqDiff,reduceAdd,reduceLeDiff,reducePow,reduceDiv,reduceMod,decide_true,C1,C2]
 refine j4_ u2.1 (u2.2 _ draw) ?_
 simp only[go_sem,reduceEqDiff,reduceAdd,reduceLeDiff,reducePow,reduceDiv,reduceMod,decide_true,C1,C2,d7_.v_eq,k4_,r0_,w1_,eset]
 refine⟨_,rfl,by omega,?_,X1.tr (Ext.b1 _)⟩
 rw[<-lH]
 exact x3_ _ _
theorem l_1 {h:a0_}{r:Nat}{id draw:Int}{x:d7_} (hr:h[r]?=some (some (.arr 21 [(b4_.new id x draw).row .nils .nils] false))):y1_ (λm=>if m=r then 6 else 0) h r (b4_.new id x draw):=by
 refine⟨⟨.nils,.nils,hr,Own.nils 1,trivial,Own.nils 4,trivial,if_pos rfl⟩,λm hm=>?_⟩
 by_cases c:m=r
 ·subst c;exact⟨(J_w.1 hr).1,.inr (.inr (if_pos rfl))⟩
 ·exact absurd (if_neg c) hm
structure D_f (A B C:Nat->Prop)(h:a0_)(x:Rdy)(v:AV):Prop where
 ex:∃ma ca aa,v=.agg [ma,ca,aa,.int .i64 x.first,.bool x.restore]/\Own (a_v x.msgs) A h ma/\Own (F6_ x.changes) B h ca/\Own (b7_ x.apply) C h aa/\d2_ h ma/\d2_ h ca
def W9_ (L:Nat->Nat):Nat->Nat:=λm=>if L m=1\/L m=2\/L m=6 then L m else 0
theorem m_2.split {L h r x0 x v h'}(a:y1_ L h r x0)(b:m_2 L h r x v h'):∃L',y1_ (W9_ L') h' r x.r/\(∀m,m<h.length->W9_ L' m=L m) /\
  D_f (λm=>(h.length<=m/\m<h'.length)/\L' m=3) (λm=>(h.length<=m/\m<h'.length)/\L' m=4) (λm=>(h.length<=m/\m<h'.length)/\L' m=5) h' x.o v/\Ext (λm=>wA (L m)) h h':=by
 obtain⟨L',o,ma,ca,aa,rfl,⟨g,f,ra⟩,oa,hl,ho,he,hx⟩:=b
 have k1:∀m,L' m=1->W9_ L' m=L' m:=λm e=>by unfold W9_;rw[if_pos (.inl e)]
 have k2:∀m,L' m=2->W9_ L' m=L' m:=λm e=>by unfold W9_;rw[if_pos (.inr (.inl e))]
 have k6:∀m,L' m=6->W9_ L' m=L' m:=λm e=>by unfold W9_;rw[if_pos (.inr (.inr e))]
 have kk:∀m,W9_ L' m≠0->L' m=1\/L' m=2\/L' m=6:=λm e=>by unfold W9_ at e;exact Classical.byContradiction λz=>e (if_neg z)
 have low:∀k,k=3\/k=4\/k=5->∀m,L' m=k->(h.length<=m/\m<h'.length)/\L' m=k:=by
  intro k hk m e
  refine⟨⟨?_,hl m (by omega)⟩,e⟩
  apply Classical.byContradiction
  intro z
  have e1:=he m (by omega)
  have e2:=(a.lab m (by omega)).2
  omega
 refine⟨L',⟨⟨g,f,?_⟩,λm hm=>?_⟩,λm hm=>?_,⟨ma,ca,aa,rfl,?_,?_,?_,oa.mc,oa.cc⟩,hx⟩
 ·exact⟨ra.row,Own.mono _ (λm e=>by rw[k1 m e];exact e) (λ_ _ _ y=>y) _ ra.go,ra.gc,Own.mono _ (λm e=>by rw[k2 m e];exact e) (λ_ _ _ y=>y) _ ra.fo,ra.fc,by rw[k6 _ ra.lr];exact ra.lr⟩
 ·have e:=kk m hm
  refine⟨hl m (by omega),?_⟩
  unfold W9_
  rw[if_pos e]
  exact e
 ·by_cases c:L' m=1\/L' m=2\/L' m=6
  ·unfold W9_;rw[if_pos c];exact he m hm
  ·have e1:=he m hm
   unfold W9_;rw[if_neg c]
   apply Classical.byContradiction
   intro z
   have e2:=(a.lab m (by omega)).2
   omega
 ·exact Own.mono _ (low 3 (by omega)) (λ_ _ _ y=>y) _ oa.m
 ·exact Own.mono _ (low 4 (by omega)) (λ_ _ _ y=>y) _ oa.c
 ·exact Own.mono _ (low 5 (by omega)) (λ_ _ _ y=>y) _ oa.a
theorem y1_.up {L h r x h'}(a:y1_ L h r x)(hx:Ext nof h h'):y1_ L h' r x:=by
 obtain⟨⟨g,f,ra⟩,lab⟩:=a
 exact⟨⟨g,f,ra.keep (λ_ _ _=>rfl) λm hm _=>hx.2 m hm (λy=>y)⟩,λm hm=>⟨by have:=(lab m hm).1;have:=hx.1;omega,(lab m hm).2⟩⟩
theorem y1_.keep {L h r x h'}(a:y1_ L h r x)(hl:h.length<=h'.length) (hk:∀m,L m≠0->h'[m]?=h[m]?):y1_ L h' r x:=by
 obtain⟨⟨g,f,ra⟩,lab⟩:=a
 refine⟨⟨g,f,ra.keep (λ_ _ _=>rfl) λm hm e=>hk m (by rcases e with e | e | e<;>omega)⟩,λm hm=>⟨by have:=(lab m hm).1;omega,(lab m hm).2⟩⟩
theorem y1_.row {L h r x}(a:y1_ L h r x):x_3 h r x:=let⟨g,f,ra⟩:=a.r;⟨g,f,ra.row⟩
abbrev E_l:=m_9
abbrev J_v:=v_j
theorem z_p {L:Nat->Nat}{h0 h h':a0_}(X:Ext nof h0 h) (hx:Ext (λm=>wA (L m)) h h') (ml:∀m,L m≠0->h0.length<=m):Ext nof h0 h':=
 ⟨K_e X.1 hx.1,λm hm _=>(hx.2 m (K_c hm X.1) (λz=>Nat.not_le_of_lt hm (ml m z))).trans (X.2 m hm (λy=>y))⟩
theorem z_o {L L':Nat->Nat}{lo n:Nat}(e:∀m,m<n->L' m=L m)(ml:∀m,L m≠0->lo<=m)(hl:lo<=n):∀m,L' m≠0->lo<=m:=λm hm=>by
 by_cases c:m<n
 ·rw[e m c]at hm;exact ml m hm
 ·omega
theorem s_g {m:Msg}{F:Nat->Prop}{h:a0_}{e d:AV}(he:Rd F h (b7_ m.es) e)(hd:Rd F h (b3_ m.data) d):RdL F h m.c (m.cells e d):=by
 simp only[Msg.c,Msg.cells,RdL]
 exact⟨_,_,rfl,rfl,_,_,rfl,rfl,_,_,rfl,rfl,_,_,rfl,rfl,_,_,rfl,rfl,_,_,rfl,rfl,_,_,rfl,rfl,_,_,rfl,rfl,_,_,rfl,rfl,_,_,rfl,rfl,_,_,rfl,rfl,_,_,rfl,rfl,_,_,rfl,rfl,_,_,rfl,rfl,_,_,rfl,rfl,_,_,rfl,he,_,_,rfl,hd,rfl⟩
end Glb
