/-
  A library of its own.
-/
import Derived.Test.YtdeiamnhnfmilaaGreatGlbRafE
import Derived.Test.YtdeiamnhnfmilaaGreatGlbCglebelaw17
set_option linter.unusedSimpArgs false
set_option linter.unusedVariables false
set_option maxRecDepth 10000
set_option maxHeartbeats 8000000
open Nat (reduceAdd reduceEqDiff reduceLeDiff)
namespace Glb
open Go
def b_a:d7_:=⟨1,0,0,⟨0,0,[]⟩,⟨[1],[],[]⟩,[]⟩
def knR:Nat->b4_
 | 0=>b4_.new 1 b_a 0
 | i+1=>((knR i).tick 0).r
theorem n_t:(b4_.new 1 b_a 0).fit 1:=by
 refine⟨by decide,by decide,by decide,(by intro e he;cases he),by decide,⟨(by intro e he;cases he),by decide⟩,by decide,⟨⟨by decide,by decide⟩,⟨by decide,by decide⟩,⟨by decide,by decide⟩⟩,by decide,by decide,by decide,by decide,by decide,⟨by decide,(by intro e he;cases he)⟩,by decide⟩
theorem g_n:∀i,i<=20->(knR i).fit (1+2*i)
 | 0,_=>n_t
 | i+1,h=>b4_.tick_fit (g_n i (by omega)) (by omega) 0
theorem t_d:∀i,i<9->((knR i).tick 0).o.changes.length=0/\((knR i).tick 0).r.role=0:=by decide +kernel
theorem t_e:((knR 9).tick 0).o.changes.length=2/\((knR 9).tick 0).o.first=1/\((knR 9).tick 0).o.apply.length=1/\((knR 9).tick 0).r.role=2:=by decide +kernel
theorem j_k:((knR 10).propose 1 [7]).1=2/\((knR 10).propose 1 [7]).2.2=0/\((knR 10).propose 1 [7]).2.1.o.first=2/\((knR 10).propose 1 [7]).2.1.o.apply.length=1/\((knR 10).propose 1 [7]).2.1.r.commit=2/\((knR 10).propose 1 [7]).2.1.r.role=2:=by decide +kernel
def h_k (P:Program)(f:FuncId):Prop:=f2_ P f=true/\∀h:a0_,a6_ P f [] h λv h'=>v=.agg b_a.v/\h'=h
theorem s_l {P:Program}{f:FuncId}(hf:Is P f m7_):h_k P f:=by
 refine⟨hf.2,λh=>a6_.freeze (K:=λv h'=>(∃b,v=.agg b/\g2_ b_a.c (λm=>h.length<=m) h' b)/\Ext nof h h') (a4_ hf.1 (J_y rfl) ?_) (λr _ ⟨⟨b,e,o⟩,hx⟩=>⟨hx,_,e▸Frz.aggD (ds:=b_a.c) (g2_.fz _ (λ_ x=>x) _ o),rfl⟩)⟩
 show vc P m7_.code ⟨[],[],h⟩ (b2_ m7_.res _)
 simp only[m7_,go_sem,reduceEqDiff,reduceAdd,reduceLeDiff]
 refine⟨⟨_,rfl,?_⟩,Ext.b2 _ _⟩
 have o1:Own (b1_ [1]) (λm=>h.length<=m) (h++[some (a5_.arr 10 [[.int .i64 1,.int .i64 0,.int .i64 0,.int .i64 0,.int .i64 0,.nils,.ref (h.length+1) 1 0 1 (some 1),.nils,.nils,.nils]] false)]++[some (a5_.arr 1 [[.int .i64 1]] false)]) (.ref (h.length+1) 1 0 1 (some 1)):=
  .inr (.inr ⟨_,0,some 1,_,_,rfl,by omega,O1_ _ _ _,by simp,(λc hc=>by cases hc;simp),by simp[a8_,g2_,Own]⟩)
 have z:∀{F h}(sz:Nat),Own (.sl sz []) F h .nils:=λsz=>Own.nils sz
 show g2_ [.int .i64 1,.int .i64 0,.int .i64 0,.int .i64 0,.int .i64 0,b7_ [],b1_ [1],b1_ [],b1_ [],b3_ []] _ _ _
 simp only[g2_]
 exact⟨_,_,rfl,rfl,_,_,rfl,rfl,_,_,rfl,rfl,_,_,rfl,rfl,_,_,rfl,rfl,_,_,rfl,Own.nils 3,_,_,rfl,o1,_,_,rfl,Own.nils 1,_,_,rfl,Own.nils 1,_,_,rfl,Own.nils 1,rfl⟩
def x_6 (lo:Nat)(h:a0_)(r:Nat)(x:b4_):Prop:=∃L,y1_ L h r x/\∀m,L m≠0->lo<=m
theorem x_6.out {L:Nat->Nat}{lo:Nat}{h:a0_}{r:Nat}{x0:b4_}{x:RX}{v:AV}{h':a0_}(a:y1_ L h r x0)(hlo:∀m,L m≠0->lo<=m)(hl:lo<=h.length)(b:m_2 L h r x v h'):x_6 lo h' r x.r/\(∃A B C,D_f A B C h' x.o v)/\Ext (λm=>lo<=m) h h':=by
 obtain⟨L',m1,e,ra,hx⟩:=b.split a
 refine⟨⟨_,m1,λm hm=>?_⟩,⟨_,_,_,ra⟩,⟨hx.1,λm hm hn=>hx.2 m hm (λz=>hn (hlo m z))⟩⟩
 by_cases c:m<h.length
 ·rw[e m c]at hm;exact hlo m hm
 ·omega
theorem x_6.up {lo h h' r x}(a:x_6 lo h r x)(hx:Ext nof h h'):x_6 lo h' r x:=let⟨L,m,e⟩:=a;⟨L,m.up hx,e⟩
theorem w_k (g:Opd->AV)(h:a0_)(neg:Bool)(x:Opd):rev g h (.x (.peq neg x))=(C_f (g x)).map λb=>.bool (b != neg):=Eq.trans rfl rfl
theorem s_t (n sz i o:Nat):C_f (.ptr n sz i o)=some false:=Eq.trans rfl rfl
def h_h (P:Program)(f:FuncId):Prop:=f2_ P f=true/\∀h:a0_,a6_ P f [] h λv h'=>v=.bool true/\h'=h
theorem r_7 {P:Program}{f f1 f2 f3 f4 f5 f6:FuncId}(hf:Is P f (m5_ f1 f2 f3 f4 f5 f6))(u1:h_k P f1)(u2:o_a P f2)(u3:m_z P f3)(u4:q_y P f4 b4_.role)(u5:a_y P f5)(u6:q_y P f6 b4_.commit):h_h P f:=by
 refine⟨hf.2,λh=>a6_.freeze (K:=λv h'=>v=.bool true/\Ext nof h h') (a4_ hf.1 (J_y rfl) ?_) (λr _ ⟨e,hx⟩=>⟨hx,r,by rw[e];exact Frz.bool _,e⟩)⟩
 show vc P (m5_ f1 f2 f3 f4 f5 f6).code ⟨[],[],h⟩ (b2_ (m5_ f1 f2 f3 f4 f5 f6).res _)
 simp only[m5_,go_sem]
 refine j4_ u1.1 (u1.2 h) ?_
 simp only[go_sem]
 refine a1_ ⟨u2.1,u2.2 nof h 1 b_a _ 0 (n_l nof h b_a) (n_t.logOk (by decide)) ((r2_ (by decide:b_a.conf.right=true)).le (by decide)) (by decide) (by decide)⟩ ?_
 rintro _ h1 ⟨r,rfl,hr,row,X1⟩
 have m1:x_6 h.length h1 r (knR 0):=by
  refine⟨_,l_1 row,λm hm=>?_⟩
  by_cases c:m=r
  ·omega
  ·exact absurd (if_neg c) hm
 simp only[go_sem,reduceEqDiff,w_k,s_t,show (false != false)=false from rfl]
 obtain⟨I,hI⟩:∃I:Nat->Env->a0_->Prop,∀m L h',I m L h'↔∃i:Nat,lk 1 L=.ptr r 21 0 0/\lk 2 L=.int .i64 i/\x_6 h.length h' r (knR i)/\Ext nof h h'/\i<=9/\m=9-i:=⟨_,λ_ _ _=>Iff.rfl⟩
 refine e8_ I 9 ((hI _ _ _).2 ⟨0,by simp[a3_],by simp[a3_],m1,X1,by omega,by omega⟩) ?_
 intro m L h2 hh
 obtain⟨i,k1,k2,⟨L2,mm,ml⟩,X2,hi,rfl⟩:=(hI _ _ _).1 hh
 have x2:=X2.1
 simp only[z7_,go_sem,k2]
 refine b0_ (λci=>?_) (λci=>?_)
 ·simp at ci
  have ci:i<9:=by omega
  have ew:IntKind.i64.wrap ((i:Int)+1)=((i+1:Nat):Int):=by rw[a7_ (by omega)];omega
  have ft:=g_n i (by omega)
  simp only[go_sem,reduceEqDiff,k1]
  refine a1_ ⟨u3.1,u3.2 L2 h2 r (knR i) _ 0 mm ft (by omega)⟩ ?_
  intro v h3 ro
  obtain⟨m3,⟨A,B,C,⟨ma,ca,aa,rfl,oa,ob,oc,-,-⟩⟩,X3⟩:=x_6.out mm ml (by omega) ro
  have X23:Ext nof h h3:=⟨by have:=X3.1;omega,λm hm _=>(X3.2 m (by omega) (by omega)).trans (X2.2 m hm (λz=>z))⟩
  obtain⟨s1,s2⟩:=t_d i ci
  have lc:M5_ ca=some (.int .i64 0):=by have:=(Own.rd _ (F':=B) (λ_ y=>y) _ ob).len;simpa [F6_,s1] using this
  simp only[go_sem,reduceEqDiff,reduceAdd,reduceLeDiff,k1,oa.scalar,ob.scalar,oc.scalar,lc,show decide ((0:Int)<0)=false from rfl]
  have m4:=m3.up (Ext.b1 (some (a5_.arr 5 [[ma,ca,aa,.int .i64 ((knR i).tick 0).o.first,.bool ((knR i).tick 0).o.restore]] false)))
  obtain⟨L4,q4,r4⟩:=id m4
  refine j4_ u4.1 (u4.2 _ r _ q4.row) ?_
  simp only[go_sem,reduceEqDiff,decide_true,k2,s2,ew]
  exact⟨_,by omega,(hI _ _ _).2 ⟨i+1,by simp[a3_,k1],by simp[a3_],m4,X23.tr (Ext.b1 _),by omega,rfl⟩⟩
 ·simp at ci
  have:i=9:=by omega
  subst this
  have ft:=g_n 9 (by omega)
  simp only[go_sem,reduceEqDiff,k1]
  refine a1_ ⟨u3.1,u3.2 L2 h2 r (knR 9) _ 0 mm ft (by omega)⟩ ?_
  intro v h3 ro
  obtain⟨m3,⟨A,B,C,⟨ma,ca,aa,rfl,oa,ob,oc,-,-⟩⟩,X3⟩:=x_6.out mm ml (by omega) ro
  have X23:Ext nof h h3:=⟨by have:=X3.1;omega,λm hm _=>(X3.2 m (by omega) (by omega)).trans (X2.2 m hm (λz=>z))⟩
  have x23:=X23.1
  obtain⟨t1,t2,t3,t4⟩:=t_e
  obtain⟨p1,p2,p3,p4,p5,p6⟩:=j_k
  have lc:M5_ ca=some (.int .i64 2):=by have:=(Own.rd _ (F':=B) (λ_ y=>y) _ ob).len;simpa [F6_,t1] using this
  have la:M5_ aa=some (.int .i64 1):=by have:=(Own.rd _ (F':=C) (λ_ y=>y) _ oc).len;simpa [b7_,t3] using this
  obtain⟨H4,hH4⟩:∃H4,H4=h3++[some (a5_.arr 5 [[ma,ca,aa,.int .i64 ((knR 9).tick 0).o.first,.bool ((knR 9).tick 0).o.restore]] false)]++[some (a5_.arr 1 [[.int .u8 7]] false)]:=⟨_,rfl⟩
  have X4:Ext nof h3 H4:=by rw[hH4];exact Ext.b2 _ _
  have l4:H4.length=h3.length+2:=by rw[hH4];simp
  have C0:H4[h3.length]?=some (some (a5_.arr 5 [[ma,ca,aa,.int .i64 ((knR 9).tick 0).o.first,.bool ((knR 9).tick 0).o.restore]] false)):=by rw[hH4];exact b_z _ _ _
  have C1:H4[h3.length+1]?=some (some (a5_.arr 1 [[.int .u8 7]] false)):=by rw[hH4];exact O1_ _ _ _
  simp only[go_sem,reduceEqDiff,reduceAdd,reduceLeDiff,k1,oa.scalar,ob.scalar,oc.scalar]
  rw[<-hH4]
  clear hH4
  obtain⟨L4,q3,r4⟩:=m3
  have q4:=q3.up X4
  have f10:(knR 10).fit 21:=g_n 10 (by omega)
  have dt:D_l L4 H4 (b3_ [7]) (.ref (h3.length+1) 1 0 1 (some 1)):=by
   refine⟨λm=>m=h3.length+1,?_,λm hm=>⟨by rw[hm];exact q3.ge (by omega),by omega⟩⟩
   exact⟨_,.inr (.inr ⟨_,_,_,_,_,_,rfl,rfl,C1,by simp,(λc hc=>by cases hc;simp),rfl⟩),by simp[E4_,RdL,Rd]⟩
  refine a1_ ⟨u5.1,u5.2 L4 H4 r (knR 10) 21 1 [7] _ q4 f10 (by omega) dt ⟨by intro e he;simp at he;subst he;decide,by decide⟩ (by constructor<;>decide)⟩ ?_
  rintro _ h5 ⟨w,rfl,ro5⟩
  obtain⟨L5,m5,e5,⟨mb,cb,ab,rfl,oa5,ob5,oc5,-,-⟩,X5⟩:=ro5.split q4
  have D0:=(X5.2 h3.length (by omega) (by show ¬wA (L4 h3.length);rw[q3.ge (J_4 _)];exact wA0)).trans C0
  have x5:=X5.1
  have lb:M5_ ab=some (.int .i64 1):=by have:=(Own.rd _ (F':=λm=>(H4.length<=m/\m<h5.length)/\L5 m=5) (λ_ y=>y) _ oc5).len;simpa [b7_,p4] using this
  rw[p1,p2,p3]at *
  simp only[go_sem,reduceEqDiff,reduceAdd,reduceLeDiff,k1,oa5.scalar,ob5.scalar,oc5.scalar]
  have C6:=λa=>(Ext.b1 a).get D0
  have m6:=m5.up (Ext.b1 (some (a5_.arr 5 [[mb,cb,ab,.int .i64 2,.bool ((knR 10).propose 1 [7]).2.1.o.restore]] false)))
  refine j4_ u4.1 (u4.2 _ r _ m6.row) ?_
  simp only[go_sem,reduceEqDiff,reduceAdd,decide_true,k1,C6,p6,t2,lc,la,lb]
  refine j4_ u6.1 (u6.2 _ r _ m6.row) ?_
  simp only[go_sem,reduceEqDiff,decide_true,p5]
  have X45:Ext nof h h5:=by
   refine⟨by omega,λm hm _=>(X5.2 m (by omega) (λz=>?_)).trans ((X4.2 m (by omega) (λy=>y)).trans (X23.2 m hm (λy=>y)))⟩
   have:=r4 m z;omega
  exact X45.tr (Ext.b1 _)
instance (l:List Int):Decidable (c2_ l):=by unfold c2_;infer_instance
instance (n:Int):Decidable (e2_ n):=by unfold e2_;infer_instance
instance (e:e0_):Decidable e.fit:=by unfold e0_.fit;infer_instance
instance (w:j2_):Decidable w.well:=by unfold j2_.well;infer_instance
end Glb
