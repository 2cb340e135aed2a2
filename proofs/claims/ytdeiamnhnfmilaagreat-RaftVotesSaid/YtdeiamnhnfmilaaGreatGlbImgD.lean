/-
  A library of its own.
-/
import Derived.Test.YtdeiamnhnfmilaaGreatGlbImgC
set_option linter.unusedSimpArgs false
set_option linter.unusedVariables false
set_option maxRecDepth 10000
set_option maxHeartbeats 8000000
open Nat (reduceAdd reduceEqDiff reduceLeDiff)
namespace Glb
open Go
theorem C_2 {P:Program}{f g:FuncId}(hf:Is P f (j1_ g))(hg:Is P g e4_){F:Nat->Prop}{h:a0_}{s q:Nat}{st:Rdr}(hs:e_d F h s q st):
  a6_ P f [.ptr s 2 0 0] h λr h'=>r=.int .i64 st.end_/\h'=h:=by
 refine a4_ hf.1 (J_y rfl) ?_
 show vc P (j1_ g).code ⟨[(0,.ptr s 2 0 0)],[],h⟩ (b2_ (j1_ g).res _)
 obtain⟨b,st',hs,rfl⟩:=hs
 have B:=hs.1
 simp only[j1_,go_sem,reduceEqDiff,reduceAdd,B]
 cases b with
 | true=>
  simp only[go_sem,reduceEqDiff]
  exact rfl
 | false=>
  simp only[go_sem,reduceEqDiff,B]
  refine j4_ hg.2 (f_b hg hs.2.1) ?_
  simp only[go_sem,reduceEqDiff]
  exact rfl
def v3_.ahead (a b:v3_):Bool:=decide (a.txn<b.txn) || (decide (a.txn=b.txn) && decide (a.part<b.part))
def n_e (P:Program)(f:FuncId):Prop:=f2_ P f=true/\∀(h:a0_)(a b:v3_)(as bs:List AV),as=[.int .i64 a.txn,.int .i64 a.part,.int .i64 a.promised,.int .i64 a.ballot,.int .i64 a.value]->bs=[.int .i64 b.txn,.int .i64 b.part,.int .i64 b.promised,.int .i64 b.ballot,.int .i64 b.value]->
 a6_ P f [.agg as,.agg bs] h λr h'=>r=.bool (a.ahead b)/\h'=h
theorem e_p {P:Program}{f:FuncId}(hf:Is P f w9_):n_e P f:=by
 refine⟨hf.2,λh a b as bs e1 e2=>obs rfl (a4_ hf.1 (J_y rfl) ?_)⟩
 subst e1;subst e2
 show vc P w9_.code ⟨[(0,.agg _),(1,.agg _)],[],h⟩ (b2_ w9_.res _)
 simp only[w9_,go_sem,reduceEqDiff,reduceAdd]
 by_cases c1:a.txn<b.txn
 ·simp only[go_sem,reduceEqDiff,decide_eq_true c1]
  exact⟨by simp[v3_.ahead,c1],Ext.b2 _ _⟩
 ·simp only[go_sem,reduceEqDiff,decide_eq_false c1]
  by_cases c2:a.txn=b.txn
  ·simp only[go_sem,reduceEqDiff,reduceAdd,decide_eq_true c2]
   exact⟨by simp[v3_.ahead,c2],Ext.b2 _ _⟩
  ·simp only[go_sem,reduceEqDiff,decide_eq_false c2]
   exact⟨by simp[v3_.ahead,c1,c2],Ext.b2 _ _⟩
def g5_ (l:List Int):e3_×Int:=
 if (j3_.dec (some l)).2.end_≠0 then (⟨[],[],[]⟩,(j3_.dec (some l)).2.end_) else if (j3_.dec (some l)).1.right=true then ((j3_.dec (some l)).1,0) else (⟨[],[],[]⟩,29)
theorem e_d.up {F:Nat->Prop}{h h':a0_}{s q:Nat}{st:Rdr}(hs:e_d F h s q st)(e:Ext nof h h'):e_d F h' s q st:=by
 obtain⟨b',s',S',e'⟩:=hs;exact⟨b',s',S'.up e,e'⟩
theorem e_d.set {F:Nat->Prop}{h:a0_}{s q:Nat}{st:Rdr}(hs:e_d F h s q st){n:Nat}(hn:s<n)(x:Option a5_):e_d F (h.set n x) s q st:=by
 obtain⟨b',s',S',e'⟩:=hs;exact⟨b',s',S'.set hn x,e'⟩
theorem k_8 {F:Nat->Prop}{h:a0_}{q:Nat}{st:Rdr}(hr:M6_ F h q st)(hF:∀m,F m->m<q):R4_ F (h++[some (.arr 2 [[.ptr q 2 0 0,.bool false]] false)]) h.length q false st:=
 ⟨x3_ _ _,hr.up (Ext.b1 _),hF,hr.lt⟩
theorem Rdr.end_zero {st:Rdr}(h:st.end_=0):st=some []:=by
 cases st with
 | none=>cases h
 | some l=>cases l with
  | nil=>rfl
  | cons a l=>simp[Rdr.end_]at h
def v_f (P:Program)(f:FuncId):Prop:=f2_ P f=true/\∀(G:Nat->Prop)(h:a0_)(x:x1_)(as:List AV),RdL G h x.c as->x4_.ok x->(x4_.enc x).length<=2^33->
 a6_ P f [.agg as] h λr h'=>∃(d v:AV)(k:Nat),r=.agg [d,v]/\Own (d_t x.hards) (λm=>h.length<=m/\m<k) h' d/\Own (A9_ x.votes) (λm=>k<=m) h' v/\h.length<=k/\Ext nof h h'
def o_f (P:Program)(f:FuncId):Prop:=f2_ P f=true/\∀(G:Nat->Prop)(h:a0_)(x:b9_)(as:List AV),RdL G h x.c as->o9_.ok x->(o9_.enc x).length<=2^33->
 a6_ P f [.agg as] h λr h'=>∃bs,r=.agg bs/\g2_ x.c (λm=>h.length<=m) h' bs/\Ext nof h h'
def O6_ (P:Program)(f:FuncId):Prop:=f2_ P f=true/\∀(G:Nat->Prop)(h:a0_)(l:List Int)(b:AV),Rd G h (b3_ l) b->c2_ l->l.length<=2^37->
 a6_ P f [b] h λr h'=>∃as,r=.tup [.agg as,.int .i64 (g5_ l).2]/\g2_ (g5_ l).1.c (λm=>h.length<=m) h' as/\Ext nof h h'
theorem v6_ {F F':Nat->Prop}{h h':a0_}:∀{l:List v3_} {ys:List (List AV)},a8_ (l.map v3_.c) F h ys->a8_ (l.map v3_.c) F' h' ys
 | [],ys,hh=>hh
 | v :: l,ys,hh=>by
  obtain⟨a,r,rfl,h1,h2⟩:=hh
  obtain rfl:=i_4 h1
  exact⟨_,r,rfl,⟨_,_,rfl,c3_ _ _ _,_,_,rfl,c3_ _ _ _,_,_,rfl,c3_ _ _ _,_,_,rfl,c3_ _ _ _,_,_,rfl,c3_ _ _ _,rfl⟩,v6_ h2⟩
theorem g_d {F:Nat->Prop}{h:a0_}{l:List v3_}{a:AV}{k:Nat}(ho:Own (A9_ l) F h a)(hn:G1_ k 5 a):Own (A9_ l) (λm=>k<=m) h a:=by
 simp only[A9_,Own]at ho ⊢
 rcases ho with ho | ho | ⟨n,off,cap,row,g,rfl,h1,h2,h3,h4,h5⟩
 ·exact .inl ho
 ·exact .inr (.inl ho)
 ·exact .inr (.inr ⟨n,off,cap,row,g,rfl,hn _ _ _ _ rfl,h2,h3,h4,v6_ h5⟩)
theorem x_f {P:Program}{f pu rd hd lh vt lv:FuncId}(hf:Is P f (w8_ pu rd hd lh vt lv))(hp:m_4 P pu)(hr:q_v P rd)(hh:Z3_ P hd d7_.c D0_.dec)(hlh:k_t P lh 10 d7_.c D0_.dec)(hv:Z3_ P vt v3_.c v9_.dec)(hlv:k_t P lv 5 v3_.c v9_.dec):v_f P f:=by
 refine⟨hf.2,λG h x as hx hok hlen=>a4_ hf.1 (J_y rfl) ?_⟩
 obtain⟨xd,xv,rfl,hd0,hv0⟩:=g_a hx
 show vc P (w8_ pu rd hd lh vt lv).code ⟨[(0,.agg [xd,xv])],[],h⟩ (b2_ (w8_ pu rd hd lh vt lv).res _)
 simp only[w8_,go_sem,reduceEqDiff,reduceAdd,reduceLeDiff,hd0.scalar,hv0.scalar]
 have A0:=O1_ h (some (.arr 2 [[xd,xv]] false)) (some (.arr 2 [[.nils,.nils]] false))
 have X0:Ext nof h (h++[some (.arr 2 [[xd,xv]] false)]++[some (.arr 2 [[.nils,.nils]] false)]):=Ext.b2 _ _
 have l0:h.length+2=(h++[some (a5_.arr 2 [[xd,xv]] false)]++[some (a5_.arr 2 [[.nils,.nils]] false)]).length:=by simp
 have hx0:=hx.up X0
 generalize h++[some (a5_.arr 2 [[xd,xv]] false)]++[some (a5_.arr 2 [[.nils,.nils]] false)]=H0 at *
 refine j4_ hp.1 (hp.2 G H0 x _ hx0 hlen) ?_
 simp only[go_sem,reduceEqDiff]
 have hbo:c2_ (x4_.enc x):=x4_.bytes x hok
 have back:=x4_.back x [] hok
 rw[K_2]at back
 generalize hl:x4_.enc x=l at *
 have hb:Rd nof H0 (b3_ l) (k0_ l):=g6_ _ _ _
 refine a1_ ⟨hr.1,hr.2 nof H0 l _ hb hbo (by omega)⟩ ?_
 rintro _ h1 ⟨q,rfl,hq,r1,x1⟩
 simp only[go_sem,reduceEqDiff,reduceAdd,reduceLeDiff]
 have S1:=k_8 r1 (λm hm=>hm.2)
 have lq:=r1.lt
 have X1:Ext nof H0 (h1++[some (.arr 2 [[.ptr q 2 0 0,.bool false]] false)]):=x1.tr (Ext.b1 _)
 have lb:h1.length<(h1++[some (a5_.arr 2 [[.ptr q 2 0 0,.bool false]] false)]).length:=by simp
 generalize h1++[some (a5_.arr 2 [[.ptr q 2 0 0,.bool false]] false)]=H1 at *
 refine a1_ ⟨hlh.1,hlh.2 hd hh D0_.bad _ H1 h1.length q _ ⟨false,_,S1,rfl⟩⟩ ?_
 rintro a H2 ⟨xs,hO,-,S2,X2,hxx⟩
 simp only[go_sem,reduceEqDiff,reduceAdd,reduceLeDiff,hO.scalar,b5_ hO.scalar]
 have S3:=S2.up (Ext.b1 (some (.arr 2 [[a,.nils]] false)))
 have A3:=x3_ H2 (some (.arr 2 [[a,.nils]] false))
 have X3:Ext (two h1.length q) H1 (H2++[some (.arr 2 [[a,.nils]] false)]):=X2.trans (Ext.b1 _) (λ_ _ x=>x) (λ_ _ x=>x.elim)
 have hO3:=Own.mono (F':=λm=>(H0.length<=m/\m<q)\/H1.length<=m/\m<H2.length) _ (λm hm=>by rcases hm.1 with hm' | hm';exact .inl hm';exact .inr ⟨hm',hm.2⟩) ((Ext.b1 (h:=H2) (some (.arr 2 [[a,.nils]] false))).keep _) _ (Own.lt _ _ hO)
 have l2:=X2.1
 have l3:H2.length+1=(H2++[some (a5_.arr 2 [[a,.nils]] false)]).length:=by simp
 generalize H2++[some (a5_.arr 2 [[a,.nils]] false)]=H3 at *
 refine a1_ ⟨hlv.1,hlv.2 vt hv v9_.bad _ H3 h1.length q _ S3⟩ ?_
 rintro v H4 ⟨ys,hV,hNV,S4,X4,hy⟩
 have lx:=x1.1
 have A4:H4[H2.length]?=_:=(X4.2 _ (by omega) (by simp only[two];omega)).trans A3
 have l4:=X4.1
 have l4':H2.length<H4.length:=by omega
 have A5:H4[h.length+1]?=_:=(((X1.trans X3 (F'':=two h1.length q) (λ_ _ x=>x.elim) (λ_ _ x=>x)).trans X4 (λ_ _ x=>x) (λ_ _ x=>x)).2 _ (by omega) (by simp only[two];omega)).trans A0
 have XX:Ext nof h (H4.set H2.length (some (.arr 2 [[a,v]] false))):=((((X0.trans X1 (λ_ _ x=>x) (λ_ _ x=>x)).trans X3 (F'':=nof) (λ_ _ x=>x) (λm hm hm'=>by simp only[two]at hm';omega)).trans X4 (F'':=nof) (λ_ _ x=>x) (λm hm hm'=>by simp only[two]at hm';omega))).put (by omega) _
 have S5:=S4.set (n:=H2.length) (by omega) (some (.arr 2 [[a,v]] false))
 have A6:(H4.set H2.length (some (.arr 2 [[a,v]] false)))[H2.length]?=_:=J_0 l4'
 have A7:(H4.set H2.length (some (.arr 2 [[a,v]] false)))[h.length+1]?=_:=(J_x (by omega)).trans A5
 have oA:Own (d_t xs) (λm=>h.length<=m/\m≠h.length+1) (H4.set H2.length (some (.arr 2 [[a,v]] false))) a:=Own.mono _ (λm hm=>by omega) (λm hm y hy=>by
  rw[J_x (by omega),X4.2 m (by omega) (by simp only[two];omega)];exact hy) _ hO3
 have oV:Own (A9_ ys) (λm=>h.length<=m/\m≠h.length+1) (H4.set H2.length (some (.arr 2 [[a,v]] false))) v:=Own.mono _ (λm hm=>by omega) (λm hm y hy=>by
  rw[J_x (by omega)];exact hy) _ hV
 have dl:x4_.dec (some l)=(⟨(l0_ D0_.dec (some l)).1,(l0_ v9_.dec (l0_ D0_.dec (some l)).2).1⟩,(l0_ v9_.dec (l0_ D0_.dec (some l)).2).2):=rfl
 have ne5:(H2.length=h.length+1)=False:=eq_false (by omega)
 have h3:h.length+1<H4.length:=by omega
 simp only[go_sem,reduceEqDiff,reduceAdd,reduceLeDiff,hV.scalar,b5_ hV.scalar,hO3.scalar,A4,l4',A5,ne5,h3,J_2]
 have ef:Rdr.if_ false (some l)=some l:=rfl
 rw[ef]at hxx hy
 rw[dl]at back
 have b1:=congrArg Prod.fst back
 have b2:=congrArg Prod.snd back
 simp only at b1 b2
 have hd2:(l0_ D0_.dec (some l)).2≠none:=λhz=>by rw[hz,show (l0_ v9_.dec none).2=none from (g_l v9_).bad]at b2;cases b2
 have exy:x=⟨xs,ys⟩:=by rw[<-b1,hxx hd2,hy (by rw[b2];simp)]
 subst exy
 refine⟨a,v,H3.length,rfl,?_,?_,by omega,XX.put (by omega) _⟩
 ·refine Own.mono _ (λm hm=>by omega) (λm hm y hy=>?_) _ hO3
  rw[J_x (by omega),J_x (by omega),X4.2 m (by omega) (by simp only[two];omega)];exact hy
 ·refine Own.mono _ (λm hm=>hm) (λm hm y hy=>?_) _ (g_d hV hNV)
  rw[J_x (by omega),J_x (by omega)];exact hy
theorem e_r {P:Program}{f pu rd ch:FuncId}(hf:Is P f (k9_ pu rd ch))(hp:e_z P pu b9_.c o9_.enc)(hr:q_v P rd)(hc:Z3_ P ch b9_.c o9_.dec):o_f P f:=by
 refine⟨hf.2,λG h x as hx hok hlen=>a4_ hf.1 (J_y rfl) ?_⟩
 show vc P (k9_ pu rd ch).code ⟨[(0,.agg as)],[],h⟩ (b2_ (k9_ pu rd ch).res _)
 have ha:as.length=17:=by rw[Q0_ hx];rfl
 have hsc:=hx.scalars
 have tk:as.take 17=as:=K_r (by omega)
 have CH:(AV.agg as).cells?=some as:=rfl
 simp only[k9_,go_sem,reduceEqDiff,reduceAdd,reduceLeDiff,ha,hsc,tk]
 generalize hz:(a5_.arr 17 [[.int .i64 0,.int .i64 0,.int .i64 0,.int .i64 0,.int .i64 0,.int .i64 0,.int .i64 0,.nils,.nils,.nils,.nils,.nils,.int .i64 0,.int .i64 0,.int .i64 0,.int .i64 0,.int .i64 0]] false)=Z
 have A0:=O1_ h (some (.arr 17 [as] false)) (some Z)
 have X0:Ext nof h (h++[some (.arr 17 [as] false)]++[some Z]):=Ext.b2 _ _
 have l0:h.length+2=(h++[some (a5_.arr 17 [as] false)]++[some Z]).length:=by simp
 have hx0:=hx.up X0
 generalize h++[some (a5_.arr 17 [as] false)]++[some Z]=H0 at *
 refine j4_ hp.1 (hp.2 nof G H0 [] .nils x as (Rd.nils 1) hx0 (by simpa using hlen)) ?_
 simp only[go_sem,reduceEqDiff]
 have hbo:c2_ (o9_.enc x):=o9_.bytes x hok
 have back:=o9_.back x [] hok
 rw[K_2]at back
 generalize hl:o9_.enc x=l at *
 have hb:Rd nof H0 (b3_ l) (k0_ l):=g6_ _ _ _
 refine a1_ ⟨hr.1,hr.2 nof H0 l _ hb hbo (by omega)⟩ ?_
 rintro _ h1 ⟨q,rfl,hq,r1,x1⟩
 simp only[go_sem,reduceEqDiff,reduceAdd,reduceLeDiff]
 have S1:=k_8 r1 (λm hm=>hm.2)
 have lq:=r1.lt
 have X1:Ext nof H0 (h1++[some (.arr 2 [[.ptr q 2 0 0,.bool false]] false)]):=x1.tr (Ext.b1 _)
 have lb:h1.length<(h1++[some (a5_.arr 2 [[.ptr q 2 0 0,.bool false]] false)]).length:=by simp
 generalize h1++[some (a5_.arr 2 [[.ptr q 2 0 0,.bool false]] false)]=H1 at *
 refine a1_ ⟨hc.1,hc.2 _ H1 h1.length q _ ⟨false,_,S1,rfl⟩⟩ ?_
 rintro _ H2 ⟨y,bs,rfl,hO,S2,X2,hy⟩
 have lx:=x1.1
 have l2:=X2.1
 have A2:H2[h.length+1]?=_:=((X1.trans X2 (F'':=two h1.length q) (λ_ _ x=>x.elim) (λ_ _ x=>x)).2 _ (by omega) (by simp only[two];omega)).trans A0
 have hb2:bs.length=17:=by rw[y0_ hO];rfl
 have hs2:=hO.scalars
 have sm:∀z:List AV,z.length=17->setMany z 0 bs=bs:=λz hz=>J6_ (by omega)
 have l3:h.length+1<H2.length:=by omega
 subst hz
 have tk2:bs.take 17=bs:=K_r (by omega)
 simp only[go_sem,reduceEqDiff,reduceAdd,reduceLeDiff,A2,l3,hb2,hs2,sm,tk2]
 have ef:Rdr.if_ false (some l)=some l:=rfl
 rw[ef,back]at hy
 rw[hy (by simp)]at hO
 exact⟨_,rfl,g2_.mono _ (λm hm=>by omega) (λm hm y hy=>by rw[J_x (by omega)];exact hy) _ hO,((((X0.trans X1 (λ_ _ x=>x) (λ_ _ x=>x)).trans X2 (F'':=nof) (λ_ _ x=>x) (λm hm hm'=>by simp only[two]at hm';omega)))).put (by omega) _⟩
theorem x_n {l r:List Int}{x:e3_}(hb:c2_ l)(h:j3_.dec (some l)=(x,some r)):8*x.old.length<=l.length/\8*x.new.length<=l.length/\8*x.learners.length<=l.length/\l=j3_.enc x++r/\j3_.ok x:=by
 obtain⟨e,ok⟩:=j3_.only l x r hb h
 have h1:=f3_ x.old
 have h2:=f3_ x.new
 have h3:=f3_ x.learners
 have e2:=congrArg List.length e
 rw[d_v]at e2
 simp only[e3_.bytes,J_z]at e2
 exact⟨by omega,by omega,by omega,e,ok⟩
theorem q_z {P:Program}{f rd co en e0 ck:FuncId}(hf:Is P f (s7_ rd co en ck))(hr:q_v P rd)(hc:Z3_ P co e3_.c j3_.dec)(he:Is P en (j1_ e0))(he0:Is P e0 e4_)(hk:h_q P ck):O6_ P f:=by
 refine⟨hf.2,λG h l b hb hbo hlen=>a4_ hf.1 (J_y rfl) ?_⟩
 show vc P (s7_ rd co en ck).code ⟨[(0,b)],[],h⟩ (b2_ (s7_ rd co en ck).res _)
 simp only[s7_,go_sem,reduceEqDiff,reduceAdd]
 have A0:=x3_ h (some (.arr 3 [[.nils,.nils,.nils]] false))
 have X0:Ext nof h (h++[some (.arr 3 [[.nils,.nils,.nils]] false)]):=Ext.b1 _
 have l0:h.length+1=(h++[some (a5_.arr 3 [[.nils,.nils,.nils]] false)]).length:=by simp
 have hb:=hb.up X0
 generalize h++[some (a5_.arr 3 [[.nils,.nils,.nils]] false)]=H0 at *
 refine a1_ ⟨hr.1,hr.2 G H0 l b hb hbo (by omega)⟩ ?_
 rintro _ h1 ⟨q,rfl,hq,r1,x1⟩
 simp only[go_sem,reduceEqDiff,reduceAdd,reduceLeDiff]
 have S1:=k_8 r1 (λm hm=>hm.2)
 have lq:=r1.lt
 have X1:Ext nof H0 (h1++[some (.arr 2 [[.ptr q 2 0 0,.bool false]] false)]):=x1.tr (Ext.b1 _)
 have lb:h1.length<(h1++[some (a5_.arr 2 [[.ptr q 2 0 0,.bool false]] false)]).length:=by simp
 generalize h1++[some (a5_.arr 2 [[.ptr q 2 0 0,.bool false]] false)]=H1 at *
 refine a1_ ⟨hc.1,hc.2 _ H1 h1.length q _ ⟨false,_,S1,rfl⟩⟩ ?_
 rintro _ H2 ⟨y,as,rfl,hO,S2,X2,hy⟩
 obtain⟨o,n,e,rfl,h1o,h2o,h3o⟩:=c_1 hO
 have lx:=x1.1
 have l2:=X2.1
 have A2:H2[h.length]?=_:=((X1.trans X2 (F'':=two h1.length q) (λ_ _ x=>x.elim) (λ_ _ x=>x)).2 _ (by omega) (by simp only[two];omega)).trans A0
 have XX:Ext nof h (H2++[some (.arr 3 [[o,n,e]] false)]):=((((X0.trans X1 (λ_ _ x=>x) (λ_ _ x=>x)).trans X2 (F'':=nof) (λ_ _ x=>x) (λm hm hm'=>by simp only[two]at hm';omega)))).tr (Ext.b1 _)
 simp only[go_sem,reduceEqDiff,reduceAdd,reduceLeDiff,h1o.scalar,h2o.scalar,h3o.scalar]
 have S3:=S2.up (Ext.b1 (some (.arr 3 [[o,n,e]] false)))
 have A3:=x3_ H2 (some (.arr 3 [[o,n,e]] false))
 have A4:(H2++[some (.arr 3 [[o,n,e]] false)])[h.length]?=_:=(p_n (by omega) _).trans A2
 have l3:H2.length+1=(H2++[some (a5_.arr 3 [[o,n,e]] false)]).length:=by simp
 have hO3:g2_ y.c (λm=>h.length<=m/\m≠h.length) (H2++[some (.arr 3 [[o,n,e]] false)]) [o,n,e]:=g2_.mono _ (λm hm=>by omega) ((Ext.b1 _).keep _) _ hO
 generalize H2++[some (a5_.arr 3 [[o,n,e]] false)]=H3 at *
 have ef:Rdr.if_ false (some l)=some l:=rfl
 rw[ef]at hy S3
 simp only[g5_]
 have few:j3_.dec (some l)=((j3_.dec (some l)).1,some [])->(j3_.dec (some l)).1.few (2^38):=λhh=>by obtain⟨n1,n2,n3,-⟩:=x_n hbo hh;exact⟨by omega,by omega,by omega⟩
 generalize j3_.dec (some l)=R at *
 refine j4_ he.2 (C_2 he he0 S3) ?_
 have l4:h.length<H3.length:=by omega
 have fin:∀(d w z:AV)(x:e3_),g2_ x.c (λm=>h.length<=m/\m≠h.length) H3 [d,w,z]->g2_ x.c (λm=>h.length<=m) (H3.set h.length (some (.arr 3 [[d,w,z]] false))) [d,w,z]/\Ext nof h (H3.set h.length (some (.arr 3 [[d,w,z]] false))):=by
  intro d w z x o1
  exact⟨g2_.mono _ (λm hm=>hm.1) (λm hm y hy=>by rw[J_x (by omega)];exact hy) _ o1,XX.put (by omega) _⟩
 have none':=fin .nils .nils .nils ⟨[],[],[]⟩ ⟨_,_,rfl,Own.nils _,_,_,rfl,Own.nils _,_,_,rfl,Own.nils _,rfl⟩
 simp only[go_sem,reduceEqDiff]
 by_cases c:R.2.end_=0
 ·have es:=Rdr.end_zero c
  have ey:=hy (by rw[es];simp)
  subst ey
  have fw:=few (by rw[<-es])
  have R3:RdL (λ_=>True) H3 R.1.c [o,n,e]:=g2_.rd _ (λ_ _=>trivial) _ hO3
  have c':¬R.2.end_≠0:=by simpa using c
  rw[if_neg c']
  simp only[go_sem,reduceEqDiff,reduceAdd,reduceLeDiff,decide_true,c,A3]
  refine j4_ hk.1 (hk.2 _ H3 R.1 _ R3 fw) ?_
  cases cr:R.1.right with
  | true=>
   simp only[go_sem,reduceEqDiff,reduceAdd,reduceLeDiff,decide_true,A3,A4,l4,h1o.scalar,h2o.scalar,h3o.scalar]
   exact⟨_,rfl,fin o n e _ hO3⟩
  | false=>
   have n29:decide ((29:Int)=0)=false:=rfl
   simp only[go_sem,reduceEqDiff,reduceAdd,reduceLeDiff,n29,A4,l4]
   exact⟨_,rfl,none'⟩
 ·have c':R.2.end_≠0:=c
  rw[if_pos c']
  simp only[go_sem,reduceEqDiff,reduceAdd,reduceLeDiff,decide_eq_false c,A4,l4]
  exact⟨_,rfl,none'⟩
end Glb
