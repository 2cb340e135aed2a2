/-
  A library of its own.
-/
import Derived.Test.YtdeiamnhnfmilaaGreatGlbCconfof
import Derived.Test.YtdeiamnhnfmilaaGreatGlbConD
import Derived.Test.YtdeiamnhnfmilaaGreatGlbGetA
set_option linter.unusedSimpArgs false
set_option linter.unusedVariables false
set_option maxRecDepth 10000
set_option maxHeartbeats 8000000
open Nat (reduceAdd reduceDiv reduceEqDiff reduceLeDiff reduceMod reducePow)
namespace Glb
open Go
theorem m_n (Kn:a0_->Prop)(Ks:AX->a0_->Prop)(st:St):d_x Kn Ks .normal ⟨none,false,st⟩=Kn st.h:=by simp[d_x]
theorem x_i (Kn:a0_->Prop)(Ks:AX->a0_->Prop)(x:AX)(st:St):d_x Kn Ks .ret ⟨some x,false,st⟩=Ks x st.h:=by simp[d_x]
def o_j (P:Program)(f:FuncId):Prop:=f2_ P f=true/\∀(Y:Yl)(J:Nat->a0_->Prop)(Ks:AX->a0_->Prop)(G:Nat->Prop)(h:a0_)(nb:Nat)(a:AV)(l:List e0_),
 (∀avs h (R R':Option AX->a0_->Prop),(∀j h,R j h->R' j h)->Y avs h R->Y avs h R')->l.length<=2^40->J l.length h->
 (∀k h',J k h'->h'[nb]?=some (some (.arr 1 [[a]] false))/\Rd G h' (b7_ l) a)->
 (∀k h' d (R:Option AX->a0_->Prop) (hk:k<l.length),J (k+1) h'->Rd G h' (b3_ l[k].data) d->(∀h2,J k h2->R none h2)->(∀x h2,Ks x h2->R (some x) h2)->Y [.int .i64 k,.agg [.int .i64 l[k].term,.int .i64 l[k].kind,d]] h' R)->
 v_p P f [.ptr nb 1 0 0] h Y (J 0) Ks
theorem u_n {P:Program}{f:FuncId}(hf:IsR P true f d5_):o_j P f:=by
 refine⟨hf.1,λY J Ks G h nb a l hY hl hJ0 hJ hB=>l_g hf.2 rfl (J_y rfl) λy=>?_⟩
 show rvc P y Y d5_.code ⟨none,false,⟨[(0,.raw (.func (.yield y) #[] #[])),(1,.ptr nb 1 0 0)],[],h⟩⟩ (d_x (J 0) Ks)
 obtain⟨b1,hr⟩:=hJ _ h hJ0
 have la:M5_ a=some (.int .i64 l.length):=by have:=hr.len;simpa [b7_] using this
 have e0:IntKind.i64.wrap ((l.length:Int)-1)=l.length-1:=a7_ (by omega)
 simp only[d5_,go_sem,reduceEqDiff,b1,la,e0]
 obtain⟨I,hI⟩:∃I:Nat->Env->a0_->Prop,∀m L h',I m L h'↔lk 0 L=.raw (.func (.yield y) #[] #[])/\lk 1 L=.ptr nb 1 0 0/\lk 3 L=.int .i64 (m-1)/\J m h'/\m<=l.length:=⟨_,λ_ _ _=>Iff.rfl⟩
 refine v_9 hY I l.length ((hI _ _ _).2 ⟨by simp[a3_,c9_],by simp[a3_,c9_],by simp[a3_],hJ0,by omega⟩) ?_
 intro m L h' hh
 obtain⟨k0,k1,k3,hJk,hk⟩:=(hI _ _ _).1 hh
 obtain⟨b1,hr⟩:=hJ m h' hJk
 simp only[go_sem,k3]
 refine b0_ (λck=>?_) (λck=>?_)
 ·simp at ck
  obtain⟨k,rfl⟩:∃k,m=k+1:=⟨m-1,by omega⟩
  have hkl:k<l.length:=by omega
  have ek:((k+1:Nat):Int)-1=k:=by omega
  have e1:IntKind.i64.wrap ((k:Int)-1)=k-1:=a7_ (by omega)
  rw[ek]at k3
  obtain⟨p,cs,i1,i2,i3⟩:=Rd.index hr .i64 (i:=(k:Int)) (d:=l[k].c) (by omega) (by rw[show ((k:Int)).toNat=k by omega,K_s,J_5 hkl];rfl)
  obtain⟨d,rfl,hd⟩:=n_m i3
  have ld:o5_ h' true 3 p=some (.agg [.int .i64 l[k].term,.int .i64 l[k].kind,d]):=by rw[n2_ i2];rfl
  simp only[go_sem,reduceEqDiff,k0,k1,k3,b1,i1,ld]
  refine hB k h' d _ hkl hJk hd ?_ ?_
  ·intro h2 hj2
   simp only[go_sem,reduceEqDiff,M_d,K_l,k3,e1]
   exact⟨k,by omega,(hI _ _ _).2 ⟨by simp[a3_,k0],by simp[a3_,k1],by simp[a3_],hj2,by omega⟩⟩
  ·intro x h2 hk2
   simp only[go_sem,L_p,K_u,x_i]
   exact hk2
 ·simp at ck
  have:m=0:=by omega
  subst this
  simp only[go_sem,m_n]
  exact hJk
def B7_ (l:List e0_):Nat->Option (e3_×Nat)
 | 0=>none
 | k+1=>match l[k]? with
  | none=>B7_ l k
  | some e=>if e.kind=2/\(g5_ e.data).2=0 then some ((g5_ e.data).1,k) else B7_ l k
def d7_.ofN (x:d7_)(k:Nat):e3_×Int:=match B7_ x.log.es k with
 | none=>(x.conf,x.log.base)
 | some (c,k)=>(c,x.log.base+1+k)
def d7_.of (x:d7_):e3_×Int:=x.ofN x.log.es.length
theorem d7_.ofN_step {x:d7_}{k:Nat}(hk:k<x.log.es.length):x.ofN (k+1)=if x.log.es[k].kind=2/\(g5_ x.log.es[k].data).2=0 then ((g5_ x.log.es[k].data).1,x.log.base+1+k) else x.ofN k:=by
 have e1:B7_ x.log.es (k+1)=if x.log.es[k].kind=2/\(g5_ x.log.es[k].data).2=0 then some ((g5_ x.log.es[k].data).1,k) else B7_ x.log.es k:=by rw[B7_,J_5 hk]
 unfold d7_.ofN
 rw[e1]
 by_cases c:x.log.es[k].kind=2/\(g5_ x.log.es[k].data).2=0
 ·rw[if_pos c,if_pos c]
 ·rw[if_neg c,if_neg c]
structure d7_.ofR (x:d7_):Prop where
 base:0<=x.log.base/\x.log.base<=2^41
 len:x.log.es.length<=2^40
 data:∀e∈x.log.es,c2_ e.data/\e.data.length<=2^37
 conf:x.conf.few (2^40)
def D_y (P:Program)(f:FuncId):Prop:=f2_ P f=true/\∀(G:Nat->Prop)(h:a0_)(x:d7_)(ags:List AV),RdL G h x.c ags->x.ofR->
 a6_ P f [.agg ags] h λr h'=>∃cs,r=.tup [.agg cs,.int .i64 x.of.2]/\g2_ x.of.1.c (λm=>h.length<=m) h' cs/\Ext nof h h'
def y_r (P:Program)(f sf:FuncId):Prop:=f2_ P f=true/\∀(h:a0_)(a:AV),a.scalar=true->a6_ P f [a] h λr h'=>r=.clo sf [] [.ptr h.length 1 0 0]/\h'[h.length]?=some (some (.arr 1 [[a]] false))/\Ext nof h h'
theorem u_o {P:Program}{f sf:FuncId}(hf:Is P f (c8_ sf)):y_r P f sf:=by
 refine⟨hf.2,λh a sa=>a4_ hf.1 (J_y rfl) ?_⟩
 show vc P (c8_ sf).code ⟨[(0,a)],[],h⟩ (b2_ (c8_ sf).res _)
 simp only[c8_,go_sem,reduceEqDiff,reduceAdd,sa,b5_ sa]
 exact Ext.b1 _
theorem i_5 {x:e3_}{F:Nat->Prop}{h:a0_}{a:List AV}(hh:g2_ x.c F h a):∃o n e,a=[o,n,e]/\Own (b1_ x.old) F h o/\Own (b1_ x.new) F h n/\Own (b1_ x.learners) F h e:=by
 simp only[e3_.c,g2_]at hh
 obtain⟨o,_,rfl,ho,n,_,rfl,hn,e,_,rfl,he,rfl⟩:=hh
 exact⟨o,n,e,rfl,ho,hn,he⟩
theorem D_8 {P:Program}{f g1 g2 g3 sf:FuncId}(hf:IsR P false f (M9_ g1 g2 g3))(h1:y_r P g1 sf)(hs:o_j P sf)(h2:O6_ P g2)(h3:h_p P g3):D_y P f:=by
 refine⟨hf.1,λG h x ags ha hR=>o_9 hf.2 (J_y rfl) ?_⟩
 obtain⟨e,o,n,l,s,rfl,he,ho,hn,hl,hsn⟩:=R8_ ha
 show rvc P 0 (λ_ _ _=>False) (M9_ g1 g2 g3).code ⟨none,false,⟨[(0,.agg (x.cells e o n l s))],[],h⟩⟩ (u_s (M9_ g1 g2 g3).res _)
 simp only[M9_,d7_.cells,go_sem,reduceEqDiff,reduceAdd,he.scalar,ho.scalar,hn.scalar,hl.scalar,hsn.scalar]
 obtain⟨H,hH⟩:∃H,H=h++[some (a5_.arr 10 [[.int .i64 x.group,.int .i64 x.term,.int .i64 x.vote,.int .i64 x.log.base,.int .i64 x.log.bterm,e,o,n,l,s]] false)]++[some (.arr 3 [[.nils,.nils,.nils]] false)]++[some (.arr 1 [[.int .i64 0]] false)]:=⟨_,rfl⟩
 have B0:H[h.length]?=some (some (.arr 10 [[.int .i64 x.group,.int .i64 x.term,.int .i64 x.vote,.int .i64 x.log.base,.int .i64 x.log.bterm,e,o,n,l,s]] false)):=by rw[hH];exact v_s _ _ _ _
 have B1:H[h.length+1]?=some (some (.arr 3 [[.nils,.nils,.nils]] false)):=by rw[hH];exact x_q _ _ _ _
 have B2:H[h.length+1+1]?=some (some (.arr 1 [[.int .i64 0]] false)):=by rw[hH];exact B_k _ _ _ _
 have X0:Ext nof h H:=by rw[hH];exact Ext.b3 _ _ _
 have L0:H.length=h.length+3:=by rw[hH];simp
 rw[<-hH]
 clear hH
 have hb:=hR.base
 have hlen:=hR.len
 have hcf:=hR.conf
 obtain⟨n0,hn0⟩:∃n,n=h.length:=⟨_,rfl⟩
 rw[<-hn0]at B0 B1 B2 L0 ⊢
 refine a1_ ⟨h1.1,h1.2 H e he.scalar⟩ ?_
 rintro _ H3 ⟨rfl,D0,X3⟩
 simp only[go_sem]
 have he3:=(he.up X0).up X3
 have C0:=X3.get B0
 have C1:=X3.get B1
 have C2:=X3.get B2
 have l3:n0+3<=H3.length:=by have:=X3.1;omega
 obtain⟨J,hJ⟩:∃J:Nat->a0_->Prop,∀k h',J k h'↔Ext nof H3 h'/\x.of=x.ofN k/\k<=x.log.es.length:=⟨_,λ_ _=>Iff.rfl⟩
 obtain⟨Ks,hKs⟩:∃Ks:AX->a0_->Prop,∀y h',Ks y h'↔y=.ret/\∃h1 a b c,Ext nof H3 h1/\g2_ x.of.1.c (λm=>H3.length<=m) h1 [a,b,c]/\h'=(h1.set (n0+1) (some (.arr 3 [[a,b,c]] false))).set (n0+1+1) (some (.arr 1 [[.int .i64 x.of.2]] false)):=⟨_,λ_ _=>Iff.rfl⟩
 refine r_3 (gf:=sf) (cs:=[.ptr H.length 1 0 0]) (Kn:=J 0) (Ks:=Ks) (by simp[St.get,a3_]) hs.1 (hs.2 _ J Ks G H3 _ e x.log.es (q_g _ _ _ _) hlen ((hJ _ _).2 ⟨Ext.refl _ _,rfl,J_4 _⟩) ?_ ?_) ?_ ?_
 ·intro k h' hk
  obtain⟨hx,-,-⟩:=(hJ _ _).1 hk
  exact⟨hx.get D0,he3.up hx⟩
 ·intro k h' d R hk hjk hd hn' hs'
  obtain⟨hx,hof,-⟩:=(hJ _ _).1 hjk
  rw[x_s _ _ _ _ _ _ _ rfl]
  have sd:=hd.scalar
  have mem:=hR.data _ (K_1 hk)
  have step:x.ofN (k+1)=if x.log.es[k].kind=2/\(g5_ x.log.es[k].data).2=0 then ((g5_ x.log.es[k].data).1,x.log.base+1+k) else x.ofN k:=by
   have e1:B7_ x.log.es (k+1)=if x.log.es[k].kind=2/\(g5_ x.log.es[k].data).2=0 then some ((g5_ x.log.es[k].data).1,k) else B7_ x.log.es k:=by rw[B7_,J_5 hk]
   unfold d7_.ofN
   rw[e1]
   by_cases c:x.log.es[k].kind=2/\(g5_ x.log.es[k].data).2=0
   ·rw[if_pos c,if_pos c]
   ·rw[if_neg c,if_neg c]
  rw[step]at hof
  generalize x.log.es[k]=y at *
  simp only[A_z,List.zip_cons_cons,List.zip_nil_right,go_sem,reduceEqDiff,reduceAdd,reduceLeDiff,sd]
  have ek:k<=x.log.es.length:=by omega
  have w1:IntKind.i64.wrap (x.log.base+1)=x.log.base+1:=a7_ (by omega)
  have w2:IntKind.i64.wrap (x.log.base+1+(k:Int))=x.log.base+1+k:=a7_ (by omega)
  by_cases c1:y.kind=2
  ·simp only[go_sem,reduceEqDiff,reduceAdd,decide_eq_true c1,K_l]
   have Xa:Ext nof h' (h'++[some (.arr 3 [[.int .i64 y.term,.int .i64 y.kind,d]] false)]):=Ext.b1 _
   generalize h'++[some (a5_.arr 3 [[.int .i64 y.term,.int .i64 y.kind,d]] false)]=H4 at *
   refine a1_ ⟨h2.1,h2.2 G H4 y.data d (hd.up Xa) mem.1 mem.2⟩ ?_
   rintro _ H5 ⟨ags,rfl,hown,hx5⟩
   obtain⟨a,b,c,rfl,oa,ob,oc⟩:=i_5 hown
   have X5:=(hx.tr Xa).tr hx5
   have E0:=X5.get C0
   have E1:=X5.get C1
   have E2:=X5.get C2
   have l5:=X5.1
   have X6:Ext nof H5 (H5++[some (.arr 3 [[a,b,c]] false)]):=Ext.b1 _
   have F0:=X6.get E0
   have F1:=X6.get E1
   have F2:=X6.get E2
   have F3:(H5++[some (a5_.arr 3 [[a,b,c]] false)])[H5.length]?=_:=x3_ _ _
   have lH4:H3.length<=H4.length:=(hx.tr Xa).1
   have ow:g2_ (g5_ y.data).1.c (λm=>H3.length<=m) (H5++[some (a5_.arr 3 [[a,b,c]] false)]) [a,b,c]:=g2_.mono _ (λm hm=>by omega) (X6.keep _) _ hown
   by_cases c2:(g5_ y.data).2=0
   ·rw[if_pos ⟨c1,c2⟩]at hof
    have k1:n0+1<H5.length+1:=by omega
    have k2:n0+1+1<H5.length+1:=by omega
    simp only[go_sem,reduceEqDiff,reduceAdd,reduceLeDiff,reducePow,reduceDiv,reduceMod,decide_true,oa.scalar,ob.scalar,oc.scalar,decide_eq_true c2,F0,F1,F2,w1,w2,k1,k2,J_2]
    exact hs' _ _ ((hKs _ _).2 ⟨rfl,_,a,b,c,X5.tr X6,by rw[hof];exact ow,by rw[hof]⟩)
   ·rw[if_neg (λz=>c2 z.2)]at hof
    simp only[go_sem,reduceEqDiff,reduceAdd,reduceLeDiff,oa.scalar,ob.scalar,oc.scalar,decide_eq_false c2]
    exact hn' _ ((hJ _ _).2 ⟨X5.tr X6,hof,ek⟩)
  ·rw[if_neg (λz=>c1 z.1)]at hof
   simp only[go_sem,decide_eq_false c1,K_u]
   exact hn' _ ((hJ _ _).2 ⟨hx.tr (Ext.b1 _),hof,ek⟩)
 ·intro h' hk
  obtain⟨hx,hof,-⟩:=(hJ _ _).1 hk
  have hof:x.of=(x.conf,x.log.base):=hof
  have E0:=hx.get C0
  have E1:=hx.get C1
  have E2:=hx.get C2
  have xx:=(X0.tr X3).tr hx
  have lx:=hx.1
  obtain⟨f1,f2,f3⟩:=id hcf
  simp only[go_sem,reduceEqDiff,reduceAdd,reduceLeDiff,E0,ho.scalar,hn.scalar,hl.scalar]
  have G0:(h'++[some (a5_.arr 3 [[o,n,l]] false)])[n0]?=_:=(Ext.b1 _).get E0
  have G1:(h'++[some (a5_.arr 3 [[o,n,l]] false)])[n0+1]?=_:=(Ext.b1 _).get E1
  have G2:(h'++[some (a5_.arr 3 [[o,n,l]] false)])[n0+1+1]?=_:=(Ext.b1 _).get E2
  have G3:(h'++[some (a5_.arr 3 [[o,n,l]] false)])[h'.length]?=some (some (.arr 3 [[o,n,l]] false)):=x3_ _ _
  have xy:Ext nof h (h'++[some (a5_.arr 3 [[o,n,l]] false)]):=xx.tr (Ext.b1 _)
  have ho6:=ho.up xy
  have hn6:=hn.up xy
  have hl6:=hl.up xy
  have l6:n0+3<=(h'++[some (a5_.arr 3 [[o,n,l]] false)]).length:=by simp;omega
  generalize h'++[some (a5_.arr 3 [[o,n,l]] false)]=H6 at *
  simp only[go_sem,reduceEqDiff,G0]
  refine a1_ ⟨h3.1,h3.2 G H6 x.conf.old o ho6 (by omega)⟩ ?_
  rintro r1 H7 ⟨ro,-,rx⟩
  have M0:=rx.get G0
  have M1:=rx.get G1
  have M2:=rx.get G2
  have M3:=rx.get G3
  simp only[go_sem,reduceEqDiff,reducePow,reduceDiv,reduceMod,decide_true,M0,M3]
  refine a1_ ⟨h3.1,h3.2 G H7 x.conf.new n (hn6.up rx) (by omega)⟩ ?_
  rintro r2 H8 ⟨uo,-,ux⟩
  have N0:=ux.get M0
  have N1:=ux.get M1
  have N2:=ux.get M2
  have N3:=ux.get M3
  simp only[go_sem,reduceEqDiff,reducePow,reduceDiv,reduceMod,decide_true,N0,N3]
  refine a1_ ⟨h3.1,h3.2 G H8 x.conf.learners l ((hl6.up rx).up ux) (by omega)⟩ ?_
  rintro r3 H9 ⟨vo,-,vx⟩
  have P0:=vx.get N0
  have P1:=vx.get N1
  have P2:=vx.get N2
  have P3:=vx.get N3
  have g1:=rx.1
  have g2:=ux.1
  have g3:=vx.1
  have k1:n0+1<H9.length:=by omega
  have k2:n0+1+1<H9.length:=by omega
  have X:=(rx.tr ux).tr vx
  simp only[go_sem,reduceEqDiff,reduceAdd,reduceLeDiff,reducePow,reduceDiv,reduceMod,decide_true,P0,P1,P2,P3,ro.scalar,b5_ ro.scalar,uo.scalar,b5_ uo.scalar,vo.scalar,b5_ vo.scalar,k1,k2,J_2]
  rw[hof]
  refine⟨_,rfl,n_q ?_ ?_ ?_,((xy.tr X).setNew (by omega) _).setNew (by omega) _⟩
  ·exact l2_ (l2_ (k:=n0+3) (Own.mono (F':=λm=>n0+3<=m) _ (λm hm=>by omega) ((ux.tr vx).keep _) _ ro) (by omega) _ (by omega)) (by omega) _ (by omega)
  ·exact l2_ (l2_ (k:=n0+3) (Own.mono (F':=λm=>n0+3<=m) _ (λm hm=>by omega) (vx.keep _) _ uo) (by omega) _ (by omega)) (by omega) _ (by omega)
  ·exact l2_ (l2_ (k:=n0+3) (Own.mono (F':=λm=>n0+3<=m) _ (λm hm=>by omega) (v4_.lt _ _) _ vo) (by omega) _ (by omega)) (by omega) _ (by omega)
 ·intro y h' hk
  obtain⟨rfl,h1',a,b,c,hx,ow,rfl⟩:=(hKs _ _).1 hk
  have E1:=hx.get C1
  have E2:=hx.get C2
  have lx:=hx.1
  have k1:n0+1<h1'.length:=by omega
  have k2:n0+1+1<h1'.length:=by omega
  refine⟨by simp,?_⟩
  simp only[go_sem,reduceEqDiff,reduceAdd,reduceLeDiff,k1,k2,J_2]
  obtain⟨oa,ob,oc⟩:Own (b1_ x.of.1.old) (λm=>H3.length<=m) h1' a/\Own (b1_ x.of.1.new) (λm=>H3.length<=m) h1' b/\Own (b1_ x.of.1.learners) (λm=>H3.length<=m) h1' c:=by
   obtain⟨o',n',e',q,z⟩:=i_5 ow
   cases q
   exact z
  refine⟨_,rfl,n_q ?_ ?_ ?_,((((X0.tr X3).tr hx)).setNew (by omega) _).setNew (by omega) _⟩
  ·exact l2_ (l2_ (k:=n0+3) oa (by omega) _ (by omega)) (by omega) _ (by omega)
  ·exact l2_ (l2_ (k:=n0+3) ob (by omega) _ (by omega)) (by omega) _ (by omega)
  ·exact l2_ (l2_ (k:=n0+3) oc (by omega) _ (by omega)) (by omega) _ (by omega)
def OfP (P:Program)(f:FuncId):Prop:=f2_ P f=true/\∀(G:Nat->Prop)(h:a0_)(x:d7_)(ags:List AV),RdL G h x.c ags->x.ofR->
 a6_ P f [.agg ags] h λr h'=>r=.tup [.agg x.of.1.v,.int .i64 x.of.2]/\h'=h
end Glb
