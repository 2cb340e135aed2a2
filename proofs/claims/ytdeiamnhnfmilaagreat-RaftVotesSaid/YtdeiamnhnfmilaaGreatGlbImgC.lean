/-
  A library of its own.
-/
import Derived.Test.YtdeiamnhnfmilaaGreatGlbImgB
set_option linter.unusedSimpArgs false
set_option linter.unusedVariables false
set_option maxRecDepth 10000
set_option maxHeartbeats 8000000
open Nat (reduceAdd reduceDiv reduceEqDiff reduceLeDiff reduceMod reducePow)
namespace Glb
open Go
def R4_ (F:Nat->Prop)(h:a0_)(s q:Nat)(b:Bool)(st:Rdr):Prop:=
 h[s]?=some (some (.arr 2 [[.ptr q 2 0 0,.bool b]] false))/\M6_ F h q st/\(∀m,F m->m<q)/\q<s
def Rdr.if_ (b:Bool)(st:Rdr):Rdr:=if b then none else st
def e_d (F:Nat->Prop)(h:a0_)(s q:Nat)(st:Rdr):Prop:=∃(b:Bool)(st':Rdr),R4_ F h s q b st'/\st=Rdr.if_ b st'
abbrev two (s q:Nat):Nat->Prop:=λm=>m=s\/m=q
theorem p_n {h:a0_}{s:Nat}(hs:s<h.length)(x:Option a5_):(h++[x])[s]?=h[s]?:=J_1 hs
theorem D_q {h:a0_}{s:Nat}(hs:s<h.length)(x y:Option a5_):(h++[x]++[y])[s]?=h[s]?:=by rw[p_n (by simp;omega),p_n hs]
theorem R4_.lt {F:Nat->Prop}{h:a0_}{s q:Nat}{b:Bool}{st:Rdr}(hs:R4_ F h s q b st):s<h.length:=(J_w.1 hs.1).1
theorem R4_.up {F:Nat->Prop}{h h':a0_}{s q:Nat}{b:Bool}{st:Rdr}(hs:R4_ F h s q b st)(e:Ext nof h h'):R4_ F h' s q b st:=
 ⟨(e.2 _ hs.lt (λx=>x)).trans hs.1,hs.2.1.up e,hs.2.2⟩
theorem R4_.next {F:Nat->Prop}{h h':a0_}{s q:Nat}{b:Bool}{st st2:Rdr}(hs:R4_ F h s q b st)(e:Ext (only q) h h')(hr:M6_ F h' q st2):R4_ F h' s q b st2:=
 ⟨(e.2 _ hs.lt (by have:=hs.2.2.2;simp only[only];omega)).trans hs.1,hr,hs.2.2⟩
theorem R4_.nq {F:Nat->Prop}{h:a0_}{s q:Nat}{b:Bool}{st:Rdr}(hs:R4_ F h s q b st):¬F q:=λhq=>by have:=hs.2.2.1 _ hq;omega
theorem R4_.ns {F:Nat->Prop}{h:a0_}{s q:Nat}{b:Bool}{st:Rdr}(hs:R4_ F h s q b st):¬F s:=λhq=>by have:=hs.2.2.1 _ hq;have:=hs.2.2.2;omega
theorem d6_ {n k s sz i o:Nat}(h:s<n):f0_ n k (.ptr s sz i o)=true:=by simp[f0_];omega
theorem F1_ {h:a0_}{n:Nat} (hn:h[n]?=some none) (x:Option a5_):(h.set n x).set n none=h:=by
 rw[L_j]
 apply K_0
 intro i
 rw[L_t]
 split
 ·rename_i e;subst e;rw[hn];simp[(J_w.1 hn).1]
 ·rfl
theorem R4_.set {F:Nat->Prop}{h:a0_}{s q:Nat}{b:Bool}{st:Rdr}(hs:R4_ F h s q b st){n:Nat}(hn:s<n)(x:Option a5_):R4_ F (h.set n x) s q b st:=by
 have:=hs.2.2.2
 have nF:¬F n:=λhq=>by have:=hs.2.2.1 _ hq;omega
 exact⟨by rw[J_x (by omega)];exact hs.1,hs.2.1.keep (J_x (by omega)) (λm hm y hy=>by rw[J_x (by rintro rfl;exact nF hm)];exact hy),hs.2.2⟩
theorem s_u {d:D}{F:Nat->Prop}{h:a0_}{a:AV}(ho:Own d F h a){n:Nat}(hn:¬F n)(x:Option a5_):Own d F (h.set n x) a:=g_e ho hn x
theorem Ext.put {F:Nat->Prop}{h h':a0_}(e:Ext F h h'){n:Nat}(hn:h.length<=n)(x:Option a5_):Ext F h (h'.set n x):=
 ⟨by rw[J_2];exact e.1,λm hm hF=>by rw[J_x (by omega)];exact e.2 m hm hF⟩
theorem c3_ (F:Nat->Prop)(h:a0_)(n:Int):Own (.int .i64 n) F h (.int .i64 n):=by simp only[Own]
def Z3_ {T:Type}(P:Program)(f:FuncId)(c:T->List D)(dec:Rdr->T×Rdr):Prop:=
 f2_ P f=true/\∀(F:Nat->Prop)(h:a0_)(s q:Nat)(st:Rdr),e_d F h s q st->
  a6_ P f [.ptr s 2 0 0] h λr h'=>∃(x:T)(as:List AV),r=.agg as/\g2_ (c x) (λm=>F m\/h.length<=m) h' as/\e_d F h' s q (dec st).2/\Ext (two s q) h h'/\((dec st).2≠none->x=(dec st).1)
theorem Z3_.of {T:Type}{P:Program}{f:FuncId}{c:T->List D}{dec:Rdr->T×Rdr}(hn:(dec none).2=none)(h1:f2_ P f=true)
  (h2:∀(F:Nat->Prop)(h:a0_)(s q:Nat)(b:Bool)(st:Rdr),R4_ F h s q b st->
   a6_ P f [.ptr s 2 0 0] h λr h'=>∃(as:List AV),r=.agg as/\g2_ (c (dec st).1) (λm=>F m\/h.length<=m) h' as/\R4_ F h' s q b (dec st).2/\Ext (only q) h h'):Z3_ P f c dec:=by
 refine⟨h1,λF h s q st ⟨b,st',hs,e⟩=>(h2 F h s q b st' hs).mono λr h' ⟨as,hr,ho,hs',hx⟩=>⟨_,as,hr,ho,⟨b,_,hs',?_⟩,hx.trans (Ext.refl nof _) (λ_ _ x=>.inr x) (λ_ _ x=>x.elim),?_⟩⟩
 ·subst e;cases b
  ·rfl
  ·exact hn
 ·subst e;cases b
  ·intro _;rfl
  ·intro hh;exact absurd hn hh
theorem x_h {P:Program}{f g k:FuncId}(hf:Is P f (j6_ g k))(hg:r_c P g)(hk:q_4 P k):Z3_ P f e0_.c v7_.dec:=by
 refine Z3_.of v7_.bad hf.2 λF h s q b st hs=>a4_ hf.1 (J_y rfl) ?_
 show vc P (j6_ g k).code ⟨[(0,.ptr s 2 0 0)],[],h⟩ (b2_ (j6_ g k).res _)
 have hlt:=hs.lt
 have B:=hs.1
 have B2:∀x y:Option a5_,(h++[x]++[y])[s]?=some (some (.arr 2 [[.ptr q 2 0 0,.bool b]] false)):=λx y=>(D_q hlt x y).trans hs.1
 simp only[j6_,go_sem,reduceEqDiff,reduceAdd,reducePow,reduceDiv,reduceMod,B2]
 have S0:=hs.up (Ext.b2 (some (.arr 3 [[.int .i64 0,.int .i64 0,.nils]] false)) none)
 have C0:=b_z h (some (.arr 3 [[.int .i64 0,.int .i64 0,.nils]] false)) none
 have D0:=O1_ h (some (.arr 3 [[.int .i64 0,.int .i64 0,.nils]] false)) none
 have E0:Ext nof h (h++[some (.arr 3 [[.int .i64 0,.int .i64 0,.nils]] false)]++[none]):=Ext.b2 _ _
 generalize h++[some (a5_.arr 3 [[.int .i64 0,.int .i64 0,.nils]] false)]++[none]=H0 at *
 have NR:∀k,f0_ (h.length+1) k (.ptr s 2 0 0)=true:=λk=>d6_ (by omega)
 simp only[NR,true_and]
 refine a1_ ⟨hg.1,hg.2 F _ q st S0.2.1 hs.nq⟩ ?_
 rintro _ H1 ⟨rfl,r1,x1⟩
 have S1:=S0.next x1 r1
 have hq:=hs.2.2.2
 have lH:=E0.1
 have C1:H1[h.length]?=_:=(x1.2 _ (J_w.1 C0).1 (by simp only[only];omega)).trans C0
 have B1:=S1.1
 have D1:H1[h.length+1]?=some none:=(x1.2 _ (J_w.1 D0).1 (by simp only[only];omega)).trans D0
 have ne1:(h.length+1=s)=False:=eq_false (by omega)
 simp only[go_sem,reduceEqDiff,reducePow,reduceDiv,reduceMod,decide_true,t3_,k2_,B1,D1,ne1,F1_ D1]
 refine a1_ ⟨hg.1,hg.2 F _ q _ S1.2.1 hs.nq⟩ ?_
 rintro _ H2 ⟨rfl,r2,x2⟩
 have S2:=S1.next x2 r2
 have lH1:=x1.1
 have C2:H2[h.length]?=_:=(x2.2 _ (J_w.1 C1).1 (by simp only[only];omega)).trans C1
 have D2:H2[h.length+1]?=some none:=(x2.2 _ (J_w.1 D1).1 (by simp only[only];omega)).trans D1
 have B2:=S2.1
 have l2:=(J_w.1 D2).1
 simp only[go_sem,reduceEqDiff,reduceAdd,reduceLeDiff,reducePow,reduceDiv,reduceMod,decide_true,k2_,B2,D2,ne1,l2]
 rw[L_j]
 have S3:=S2.set (n:=h.length+1) (by omega) (some (.arr 3 [[.int .i64 (a2_ st).1,.int .i64 (a2_ (a2_ st).2).1,.nils]] false))
 have C3:(H2.set (h.length+1) (some (.arr 3 [[.int .i64 (a2_ st).1,.int .i64 (a2_ (a2_ st).2).1,.nils]] false)))[h.length]?=_:=(J_x (by omega)).trans C2
 have D3:=J_0 (a:=some (a5_.arr 3 [[.int .i64 (a2_ st).1,.int .i64 (a2_ (a2_ st).2).1,.nils]] false)) l2
 have E3:Ext (only q) h (H2.set (h.length+1) (some (.arr 3 [[.int .i64 (a2_ st).1,.int .i64 (a2_ (a2_ st).2).1,.nils]] false))):=
  (E0.trans (x1.trans x2 (λ_ _ x=>x) (λ_ _ x=>x)) (λ_ _ x=>x.elim) (λ_ _ x=>x)).put (by omega) _
 generalize H2.set (h.length+1) (some (a5_.arr 3 [[.int .i64 (a2_ st).1,.int .i64 (a2_ (a2_ st).2).1,.nils]] false))=H3 at *
 refine a1_ ⟨hk.1,hk.2 F _ q _ S3.2.1 hs.nq⟩ ?_
 rintro r H4 ⟨o4,r4,x4⟩
 have S4:=S3.next x4 r4
 have lH3:=E3.1
 have C4:H4[h.length]?=_:=(x4.2 _ (J_w.1 C3).1 (by simp only[only];omega)).trans C3
 have D4:H4[h.length+1]?=_:=(x4.2 _ (J_w.1 D3).1 (by simp only[only];omega)).trans D3
 have l4:=(J_w.1 D4).1
 have l4':=(J_w.1 C4).1
 simp only[go_sem,reduceEqDiff,reduceAdd,reduceLeDiff,D4,l4,l4',o4.scalar,b5_ o4.scalar,C4,J_2]
 refine⟨_,rfl,?_,(S4.set (by omega) _).set (by omega) _,((E3.trans x4 (λ_ _ x=>x) (λ_ _ x=>x)).put (by omega) _).put (by omega) _⟩
 have o5:=Own.mono (F':=λm=>F m\/h.length<=m) _ (λ_ x=>.inl x) (λ_ _ _ x=>x) _ (s_u (s_u o4 (n:=h.length+1) (λhq=>by have:=hs.2.2.1 _ hq;omega) (some (.arr 3 [[.int .i64 (a2_ st).1,.int .i64 (a2_ (a2_ st).2).1,r]] false))) (n:=h.length) (λhq=>by have:=hs.2.2.1 _ hq;omega) (some (.arr 3 [[.int .i64 (a2_ st).1,.int .i64 (a2_ (a2_ st).2).1,r]] false)))
 exact⟨_,_,rfl,c3_ _ _ _,_,_,rfl,c3_ _ _ _,_,_,rfl,o5,rfl⟩
theorem y_y {P:Program}{f g:FuncId}(hf:Is P f (k6_ g))(hg:r_c P g):Z3_ P f v3_.c v9_.dec:=by
 refine Z3_.of v9_.bad hf.2 λF h s q b st hs=>a4_ hf.1 (J_y rfl) ?_
 show vc P (k6_ g).code ⟨[(0,.ptr s 2 0 0)],[],h⟩ (b2_ (k6_ g).res _)
 have hlt:=hs.lt
 have hq:=hs.2.2.2
 have BB:∀x:Option a5_,(h++[x])[s]?=some (some (.arr 2 [[.ptr q 2 0 0,.bool b]] false)):=λx=>(p_n hlt x).trans hs.1
 simp only[k6_,go_sem,reduceEqDiff,reduceAdd,BB]
 have S0:=hs.up (Ext.b1 (some (.arr 5 [[.int .i64 0,.int .i64 0,.int .i64 0,.int .i64 0,.int .i64 0]] false)))
 have C0:=x3_ h (some (.arr 5 [[.int .i64 0,.int .i64 0,.int .i64 0,.int .i64 0,.int .i64 0]] false))
 have E0:Ext nof h (h++[some (.arr 5 [[.int .i64 0,.int .i64 0,.int .i64 0,.int .i64 0,.int .i64 0]] false)]):=Ext.b1 _
 have lH0:=E0.1
 generalize h++[some (a5_.arr 5 [[.int .i64 0,.int .i64 0,.int .i64 0,.int .i64 0,.int .i64 0]] false)]=H0 at *
 refine a1_ ⟨hg.1,hg.2 F _ q _ S0.2.1 hs.nq⟩ ?_
 rintro _ H1 ⟨rfl,r1,x1⟩
 have S1:=S0.next x1 r1
 have lH1:=x1.1
 have C1:H1[h.length]?=_:=(x1.2 _ (J_w.1 C0).1 (by simp only[only];omega)).trans C0
 have B1:=S1.1
 simp only[go_sem,reduceEqDiff,reducePow,reduceDiv,reduceMod,decide_true,B1]
 refine a1_ ⟨hg.1,hg.2 F _ q _ S1.2.1 hs.nq⟩ ?_
 rintro _ H2 ⟨rfl,r2,x2⟩
 have S2:=S1.next x2 r2
 have lH2:=x2.1
 have C2:H2[h.length]?=_:=(x2.2 _ (J_w.1 C1).1 (by simp only[only];omega)).trans C1
 have B2:=S2.1
 simp only[go_sem,reduceEqDiff,reducePow,reduceDiv,reduceMod,decide_true,B2]
 refine a1_ ⟨hg.1,hg.2 F _ q _ S2.2.1 hs.nq⟩ ?_
 rintro _ H3 ⟨rfl,r3,x3⟩
 have S3:=S2.next x3 r3
 have lH3:=x3.1
 have C3:H3[h.length]?=_:=(x3.2 _ (J_w.1 C2).1 (by simp only[only];omega)).trans C2
 have B3:=S3.1
 simp only[go_sem,reduceEqDiff,reducePow,reduceDiv,reduceMod,decide_true,B3]
 refine a1_ ⟨hg.1,hg.2 F _ q _ S3.2.1 hs.nq⟩ ?_
 rintro _ H4 ⟨rfl,r4,x4⟩
 have S4:=S3.next x4 r4
 have lH4:=x4.1
 have C4:H4[h.length]?=_:=(x4.2 _ (J_w.1 C3).1 (by simp only[only];omega)).trans C3
 have B4:=S4.1
 simp only[go_sem,reduceEqDiff,reducePow,reduceDiv,reduceMod,decide_true,B4]
 refine a1_ ⟨hg.1,hg.2 F _ q _ S4.2.1 hs.nq⟩ ?_
 rintro _ H5 ⟨rfl,r5,x5⟩
 have S5:=S4.next x5 r5
 have lH5:=x5.1
 have C5:H5[h.length]?=_:=(x5.2 _ (J_w.1 C4).1 (by simp only[only];omega)).trans C4
 have B5:=S5.1
 have l5:=(J_w.1 C5).1
 simp only[go_sem,reduceEqDiff,reduceAdd,reduceLeDiff,reducePow,reduceDiv,reduceMod,decide_true,B5,C5,l5]
 refine⟨_,rfl,?_,S5.set (by omega) _,(E0.trans (((x1.trans x2 (λ_ _ x=>x) (λ_ _ x=>x)).trans x3 (λ_ _ x=>x) (λ_ _ x=>x)).trans (x4.trans x5 (λ_ _ x=>x) (λ_ _ x=>x)) (λ_ _ x=>x) (λ_ _ x=>x)) (λ_ _ x=>x.elim) (λ_ _ x=>x)).put (by omega) _⟩
 exact⟨_,_,rfl,c3_ _ _ _,_,_,rfl,c3_ _ _ _,_,_,rfl,c3_ _ _ _,_,_,rfl,c3_ _ _ _,_,_,rfl,c3_ _ _ _,rfl⟩
theorem x_o {P:Program}{f g:FuncId}(hf:Is P f (k8_ g))(hg:B_t P g):Z3_ P f e3_.c j3_.dec:=by
 refine Z3_.of j3_.bad hf.2 λF h s q b st hs=>a4_ hf.1 (J_y rfl) ?_
 show vc P (k8_ g).code ⟨[(0,.ptr s 2 0 0)],[],h⟩ (b2_ (k8_ g).res _)
 have hlt:=hs.lt
 have hq:=hs.2.2.2
 have BB:∀x:Option a5_,(h++[x])[s]?=some (some (.arr 2 [[.ptr q 2 0 0,.bool b]] false)):=λx=>(p_n hlt x).trans hs.1
 simp only[k8_,go_sem,reduceEqDiff,reduceAdd,BB]
 have S0:=hs.up (Ext.b1 (some (.arr 3 [[.nils,.nils,.nils]] false)))
 have C0:=x3_ h (some (.arr 3 [[.nils,.nils,.nils]] false))
 have E0:Ext nof h (h++[some (.arr 3 [[.nils,.nils,.nils]] false)]):=Ext.b1 _
 have lH0:h.length+1=(h++[some (a5_.arr 3 [[.nils,.nils,.nils]] false)]).length:=by simp
 generalize h++[some (a5_.arr 3 [[.nils,.nils,.nils]] false)]=H0 at *
 refine a1_ ⟨hg.1,hg.2 F _ q _ S0.2.1 hs.nq⟩ ?_
 rintro a1 H1 ⟨o1,r1,x1⟩
 have S1:=S0.next x1 r1
 have lH1:=x1.1
 have C1:H1[h.length]?=_:=(x1.2 _ (J_w.1 C0).1 (by simp only[only];omega)).trans C0
 have B1:=S1.1
 simp only[go_sem,reduceEqDiff,reducePow,reduceDiv,reduceMod,decide_true,B1]
 refine a1_ ⟨hg.1,hg.2 F _ q _ S1.2.1 hs.nq⟩ ?_
 rintro a2 H2 ⟨o2,r2,x2⟩
 have S2:=S1.next x2 r2
 have lH2:=x2.1
 have C2:H2[h.length]?=_:=(x2.2 _ (J_w.1 C1).1 (by simp only[only];omega)).trans C1
 have B2:=S2.1
 simp only[go_sem,reduceEqDiff,reducePow,reduceDiv,reduceMod,decide_true,B2]
 refine a1_ ⟨hg.1,hg.2 F _ q _ S2.2.1 hs.nq⟩ ?_
 rintro a3 H3 ⟨o3,r3,x3⟩
 have S3:=S2.next x3 r3
 have lH3:=x3.1
 have C3:H3[h.length]?=_:=(x3.2 _ (J_w.1 C2).1 (by simp only[only];omega)).trans C2
 have B3:=S3.1
 have l3:=(J_w.1 C3).1
 simp only[go_sem,reduceEqDiff,reduceAdd,reduceLeDiff,reducePow,reduceDiv,reduceMod,decide_true,B3,C3,l3,o1.scalar,o2.scalar,o3.scalar,b5_ o1.scalar,b5_ o2.scalar,b5_ o3.scalar]
 refine⟨_,rfl,?_,S3.set (by omega) _,(E0.trans ((x1.trans x2 (λ_ _ x=>x) (λ_ _ x=>x)).trans x3 (λ_ _ x=>x) (λ_ _ x=>x)) (λ_ _ x=>x.elim) (λ_ _ x=>x)).put (by omega) _⟩
 have k1:v4_ (λm=>H0.length<=m) H1 (H3.set h.length (some (.arr 3 [[a1,a2,a3]] false))):=λm hm y hy=>by
  rw[J_x (by omega),x3.2 m (by have:=(J_w.1 hy).1;omega) (by simp only[only];omega),x2.2 m (J_w.1 hy).1 (by simp only[only];omega)];exact hy
 have k2:v4_ (λm=>H1.length<=m) H2 (H3.set h.length (some (.arr 3 [[a1,a2,a3]] false))):=λm hm y hy=>by
  rw[J_x (by omega),x3.2 m (J_w.1 hy).1 (by simp only[only];omega)];exact hy
 have k3:v4_ (λm=>H2.length<=m) H3 (H3.set h.length (some (.arr 3 [[a1,a2,a3]] false))):=λm hm y hy=>by
  rw[J_x (by omega)];exact hy
 exact⟨_,_,rfl,Own.mono _ (λm hm=>.inr (by omega)) k1 _ o1,_,_,rfl,Own.mono _ (λm hm=>.inr (by omega)) k2 _ o2,_,_,rfl,Own.mono _ (λm hm=>.inr (by omega)) k3 _ o3,rfl⟩
theorem y0_ {F:Nat->Prop}{h:a0_}:∀{ds:List D}{l:List AV},g2_ ds F h l->l.length=ds.length
 | [],l,hh=>by simp only[g2_]at hh;subst hh;rfl
 | d :: ds,l,hh=>by simp only[g2_]at hh;obtain⟨a,r,rfl,_,h2⟩:=hh;simp[y0_ h2]
theorem g2_.scalars {F:Nat->Prop}{h:a0_}:∀{ds:List D}{l:List AV},g2_ ds F h l->l.all AV.scalar=true
 | [],l,hh=>by simp only[g2_]at hh;subst hh;rfl
 | d :: ds,l,hh=>by simp only[g2_]at hh;obtain⟨a,r,rfl,h1,h2⟩:=hh;simp[h1.scalar,h2.scalars]
theorem R4_.off {F G:Nat->Prop}{h h':a0_}{s q:Nat}{b:Bool}{st:Rdr}(hs:R4_ F h s q b st)(e:Ext G h h')(hG:∀m,G m->s<m):R4_ F h' s q b st:=by
 have hq:=hs.2.2.2
 have hlt:=hs.lt
 refine⟨(e.2 _ hlt (λx=>by have:=hG _ x;omega)).trans hs.1,hs.2.1.keep (e.2 _ (by omega) (λx=>by have:=hG _ x;omega)) (λm hm y hy=>?_),hs.2.2⟩
 rw[e.2 m (by have:=hs.2.2.1 m hm;omega) (λx=>by have:=hG _ x;have:=hs.2.2.1 m hm;omega)];exact hy
theorem M7_ {T:Type}{dec:Rdr->T×Rdr}(hn:(dec none).2=none):∀n,(g4_ dec n none).2=none
 | 0=>rfl
 | n+1=>by
  simp only[g4_]
  generalize dec none=x at hn ⊢
  obtain⟨a,b⟩:=x
  cases hn
  rfl
theorem a_b {T:Type}{dec:Rdr->T×Rdr}{n:Nat}{l l':List Int} (h:(dec (some l)).2=some l'):g4_ dec (n+1) (some l)=((dec (some l)).1 :: (g4_ dec n (some l')).1,(g4_ dec n (some l')).2):=by
 simp only[g4_]
 generalize dec (some l)=x at h ⊢
 obtain⟨a,b⟩:=x
 cases h
 rfl
theorem a_a {T:Type}{dec:Rdr->T×Rdr}{n:Nat}{l:List Int} (h:(dec (some l)).2=none):(g4_ dec (n+1) (some l)).2=none:=by
 simp only[g4_]
 generalize dec (some l)=x at h ⊢
 obtain⟨a,b⟩:=x
 cases h
 rfl
theorem w_s {T:Type}{dec:Rdr->T×Rdr}(hn:(dec none).2=none)(st:Rdr):(l0_ dec st).2=(if (a2_ st).1<0\/(((a2_ st).2.all.length / 8:Nat):Int)<(a2_ st).1 then none else (g4_ dec (a2_ st).1.toNat (a2_ st).2).2) /\
  ((l0_ dec st).2≠none->(l0_ dec st).1=(g4_ dec (a2_ st).1.toNat (a2_ st).2).1):=by
 simp only[l0_,e_i]
 generalize a2_ st=x
 obtain⟨n,b⟩:=x
 cases b with
 | none=>simp[M7_ hn]
 | some l=>
  simp only[Rdr.all,K_v]
  by_cases c:n<0\/((l.length / 8:Nat):Int)<n
  ·rw[if_pos c];exact⟨(if_pos c).symm,λh=>absurd rfl h⟩
  ·rw[if_neg c];exact⟨(if_neg c).symm,λ_=>rfl⟩
theorem l_n {T:Type}{dec:Rdr->T×Rdr}(hn:(dec none).2=none)(b:Bool)(st:Rdr):
  (((a2_ st).1<0\/(((a2_ st).2.all.length / 8:Nat):Int)<(a2_ st).1)->(l0_ dec (Rdr.if_ b st)).2=none) /\
  (¬((a2_ st).1<0\/(((a2_ st).2.all.length / 8:Nat):Int)<(a2_ st).1)->(l0_ dec (Rdr.if_ b st)).2=(g4_ dec (a2_ st).1.toNat (Rdr.if_ b (a2_ st).2)).2 /\
   ((l0_ dec (Rdr.if_ b st)).2≠none->(l0_ dec (Rdr.if_ b st)).1=(g4_ dec (a2_ st).1.toNat (Rdr.if_ b (a2_ st).2)).1)):=by
 cases b with
 | true=>exact⟨λ_=>rfl,λ_=>⟨(M7_ hn _).symm,λh=>absurd rfl h⟩⟩
 | false=>
  obtain⟨h1,h2⟩:=w_s hn st
  exact⟨λc=>by rw[if_pos c]at h1;exact h1,λc=>by rw[if_neg c]at h1;exact⟨h1,h2⟩⟩
def G1_ (k sz:Nat)(a:AV):Prop:=∀n off len cap,a=.ref n sz off len cap->k<=n
theorem G1_.nils (k sz:Nat):G1_ k sz .nils:=by intro _ _ _ _ e;cases e
def B_5 {T:Type}(P:Program)(f:FuncId)(sz:Nat)(c:T->List D)(dec:Rdr->T×Rdr):Prop:=
 f2_ P f=true/\∀(get:FuncId),Z3_ P get c dec->(dec none).2=none->∀(F:Nat->Prop)(h:a0_)(s q:Nat)(b:Bool)(st:Rdr),R4_ F h s q b st->
  a6_ P f [.ptr q 2 0 0,.clo get [.ptr s 2 0 0] []] h λr h'=>∃(xs:List T)(a:AV)(ok b2:Bool)(st2:Rdr),r=.tup [a,.bool ok]/\Own (.sl sz (xs.map c)) (λm=>F m\/h.length<=m) h' a/\G1_ h.length sz a/\R4_ F h' s q b2 st2/\Ext (two s q) h h' /\
   (ok=true->(l0_ dec (Rdr.if_ b st)).2=Rdr.if_ b2 st2/\(Rdr.if_ b2 st2≠none->xs=(l0_ dec (Rdr.if_ b st)).1))/\(ok=false->(l0_ dec (Rdr.if_ b st)).2=none)
theorem G5_ (b:Bool)(st:Rdr):(a2_ (Rdr.if_ b st)).2=Rdr.if_ b (a2_ st).2:=by cases b<;>rfl
theorem j_0 {P:Program}{f fi l bd:FuncId}{dec:Rdr->e0_×Rdr}(hf:Is P f (g0_ fi l bd))(hI:r_c P fi)(hl:Is P l f5_)(hb:Is P bd g9_)(hc:∀x:e0_,x.c.length=3:=λ_=>rfl):B_5 P f 3 e0_.c dec:=by
 refine⟨hf.2,λget hg hn F h s q b st hs=>a4_ hf.1 (J_y rfl) ?_⟩
 show vc P (g0_ fi l bd).code ⟨[(0,.ptr q 2 0 0),(1,.clo get [.ptr s 2 0 0] [])],[],h⟩ (b2_ (g0_ fi l bd).res _)
 have hq:=hs.2.2.2
 have hlt:=hs.lt
 simp only[g0_,go_sem,reduceEqDiff]
 refine a1_ ⟨hI.1,hI.2 F _ q st hs.2.1 hs.nq⟩ ?_
 rintro _ h1 ⟨rfl,r1,x1⟩
 have S1:=hs.next x1 r1
 obtain⟨K1,K2⟩:=l_n hn b st
 have lb:=r1.2.2
 have xt:=x1.weak (F':=two s q) (λ_ _ x=>.inr x)
 have bad:((a2_ st).1<0\/(((a2_ st).2.all.length / 8:Nat):Int)<(a2_ st).1)->∃(xs:List e0_)(a:AV)(ok b2:Bool)(st2:Rdr),AV.tup [.nils,.bool false]=.tup [a,.bool ok]/\Own (.sl 3 (xs.map e0_.c)) (λm=>F m\/h.length<=m) h1 a/\G1_ h.length 3 a/\R4_ F h1 s q b2 st2/\Ext (two s q) h h1 /\
   (ok=true->(l0_ dec (Rdr.if_ b st)).2=Rdr.if_ b2 st2/\(Rdr.if_ b2 st2≠none->xs=(l0_ dec (Rdr.if_ b st)).1))/\(ok=false->(l0_ dec (Rdr.if_ b st)).2=none):=
  λc=>⟨[],.nils,false,b,_,rfl,Own.nils _,G1_.nils _ _,S1,xt,by simp,λ_=>K1 c⟩
 have q8:∀x:Int,V2_ .quo (.int .i64 x) (.int .i64 8)=some (.int .i64 (IntKind.i64.wrap (x.tdiv 8))):=λ_=>rfl
 have e8:IntKind.i64.wrap (((a2_ st).2.all.length:Int).tdiv 8)=(((a2_ st).2.all.length / 8:Nat):Int):=by
  rw[L_4 (by omega),a7_ (by omega)];omega
 simp only[go_sem,reduceEqDiff]
 by_cases c1:(a2_ st).1<0
 ·simp only[decide_eq_true c1,go_sem,reduceEqDiff]
  exact bad (.inl c1)
 simp only[decide_eq_false c1,go_sem,reduceEqDiff]
 refine j4_ hl.2 (S0_ hl r1) ?_
 simp only[go_sem,reduceEqDiff,q8,e8]
 by_cases c2:(((a2_ st).2.all.length / 8:Nat):Int)<(a2_ st).1
 ·simp only[decide_eq_true c2,go_sem,reduceEqDiff]
  exact bad (.inr c2)
 simp only[decide_eq_false c2,go_sem,reduceEqDiff]
 obtain⟨E1,E2⟩:=K2 (by omega)
 clear bad K1 K2
 generalize (a2_ st).1=n at *
 generalize (a2_ st).2=st1 at *
 obtain⟨N,rfl⟩:=L_2 (show 0<=n by omega)
 rw[L_b]at E1 E2
 have hN37:N<=2^37:=by omega
 have hFs:∀m,F m->m<q:=hs.2.2.1
 refine e8_ (λm L h2=>∃(i:Nat)(xs:List e0_)(o:AV)(b2:Bool)(st2:Rdr),lk 0 L=.ptr q 2 0 0/\lk 1 L=.clo get [.ptr s 2 0 0] []/\lk 7 L=o/\lk 19 L=.int .i64 N/\lk 20 L=.int .i64 i /\
   Own (.sl 3 (xs.map e0_.c)) (λm=>F m\/h.length<=m) h2 o/\d2_ h2 o/\(∀n off len cap,o=.ref n 3 off len cap->h.length<=n)/\R4_ F h2 s q b2 st2/\Ext (two s q) h h2/\xs.length=i/\i<=N/\m=N-i /\
   (Rdr.if_ b2 st2=none->(g4_ dec N (Rdr.if_ b st1)).2=none)/\(∀l,Rdr.if_ b2 st2=some l->g4_ dec N (Rdr.if_ b st1)=(xs++(g4_ dec (N-i) (some l)).1,(g4_ dec (N-i) (some l)).2))) N ?_ ?_
 ·refine⟨0,[],.nils,b,st1,by simp[a3_,c9_],by simp[a3_,c9_],by simp[a3_],by simp[a3_],by simp[a3_],Own.nils _,trivial,(by intro _ _ _ _ e;cases e),S1,xt,rfl,by omega,by omega,?_,?_⟩
  ·intro e;rw[e];exact M7_ hn _
  ·intro l e;rw[e];simp
 ·rintro m L h2 ⟨i,xs,o,b2,st2,k0,k1,k7,k19,k20,hO,hA,hR,S2,X2,hx,hi,rfl,hz,hm⟩
  simp only[q8_,go_sem,k19,k20]
  refine b0_ (λci=>?_) (λci=>?_)
  ·simp at ci
   simp only[go_sem,reduceEqDiff,k1,k7]
   refine a1_ ⟨hg.1,hg.2 F h2 s q _ ⟨b2,st2,S2,rfl⟩⟩ ?_
   rintro _ h3 ⟨x,as,rfl,hO3,⟨b3,st3,S3,e3⟩,X3,hx3⟩
   have has:as.length=3:=by rw[y0_ hO3,hc]
   have hn0:∀m,F m->m<h.length:=λm hm=>by have:=hFs m hm;omega
   have keep3:v4_ (λm=>F m\/h.length<=m) h2 h3:=X3.keepOff (λm _ hm hm'=>by rcases hm with hm | hm<;>rcases hm' with rfl | rfl<;>first | (have:=hFs _ hm;omega) | omega)
   have hO':=Own.mono (F':=λm=>F m\/h.length<=m) _ (λ_ x=>x) keep3 _ hO
   have hA':=hA.keep hO keep3
   have l2:h.length<=h2.length:=X2.1
   have l3:h2.length<=h3.length:=X3.1
   obtain⟨o4,h4,s1,s2,s3,s4,s5⟩:=b_6 (bytes:=40) (G:=λm=>F m\/h2.length<=m) (es:=[x.c]) (ys:=[as]) (h:=h3++[some (.arr 3 [as] false)]) hO' hA' (Ext.b1 _)
    ⟨as,[],rfl,g2_.mono _ (λ_ x=>x) ((Ext.b1 (h:=h3) (some (.arr 3 [as] false))).keep _) _ hO3,rfl⟩
    (λm hm=>hm.elim .inl (λx=>.inr (by omega)))
    (λn off len cap e hm=>by
     have h1:=hR _ _ _ _ e
     subst e
     obtain⟨row,g,hrow,_⟩:=hA
     have h2:=(J_w.1 hrow).1
     rcases hm with hm | hm
     ·have:=hn0 _ hm;omega
     ·omega) (.inr (by simp;omega)) (by simp;omega)
   have s1':=s1
   rw[<-c6_ (l4_ h3 3 [as] false (some 1) (len:=1) rfl)]at s1'
   have hsc:=hO3.scalars
   have S4:=(S3.up (Ext.b1 (some (.arr 3 [as] false)))).off s4 (λm hm=>by obtain⟨⟨_,_,_,e⟩,_⟩:=hm;have:=hR _ _ _ _ e;omega)
   have e1:IntKind.i64.wrap (↑i+1)=(i:Int)+1:=a7_ (by omega)
   have X4:Ext (two s q) h h4:=((X2.trans X3 (λ_ _ x=>x) (λ_ _ x=>x)).trans (Ext.b1 (some (.arr 3 [as] false))) (λ_ _ x=>x) (λ_ _ x=>x.elim)).trans s4 (λ_ _ x=>x) (λm hm hm'=>by obtain⟨⟨_,_,_,e⟩,_⟩:=hm';have:=hR _ _ _ _ e;omega)
   have go:∀st0,Rdr.if_ b2 st2=st0->(Rdr.if_ b3 st3=none->(g4_ dec N (Rdr.if_ b st1)).2=none)/\(∀l,Rdr.if_ b3 st3=some l->g4_ dec N (Rdr.if_ b st1)=(xs++[x]++(g4_ dec (N-(i+1)) (some l)).1,(g4_ dec (N-(i+1)) (some l)).2)):=by
    intro st0 e0
    rw[e0]at e3 hx3
    rw[<-e3]
    cases st0 with
    | none=>exact⟨λ_=>hz e0,λl e=>by rw[hn]at e;cases e⟩
    | some l0=>
     have hm0:=hm l0 e0
     rw[show N-i=(N-(i+1))+1 by omega]at hm0
     refine⟨λe=>by rw[hm0];exact a_a e,λl e=>?_⟩
     rw[hm0,a_b e,hx3 (by rw[e];simp)]
     simp
   obtain⟨go1,go2⟩:=go _ rfl
   simp only[go_sem,reduceEqDiff,reduceAdd,has,k0,hsc,s1']
   refine j4_ hb.2 (C0_ hb S4.2.1) ?_
   cases st3 with
   | none=>
    simp only[go_sem,reduceEqDiff,M_d]
    refine⟨[],.nils,false,b3,none,rfl,Own.nils _,G1_.nils _ _,S4,X4,by simp,λ_=>?_⟩
    rw[E1];exact go1 (by cases b3<;>rfl)
   | some l3=>
    simp only[go_sem,reduceEqDiff,L_p,k0,k1,k7,k19,k20,e1]
    refine⟨_,by omega,i+1,xs++[x],o4,b3,_,rfl,by simp,by simpa using s2,s3,λn off len cap e=>?_,S4,X4,by simp[hx],ci,rfl,go1,go2⟩
    rcases s5 _ _ _ _ e with⟨_,_,_,e'⟩ | hge
    ·exact hR _ _ _ _ e'
    ·simp only[J_z,List.length_cons,K_d]at hge;omega
  ·simp at ci
   obtain rfl:i=N:=by omega
   simp only[go_sem,reduceEqDiff,k0,k7]
   refine j4_ hb.2 (C0_ hb S2.2.1) ?_
   simp only[go_sem,reduceEqDiff]
   refine⟨xs,o,!st2.isNone,b2,st2,rfl,hO,hR,S2,X2,λhok=>?_,λhok=>?_⟩
   ·rw[E1]
    cases e:Rdr.if_ b2 st2 with
    | none=>exact⟨hz e,λhh=>absurd rfl hh⟩
    | some l=>
     have:=hm l e
     rw[Nat.sub_self]at this
     refine⟨by rw[this];rfl,λ_=>?_⟩
     rw[E2 (by rw[E1,this];simp[g4_]),this];simp[g4_]
   ·rw[E1]
    refine hz ?_
    cases st2 with
    | none=>cases b2<;>rfl
    | some l=>simp at hok
theorem m_h {P:Program}{f fi l bd:FuncId}{dec:Rdr->d7_×Rdr}(hf:Is P f (h2_ fi l bd))(hI:r_c P fi)(hl:Is P l f5_)(hb:Is P bd g9_)(hc:∀x:d7_,x.c.length=10:=λ_=>rfl):B_5 P f 10 d7_.c dec:=by
 refine⟨hf.2,λget hg hn F h s q b st hs=>a4_ hf.1 (J_y rfl) ?_⟩
 show vc P (h2_ fi l bd).code ⟨[(0,.ptr q 2 0 0),(1,.clo get [.ptr s 2 0 0] [])],[],h⟩ (b2_ (h2_ fi l bd).res _)
 have hq:=hs.2.2.2
 have hlt:=hs.lt
 simp only[h2_,go_sem,reduceEqDiff]
 refine a1_ ⟨hI.1,hI.2 F _ q st hs.2.1 hs.nq⟩ ?_
 rintro _ h1 ⟨rfl,r1,x1⟩
 have S1:=hs.next x1 r1
 obtain⟨K1,K2⟩:=l_n hn b st
 have lb:=r1.2.2
 have xt:=x1.weak (F':=two s q) (λ_ _ x=>.inr x)
 have bad:((a2_ st).1<0\/(((a2_ st).2.all.length / 8:Nat):Int)<(a2_ st).1)->∃(xs:List d7_)(a:AV)(ok b2:Bool)(st2:Rdr),AV.tup [.nils,.bool false]=.tup [a,.bool ok]/\Own (.sl 10 (xs.map d7_.c)) (λm=>F m\/h.length<=m) h1 a/\G1_ h.length 10 a/\R4_ F h1 s q b2 st2/\Ext (two s q) h h1 /\
   (ok=true->(l0_ dec (Rdr.if_ b st)).2=Rdr.if_ b2 st2/\(Rdr.if_ b2 st2≠none->xs=(l0_ dec (Rdr.if_ b st)).1))/\(ok=false->(l0_ dec (Rdr.if_ b st)).2=none):=
  λc=>⟨[],.nils,false,b,_,rfl,Own.nils _,G1_.nils _ _,S1,xt,by simp,λ_=>K1 c⟩
 have q8:∀x:Int,V2_ .quo (.int .i64 x) (.int .i64 8)=some (.int .i64 (IntKind.i64.wrap (x.tdiv 8))):=λ_=>rfl
 have e8:IntKind.i64.wrap (((a2_ st).2.all.length:Int).tdiv 8)=(((a2_ st).2.all.length / 8:Nat):Int):=by
  rw[L_4 (by omega),a7_ (by omega)];omega
 simp only[go_sem,reduceEqDiff]
 by_cases c1:(a2_ st).1<0
 ·simp only[decide_eq_true c1,go_sem,reduceEqDiff]
  exact bad (.inl c1)
 simp only[decide_eq_false c1,go_sem,reduceEqDiff]
 refine j4_ hl.2 (S0_ hl r1) ?_
 simp only[go_sem,reduceEqDiff,q8,e8]
 by_cases c2:(((a2_ st).2.all.length / 8:Nat):Int)<(a2_ st).1
 ·simp only[decide_eq_true c2,go_sem,reduceEqDiff]
  exact bad (.inr c2)
 simp only[decide_eq_false c2,go_sem,reduceEqDiff]
 obtain⟨E1,E2⟩:=K2 (by omega)
 clear bad K1 K2
 generalize (a2_ st).1=n at *
 generalize (a2_ st).2=st1 at *
 obtain⟨N,rfl⟩:=L_2 (show 0<=n by omega)
 rw[L_b]at E1 E2
 have hN37:N<=2^37:=by omega
 have hFs:∀m,F m->m<q:=hs.2.2.1
 refine e8_ (λm L h2=>∃(i:Nat)(xs:List d7_)(o:AV)(b2:Bool)(st2:Rdr),lk 0 L=.ptr q 2 0 0/\lk 1 L=.clo get [.ptr s 2 0 0] []/\lk 7 L=o/\lk 19 L=.int .i64 N/\lk 20 L=.int .i64 i /\
   Own (.sl 10 (xs.map d7_.c)) (λm=>F m\/h.length<=m) h2 o/\d2_ h2 o/\(∀n off len cap,o=.ref n 10 off len cap->h.length<=n)/\R4_ F h2 s q b2 st2/\Ext (two s q) h h2/\xs.length=i/\i<=N/\m=N-i /\
   (Rdr.if_ b2 st2=none->(g4_ dec N (Rdr.if_ b st1)).2=none)/\(∀l,Rdr.if_ b2 st2=some l->g4_ dec N (Rdr.if_ b st1)=(xs++(g4_ dec (N-i) (some l)).1,(g4_ dec (N-i) (some l)).2))) N ?_ ?_
 ·refine⟨0,[],.nils,b,st1,by simp[a3_,c9_],by simp[a3_,c9_],by simp[a3_],by simp[a3_],by simp[a3_],Own.nils _,trivial,(by intro _ _ _ _ e;cases e),S1,xt,rfl,by omega,by omega,?_,?_⟩
  ·intro e;rw[e];exact M7_ hn _
  ·intro l e;rw[e];simp
 ·rintro m L h2 ⟨i,xs,o,b2,st2,k0,k1,k7,k19,k20,hO,hA,hR,S2,X2,hx,hi,rfl,hz,hm⟩
  simp only[s5_,go_sem,k19,k20]
  refine b0_ (λci=>?_) (λci=>?_)
  ·simp at ci
   simp only[go_sem,reduceEqDiff,k1,k7]
   refine a1_ ⟨hg.1,hg.2 F h2 s q _ ⟨b2,st2,S2,rfl⟩⟩ ?_
   rintro _ h3 ⟨x,as,rfl,hO3,⟨b3,st3,S3,e3⟩,X3,hx3⟩
   have has:as.length=10:=by rw[y0_ hO3,hc]
   have hn0:∀m,F m->m<h.length:=λm hm=>by have:=hFs m hm;omega
   have keep3:v4_ (λm=>F m\/h.length<=m) h2 h3:=X3.keepOff (λm _ hm hm'=>by rcases hm with hm | hm<;>rcases hm' with rfl | rfl<;>first | (have:=hFs _ hm;omega) | omega)
   have hO':=Own.mono (F':=λm=>F m\/h.length<=m) _ (λ_ x=>x) keep3 _ hO
   have hA':=hA.keep hO keep3
   have l2:h.length<=h2.length:=X2.1
   have l3:h2.length<=h3.length:=X3.1
   obtain⟨o4,h4,s1,s2,s3,s4,s5⟩:=b_6 (bytes:=160) (G:=λm=>F m\/h2.length<=m) (es:=[x.c]) (ys:=[as]) (h:=h3++[some (.arr 10 [as] false)]) hO' hA' (Ext.b1 _)
    ⟨as,[],rfl,g2_.mono _ (λ_ x=>x) ((Ext.b1 (h:=h3) (some (.arr 10 [as] false))).keep _) _ hO3,rfl⟩
    (λm hm=>hm.elim .inl (λx=>.inr (by omega)))
    (λn off len cap e hm=>by
     have h1:=hR _ _ _ _ e
     subst e
     obtain⟨row,g,hrow,_⟩:=hA
     have h2:=(J_w.1 hrow).1
     rcases hm with hm | hm
     ·have:=hn0 _ hm;omega
     ·omega) (.inr (by simp;omega)) (by simp;omega)
   have s1':=s1
   rw[<-c6_ (l4_ h3 10 [as] false (some 1) (len:=1) rfl)]at s1'
   have hsc:=hO3.scalars
   have S4:=(S3.up (Ext.b1 (some (.arr 10 [as] false)))).off s4 (λm hm=>by obtain⟨⟨_,_,_,e⟩,_⟩:=hm;have:=hR _ _ _ _ e;omega)
   have e1:IntKind.i64.wrap (↑i+1)=(i:Int)+1:=a7_ (by omega)
   have X4:Ext (two s q) h h4:=((X2.trans X3 (λ_ _ x=>x) (λ_ _ x=>x)).trans (Ext.b1 (some (.arr 10 [as] false))) (λ_ _ x=>x) (λ_ _ x=>x.elim)).trans s4 (λ_ _ x=>x) (λm hm hm'=>by obtain⟨⟨_,_,_,e⟩,_⟩:=hm';have:=hR _ _ _ _ e;omega)
   have go:∀st0,Rdr.if_ b2 st2=st0->(Rdr.if_ b3 st3=none->(g4_ dec N (Rdr.if_ b st1)).2=none)/\(∀l,Rdr.if_ b3 st3=some l->g4_ dec N (Rdr.if_ b st1)=(xs++[x]++(g4_ dec (N-(i+1)) (some l)).1,(g4_ dec (N-(i+1)) (some l)).2)):=by
    intro st0 e0
    rw[e0]at e3 hx3
    rw[<-e3]
    cases st0 with
    | none=>exact⟨λ_=>hz e0,λl e=>by rw[hn]at e;cases e⟩
    | some l0=>
     have hm0:=hm l0 e0
     rw[show N-i=(N-(i+1))+1 by omega]at hm0
     refine⟨λe=>by rw[hm0];exact a_a e,λl e=>?_⟩
     rw[hm0,a_b e,hx3 (by rw[e];simp)]
     simp
   obtain⟨go1,go2⟩:=go _ rfl
   simp only[go_sem,reduceEqDiff,reduceAdd,has,k0,hsc,s1']
   refine j4_ hb.2 (C0_ hb S4.2.1) ?_
   cases st3 with
   | none=>
    simp only[go_sem,reduceEqDiff,M_d]
    refine⟨[],.nils,false,b3,none,rfl,Own.nils _,G1_.nils _ _,S4,X4,by simp,λ_=>?_⟩
    rw[E1];exact go1 (by cases b3<;>rfl)
   | some l3=>
    simp only[go_sem,reduceEqDiff,L_p,k0,k1,k7,k19,k20,e1]
    refine⟨_,by omega,i+1,xs++[x],o4,b3,_,rfl,by simp,by simpa using s2,s3,λn off len cap e=>?_,S4,X4,by simp[hx],ci,rfl,go1,go2⟩
    rcases s5 _ _ _ _ e with⟨_,_,_,e'⟩ | hge
    ·exact hR _ _ _ _ e'
    ·simp only[J_z,List.length_cons,K_d]at hge;omega
  ·simp at ci
   obtain rfl:i=N:=by omega
   simp only[go_sem,reduceEqDiff,k0,k7]
   refine j4_ hb.2 (C0_ hb S2.2.1) ?_
   simp only[go_sem,reduceEqDiff]
   refine⟨xs,o,!st2.isNone,b2,st2,rfl,hO,hR,S2,X2,λhok=>?_,λhok=>?_⟩
   ·rw[E1]
    cases e:Rdr.if_ b2 st2 with
    | none=>exact⟨hz e,λhh=>absurd rfl hh⟩
    | some l=>
     have:=hm l e
     rw[Nat.sub_self]at this
     refine⟨by rw[this];rfl,λ_=>?_⟩
     rw[E2 (by rw[E1,this];simp[g4_]),this];simp[g4_]
   ·rw[E1]
    refine hz ?_
    cases st2 with
    | none=>cases b2<;>rfl
    | some l=>simp at hok
theorem m_g {P:Program}{f fi l bd:FuncId}{dec:Rdr->v3_×Rdr}(hf:Is P f (e7_ fi l bd))(hI:r_c P fi)(hl:Is P l f5_)(hb:Is P bd g9_)(hc:∀x:v3_,x.c.length=5:=λ_=>rfl):B_5 P f 5 v3_.c dec:=by
 refine⟨hf.2,λget hg hn F h s q b st hs=>a4_ hf.1 (J_y rfl) ?_⟩
 show vc P (e7_ fi l bd).code ⟨[(0,.ptr q 2 0 0),(1,.clo get [.ptr s 2 0 0] [])],[],h⟩ (b2_ (e7_ fi l bd).res _)
 have hq:=hs.2.2.2
 have hlt:=hs.lt
 simp only[e7_,go_sem,reduceEqDiff]
 refine a1_ ⟨hI.1,hI.2 F _ q st hs.2.1 hs.nq⟩ ?_
 rintro _ h1 ⟨rfl,r1,x1⟩
 have S1:=hs.next x1 r1
 obtain⟨K1,K2⟩:=l_n hn b st
 have lb:=r1.2.2
 have xt:=x1.weak (F':=two s q) (λ_ _ x=>.inr x)
 have bad:((a2_ st).1<0\/(((a2_ st).2.all.length / 8:Nat):Int)<(a2_ st).1)->∃(xs:List v3_)(a:AV)(ok b2:Bool)(st2:Rdr),AV.tup [.nils,.bool false]=.tup [a,.bool ok]/\Own (.sl 5 (xs.map v3_.c)) (λm=>F m\/h.length<=m) h1 a/\G1_ h.length 5 a/\R4_ F h1 s q b2 st2/\Ext (two s q) h h1 /\
   (ok=true->(l0_ dec (Rdr.if_ b st)).2=Rdr.if_ b2 st2/\(Rdr.if_ b2 st2≠none->xs=(l0_ dec (Rdr.if_ b st)).1))/\(ok=false->(l0_ dec (Rdr.if_ b st)).2=none):=
  λc=>⟨[],.nils,false,b,_,rfl,Own.nils _,G1_.nils _ _,S1,xt,by simp,λ_=>K1 c⟩
 have q8:∀x:Int,V2_ .quo (.int .i64 x) (.int .i64 8)=some (.int .i64 (IntKind.i64.wrap (x.tdiv 8))):=λ_=>rfl
 have e8:IntKind.i64.wrap (((a2_ st).2.all.length:Int).tdiv 8)=(((a2_ st).2.all.length / 8:Nat):Int):=by
  rw[L_4 (by omega),a7_ (by omega)];omega
 simp only[go_sem,reduceEqDiff]
 by_cases c1:(a2_ st).1<0
 ·simp only[decide_eq_true c1,go_sem,reduceEqDiff]
  exact bad (.inl c1)
 simp only[decide_eq_false c1,go_sem,reduceEqDiff]
 refine j4_ hl.2 (S0_ hl r1) ?_
 simp only[go_sem,reduceEqDiff,q8,e8]
 by_cases c2:(((a2_ st).2.all.length / 8:Nat):Int)<(a2_ st).1
 ·simp only[decide_eq_true c2,go_sem,reduceEqDiff]
  exact bad (.inr c2)
 simp only[decide_eq_false c2,go_sem,reduceEqDiff]
 obtain⟨E1,E2⟩:=K2 (by omega)
 clear bad K1 K2
 generalize (a2_ st).1=n at *
 generalize (a2_ st).2=st1 at *
 obtain⟨N,rfl⟩:=L_2 (show 0<=n by omega)
 rw[L_b]at E1 E2
 have hN37:N<=2^37:=by omega
 have hFs:∀m,F m->m<q:=hs.2.2.1
 refine e8_ (λm L h2=>∃(i:Nat)(xs:List v3_)(o:AV)(b2:Bool)(st2:Rdr),lk 0 L=.ptr q 2 0 0/\lk 1 L=.clo get [.ptr s 2 0 0] []/\lk 7 L=o/\lk 19 L=.int .i64 N/\lk 20 L=.int .i64 i /\
   Own (.sl 5 (xs.map v3_.c)) (λm=>F m\/h.length<=m) h2 o/\d2_ h2 o/\(∀n off len cap,o=.ref n 5 off len cap->h.length<=n)/\R4_ F h2 s q b2 st2/\Ext (two s q) h h2/\xs.length=i/\i<=N/\m=N-i /\
   (Rdr.if_ b2 st2=none->(g4_ dec N (Rdr.if_ b st1)).2=none)/\(∀l,Rdr.if_ b2 st2=some l->g4_ dec N (Rdr.if_ b st1)=(xs++(g4_ dec (N-i) (some l)).1,(g4_ dec (N-i) (some l)).2))) N ?_ ?_
 ·refine⟨0,[],.nils,b,st1,by simp[a3_,c9_],by simp[a3_,c9_],by simp[a3_],by simp[a3_],by simp[a3_],Own.nils _,trivial,(by intro _ _ _ _ e;cases e),S1,xt,rfl,by omega,by omega,?_,?_⟩
  ·intro e;rw[e];exact M7_ hn _
  ·intro l e;rw[e];simp
 ·rintro m L h2 ⟨i,xs,o,b2,st2,k0,k1,k7,k19,k20,hO,hA,hR,S2,X2,hx,hi,rfl,hz,hm⟩
  simp only[o3_,go_sem,k19,k20]
  refine b0_ (λci=>?_) (λci=>?_)
  ·simp at ci
   simp only[go_sem,reduceEqDiff,k1,k7]
   refine a1_ ⟨hg.1,hg.2 F h2 s q _ ⟨b2,st2,S2,rfl⟩⟩ ?_
   rintro _ h3 ⟨x,as,rfl,hO3,⟨b3,st3,S3,e3⟩,X3,hx3⟩
   have has:as.length=5:=by rw[y0_ hO3,hc]
   have hn0:∀m,F m->m<h.length:=λm hm=>by have:=hFs m hm;omega
   have keep3:v4_ (λm=>F m\/h.length<=m) h2 h3:=X3.keepOff (λm _ hm hm'=>by rcases hm with hm | hm<;>rcases hm' with rfl | rfl<;>first | (have:=hFs _ hm;omega) | omega)
   have hO':=Own.mono (F':=λm=>F m\/h.length<=m) _ (λ_ x=>x) keep3 _ hO
   have hA':=hA.keep hO keep3
   have l2:h.length<=h2.length:=X2.1
   have l3:h2.length<=h3.length:=X3.1
   obtain⟨o4,h4,s1,s2,s3,s4,s5⟩:=b_6 (bytes:=40) (G:=λm=>F m\/h2.length<=m) (es:=[x.c]) (ys:=[as]) (h:=h3++[some (.arr 5 [as] false)]) hO' hA' (Ext.b1 _)
    ⟨as,[],rfl,g2_.mono _ (λ_ x=>x) ((Ext.b1 (h:=h3) (some (.arr 5 [as] false))).keep _) _ hO3,rfl⟩
    (λm hm=>hm.elim .inl (λx=>.inr (by omega)))
    (λn off len cap e hm=>by
     have h1:=hR _ _ _ _ e
     subst e
     obtain⟨row,g,hrow,_⟩:=hA
     have h2:=(J_w.1 hrow).1
     rcases hm with hm | hm
     ·have:=hn0 _ hm;omega
     ·omega) (.inr (by simp;omega)) (by simp;omega)
   have s1':=s1
   rw[<-c6_ (l4_ h3 5 [as] false (some 1) (len:=1) rfl)]at s1'
   have hsc:=hO3.scalars
   have S4:=(S3.up (Ext.b1 (some (.arr 5 [as] false)))).off s4 (λm hm=>by obtain⟨⟨_,_,_,e⟩,_⟩:=hm;have:=hR _ _ _ _ e;omega)
   have e1:IntKind.i64.wrap (↑i+1)=(i:Int)+1:=a7_ (by omega)
   have X4:Ext (two s q) h h4:=((X2.trans X3 (λ_ _ x=>x) (λ_ _ x=>x)).trans (Ext.b1 (some (.arr 5 [as] false))) (λ_ _ x=>x) (λ_ _ x=>x.elim)).trans s4 (λ_ _ x=>x) (λm hm hm'=>by obtain⟨⟨_,_,_,e⟩,_⟩:=hm';have:=hR _ _ _ _ e;omega)
   have go:∀st0,Rdr.if_ b2 st2=st0->(Rdr.if_ b3 st3=none->(g4_ dec N (Rdr.if_ b st1)).2=none)/\(∀l,Rdr.if_ b3 st3=some l->g4_ dec N (Rdr.if_ b st1)=(xs++[x]++(g4_ dec (N-(i+1)) (some l)).1,(g4_ dec (N-(i+1)) (some l)).2)):=by
    intro st0 e0
    rw[e0]at e3 hx3
    rw[<-e3]
    cases st0 with
    | none=>exact⟨λ_=>hz e0,λl e=>by rw[hn]at e;cases e⟩
    | some l0=>
     have hm0:=hm l0 e0
     rw[show N-i=(N-(i+1))+1 by omega]at hm0
     refine⟨λe=>by rw[hm0];exact a_a e,λl e=>?_⟩
     rw[hm0,a_b e,hx3 (by rw[e];simp)]
     simp
   obtain⟨go1,go2⟩:=go _ rfl
   simp only[go_sem,reduceEqDiff,reduceAdd,has,k0,hsc,s1']
   refine j4_ hb.2 (C0_ hb S4.2.1) ?_
   cases st3 with
   | none=>
    simp only[go_sem,reduceEqDiff,M_d]
    refine⟨[],.nils,false,b3,none,rfl,Own.nils _,G1_.nils _ _,S4,X4,by simp,λ_=>?_⟩
    rw[E1];exact go1 (by cases b3<;>rfl)
   | some l3=>
    simp only[go_sem,reduceEqDiff,L_p,k0,k1,k7,k19,k20,e1]
    refine⟨_,by omega,i+1,xs++[x],o4,b3,_,rfl,by simp,by simpa using s2,s3,λn off len cap e=>?_,S4,X4,by simp[hx],ci,rfl,go1,go2⟩
    rcases s5 _ _ _ _ e with⟨_,_,_,e'⟩ | hge
    ·exact hR _ _ _ _ e'
    ·simp only[J_z,List.length_cons,K_d]at hge;omega
  ·simp at ci
   obtain rfl:i=N:=by omega
   simp only[go_sem,reduceEqDiff,k0,k7]
   refine j4_ hb.2 (C0_ hb S2.2.1) ?_
   simp only[go_sem,reduceEqDiff]
   refine⟨xs,o,!st2.isNone,b2,st2,rfl,hO,hR,S2,X2,λhok=>?_,λhok=>?_⟩
   ·rw[E1]
    cases e:Rdr.if_ b2 st2 with
    | none=>exact⟨hz e,λhh=>absurd rfl hh⟩
    | some l=>
     have:=hm l e
     rw[Nat.sub_self]at this
     refine⟨by rw[this];rfl,λ_=>?_⟩
     rw[E2 (by rw[E1,this];simp[g4_]),this];simp[g4_]
   ·rw[E1]
    refine hz ?_
    cases st2 with
    | none=>cases b2<;>rfl
    | some l=>simp at hok
def k_t {T:Type}(P:Program)(f:FuncId)(sz:Nat)(c:T->List D)(dec:Rdr->T×Rdr):Prop:=
 f2_ P f=true/\∀(get:FuncId),Z3_ P get c dec->(dec none).2=none->∀(F:Nat->Prop)(h:a0_)(s q:Nat)(st:Rdr),e_d F h s q st->
  a6_ P f [.ptr s 2 0 0,.clo get [.ptr s 2 0 0] []] h λr h'=>∃(xs:List T),Own (.sl sz (xs.map c)) (λm=>F m\/h.length<=m) h' r/\G1_ h.length sz r/\e_d F h' s q (l0_ dec st).2/\Ext (two s q) h h'/\((l0_ dec st).2≠none->xs=(l0_ dec st).1)
theorem g_k {P:Program}{f g:FuncId}{dec:Rdr->e0_×Rdr}(hf:Is P f (h1_ g))(hg:B_5 P g 3 e0_.c dec):k_t P f 3 e0_.c dec:=by
 refine⟨hf.2,λget hgt hn F h s q st ⟨b,st',hs,e⟩=>a4_ hf.1 (J_y rfl) ?_⟩
 show vc P (h1_ g).code ⟨[(0,.ptr s 2 0 0),(1,.clo get [.ptr s 2 0 0] [])],[],h⟩ (b2_ (h1_ g).res _)
 subst e
 have B:=hs.1
 have hq:=hs.2.2.2
 have hlt:=hs.lt
 simp only[h1_,go_sem,reduceEqDiff,B]
 refine a1_ ⟨hg.1,hg.2 get hgt hn F h s q b st' hs⟩ ?_
 rintro _ h1 ⟨xs,a,ok,b2,st2,rfl,hO,hNR,S1,X1,hok,hno⟩
 have B1:=S1.1
 have l1:=S1.lt
 cases ok with
 | true=>
  obtain⟨h3,h4⟩:=hok rfl
  simp only[go_sem,reduceEqDiff]
  refine⟨xs,hO,hNR,⟨b2,st2,S1,h3⟩,X1,λhh=>h4 (by rw[<-h3];exact hh)⟩
 | false=>
  simp only[go_sem,reduceEqDiff,reduceAdd,reduceLeDiff,B1]
  refine⟨xs,Own.mono _ (λ_ x=>x) (λm hm y hy=>?_) _ hO,hNR,⟨true,st2,⟨J_0 l1,S1.2.1.keep (J_x (by omega)) (λm hm y hy=>?_),S1.2.2⟩,hno rfl⟩,?_,λhh=>absurd (hno rfl) hh⟩
  ·rw[J_x (by rintro rfl;rcases hm with hm | hm;exact hs.ns hm;omega)];exact hy
  ·rw[J_x (by rintro rfl;exact hs.ns hm)];exact hy
  ·exact X1.trans (Ext.set (F:=two s q) _ (λ_=>.inl rfl)) (λ_ _ x=>x) (λ_ _ x=>x)
theorem j_h {P:Program}{f g:FuncId}{dec:Rdr->d7_×Rdr}(hf:Is P f (h6_ g))(hg:B_5 P g 10 d7_.c dec):k_t P f 10 d7_.c dec:=by
 refine⟨hf.2,λget hgt hn F h s q st ⟨b,st',hs,e⟩=>a4_ hf.1 (J_y rfl) ?_⟩
 show vc P (h6_ g).code ⟨[(0,.ptr s 2 0 0),(1,.clo get [.ptr s 2 0 0] [])],[],h⟩ (b2_ (h6_ g).res _)
 subst e
 have B:=hs.1
 have hq:=hs.2.2.2
 have hlt:=hs.lt
 simp only[h6_,go_sem,reduceEqDiff,B]
 refine a1_ ⟨hg.1,hg.2 get hgt hn F h s q b st' hs⟩ ?_
 rintro _ h1 ⟨xs,a,ok,b2,st2,rfl,hO,hNR,S1,X1,hok,hno⟩
 have B1:=S1.1
 have l1:=S1.lt
 cases ok with
 | true=>
  obtain⟨h3,h4⟩:=hok rfl
  simp only[go_sem,reduceEqDiff]
  refine⟨xs,hO,hNR,⟨b2,st2,S1,h3⟩,X1,λhh=>h4 (by rw[<-h3];exact hh)⟩
 | false=>
  simp only[go_sem,reduceEqDiff,reduceAdd,reduceLeDiff,B1]
  refine⟨xs,Own.mono _ (λ_ x=>x) (λm hm y hy=>?_) _ hO,hNR,⟨true,st2,⟨J_0 l1,S1.2.1.keep (J_x (by omega)) (λm hm y hy=>?_),S1.2.2⟩,hno rfl⟩,?_,λhh=>absurd (hno rfl) hh⟩
  ·rw[J_x (by rintro rfl;rcases hm with hm | hm;exact hs.ns hm;omega)];exact hy
  ·rw[J_x (by rintro rfl;exact hs.ns hm)];exact hy
  ·exact X1.trans (Ext.set (F:=two s q) _ (λ_=>.inl rfl)) (λ_ _ x=>x) (λ_ _ x=>x)
theorem j_g {P:Program}{f g:FuncId}{dec:Rdr->v3_×Rdr}(hf:Is P f (e9_ g))(hg:B_5 P g 5 v3_.c dec):k_t P f 5 v3_.c dec:=by
 refine⟨hf.2,λget hgt hn F h s q st ⟨b,st',hs,e⟩=>a4_ hf.1 (J_y rfl) ?_⟩
 show vc P (e9_ g).code ⟨[(0,.ptr s 2 0 0),(1,.clo get [.ptr s 2 0 0] [])],[],h⟩ (b2_ (e9_ g).res _)
 subst e
 have B:=hs.1
 have hq:=hs.2.2.2
 have hlt:=hs.lt
 simp only[e9_,go_sem,reduceEqDiff,B]
 refine a1_ ⟨hg.1,hg.2 get hgt hn F h s q b st' hs⟩ ?_
 rintro _ h1 ⟨xs,a,ok,b2,st2,rfl,hO,hNR,S1,X1,hok,hno⟩
 have B1:=S1.1
 have l1:=S1.lt
 cases ok with
 | true=>
  obtain⟨h3,h4⟩:=hok rfl
  simp only[go_sem,reduceEqDiff]
  refine⟨xs,hO,hNR,⟨b2,st2,S1,h3⟩,X1,λhh=>h4 (by rw[<-h3];exact hh)⟩
 | false=>
  simp only[go_sem,reduceEqDiff,reduceAdd,reduceLeDiff,B1]
  refine⟨xs,Own.mono _ (λ_ x=>x) (λm hm y hy=>?_) _ hO,hNR,⟨true,st2,⟨J_0 l1,S1.2.1.keep (J_x (by omega)) (λm hm y hy=>?_),S1.2.2⟩,hno rfl⟩,?_,λhh=>absurd (hno rfl) hh⟩
  ·rw[J_x (by rintro rfl;rcases hm with hm | hm;exact hs.ns hm;omega)];exact hy
  ·rw[J_x (by rintro rfl;exact hs.ns hm)];exact hy
  ·exact X1.trans (Ext.set (F:=two s q) _ (λ_=>.inl rfl)) (λ_ _ x=>x) (λ_ _ x=>x)
theorem C_k {P:Program}{f g en li:FuncId}(hf:Is P f (m4_ g en li))(hg:r_c P g)(he:Z3_ P en e0_.c v7_.dec)(hl:k_t P li 3 e0_.c v7_.dec):Z3_ P f Log.c C6_.dec:=by
 refine⟨hf.2,λF h s q st ⟨b,st',hs,e⟩=>a4_ hf.1 (J_y rfl) ?_⟩
 show vc P (m4_ g en li).code ⟨[(0,.ptr s 2 0 0)],[],h⟩ (b2_ (m4_ g en li).res _)
 have hlt:=hs.lt
 have hq:=hs.2.2.2
 have B2:∀x y:Option a5_,(h++[x]++[y])[s]?=some (some (.arr 2 [[.ptr q 2 0 0,.bool b]] false)):=λx y=>(D_q hlt x y).trans hs.1
 simp only[m4_,go_sem,reduceEqDiff,reduceAdd,reducePow,reduceDiv,reduceMod,B2]
 have S0:=hs.up (Ext.b2 (some (.arr 3 [[.int .i64 0,.int .i64 0,.nils]] false)) none)
 have C0:=b_z h (some (.arr 3 [[.int .i64 0,.int .i64 0,.nils]] false)) none
 have D0:=O1_ h (some (.arr 3 [[.int .i64 0,.int .i64 0,.nils]] false)) none
 have E0:Ext nof h (h++[some (.arr 3 [[.int .i64 0,.int .i64 0,.nils]] false)]++[none]):=Ext.b2 _ _
 generalize h++[some (a5_.arr 3 [[.int .i64 0,.int .i64 0,.nils]] false)]++[none]=H0 at *
 have NR:∀k,f0_ (h.length+1) k (.ptr s 2 0 0)=true:=λk=>d6_ (by omega)
 simp only[NR,true_and]
 refine a1_ ⟨hg.1,hg.2 F _ q st' S0.2.1 hs.nq⟩ ?_
 rintro _ H1 ⟨rfl,r1,x1⟩
 have S1:=S0.next x1 r1
 have hq:=hs.2.2.2
 have lH:=E0.1
 have C1:H1[h.length]?=_:=(x1.2 _ (J_w.1 C0).1 (by simp only[only];omega)).trans C0
 have B1:=S1.1
 have D1:H1[h.length+1]?=some none:=(x1.2 _ (J_w.1 D0).1 (by simp only[only];omega)).trans D0
 have ne1:(h.length+1=s)=False:=eq_false (by omega)
 simp only[go_sem,reduceEqDiff,reducePow,reduceDiv,reduceMod,decide_true,t3_,k2_,B1,D1,ne1,F1_ D1]
 refine a1_ ⟨hg.1,hg.2 F _ q _ S1.2.1 hs.nq⟩ ?_
 rintro _ H2 ⟨rfl,r2,x2⟩
 have S2:=S1.next x2 r2
 have lH1:=x1.1
 have C2:H2[h.length]?=_:=(x2.2 _ (J_w.1 C1).1 (by simp only[only];omega)).trans C1
 have D2:H2[h.length+1]?=some none:=(x2.2 _ (J_w.1 D1).1 (by simp only[only];omega)).trans D1
 have B2:=S2.1
 have l2:=(J_w.1 D2).1
 simp only[go_sem,reduceEqDiff,reduceAdd,reduceLeDiff,reducePow,reduceDiv,reduceMod,decide_true,k2_,B2,D2,ne1,l2]
 rw[L_j]
 have S3:=S2.set (n:=h.length+1) (by omega) (some (.arr 3 [[.int .i64 (a2_ st').1,.int .i64 (a2_ (a2_ st').2).1,.nils]] false))
 have C3:(H2.set (h.length+1) (some (.arr 3 [[.int .i64 (a2_ st').1,.int .i64 (a2_ (a2_ st').2).1,.nils]] false)))[h.length]?=_:=(J_x (by omega)).trans C2
 have D3:=J_0 (a:=some (a5_.arr 3 [[.int .i64 (a2_ st').1,.int .i64 (a2_ (a2_ st').2).1,.nils]] false)) l2
 have E3:Ext (only q) h (H2.set (h.length+1) (some (.arr 3 [[.int .i64 (a2_ st').1,.int .i64 (a2_ (a2_ st').2).1,.nils]] false))):=
  (E0.trans (x1.trans x2 (λ_ _ x=>x) (λ_ _ x=>x)) (λ_ _ x=>x.elim) (λ_ _ x=>x)).put (by omega) _
 generalize H2.set (h.length+1) (some (a5_.arr 3 [[.int .i64 (a2_ st').1,.int .i64 (a2_ (a2_ st').2).1,.nils]] false))=H3 at *
 have lH3:=E3.1
 have lD:=(J_w.1 D3).1
 refine a1_ ⟨hl.1,hl.2 en he v7_.bad F _ s q _ ⟨b,_,S3,rfl⟩⟩ ?_
 rintro r H4 ⟨xs,o4,-,S4,x4,hx⟩
 have C4:H4[h.length]?=_:=(x4.2 _ (by omega) (by simp only[two];omega)).trans C3
 have D4:H4[h.length+1]?=_:=(x4.2 _ lD (by simp only[two];omega)).trans D3
 have l4:=(J_w.1 D4).1
 have l4':=(J_w.1 C4).1
 simp only[go_sem,reduceEqDiff,reduceAdd,reduceLeDiff,D4,l4,l4',o4.scalar,b5_ o4.scalar,C4,J_2]
 subst e
 have dl:C6_.dec (Rdr.if_ b st')=(⟨(a2_ (Rdr.if_ b st')).1,(a2_ (a2_ (Rdr.if_ b st')).2).1,(l0_ v7_.dec (a2_ (a2_ (Rdr.if_ b st')).2).2).1⟩,(l0_ v7_.dec (a2_ (a2_ (Rdr.if_ b st')).2).2).2):=rfl
 rw[dl,G5_,G5_]
 obtain⟨b4,st4,S4,e4⟩:=S4
 refine⟨⟨(a2_ st').1,(a2_ (a2_ st').2).1,xs⟩,_,rfl,?_,⟨b4,st4,(S4.set (by omega) _).set (by omega) _,e4⟩,(((E3.weak (F':=two s q) (λ_ _ x=>.inr x)).trans x4 (λ_ _ x=>x) (λ_ _ x=>x)).put (by omega) _).put (by omega) _,?_⟩
 ·refine⟨_,_,rfl,c3_ _ _ _,_,_,rfl,c3_ _ _ _,_,_,rfl,?_,rfl⟩
  refine Own.mono (F:=λm=>F m\/H3.length<=m) _ (λm hm=>hm.elim .inl (λx=>.inr (by omega))) (λm hm y hy=>?_) _ o4
  have hF:∀m,F m->m<q:=hs.2.2.1
  rw[J_x (by rcases hm with hm | hm;(have:=hF _ hm;omega);omega),J_x (by rcases hm with hm | hm;(have:=hF _ hm;omega);omega)];exact hy
 ·intro hh
  rw[hx hh]
  cases b with
  | true=>exact absurd rfl hh
  | false=>rfl
abbrev Z4_ (s q n:Nat):Nat->Prop:=λm=>m=s\/m=q\/m=n\/m=n+1
theorem y3_ {d:D}{F:Nat->Prop}{H H':a0_}{a:AV}{s q n k:Nat}(ho:Own d (λm=>F m\/k<=m) H a)(e:Ext (Z4_ s q n) H H')(hF:∀m,F m->m<q)(hq:q<s)(hs:s<n)(hk:n+2<=k):Own d (λm=>F m\/n<=m) H' a:=
 Own.mono _ (λm hm=>hm.elim .inl (λx=>.inr (by omega))) (e.keepOff (λm _ hm hm'=>by rcases hm with hm | hm;(have:=hF _ hm;simp only[Z4_]at hm';omega);(simp only[Z4_]at hm';omega))) _ ho
theorem g_f {x:Log}{F:Nat->Prop}{h:a0_}{a:List AV}(hh:g2_ x.c F h a):∃d,a=[.int .i64 x.base,.int .i64 x.bterm,d]/\Own (b7_ x.es) F h d:=by
 simp only[Log.c,g2_,Own]at hh
 obtain⟨_,_,rfl,rfl,_,_,rfl,rfl,d,_,rfl,hd,rfl⟩:=hh
 exact⟨d,rfl,by simpa only[b7_,Own] using hd⟩
theorem i_4 {x:v3_}{F:Nat->Prop}{h:a0_}{a:List AV}(hh:g2_ x.c F h a):a=[.int .i64 x.txn,.int .i64 x.part,.int .i64 x.promised,.int .i64 x.ballot,.int .i64 x.value]:=by
 simp only[v3_.c,g2_,Own]at hh
 obtain⟨_,_,rfl,rfl,_,_,rfl,rfl,_,_,rfl,rfl,_,_,rfl,rfl,_,_,rfl,rfl,rfl⟩:=hh
 rfl
theorem A_4 {P:Program}{f g lo co k:FuncId}(hf:Is P f (k7_ g lo co k))(hg:r_c P g)(hlo:Z3_ P lo Log.c C6_.dec)(hco:Z3_ P co e3_.c j3_.dec)(hk:q_4 P k):Z3_ P f d7_.c D0_.dec:=by
 refine⟨hf.2,λF h s q st ⟨b,st',hs,e⟩=>a4_ hf.1 (J_y rfl) ?_⟩
 show vc P (k7_ g lo co k).code ⟨[(0,.ptr s 2 0 0)],[],h⟩ (b2_ (k7_ g lo co k).res _)
 have hlt:=hs.lt
 have hq:=hs.2.2.2
 have B2:∀x y:Option a5_,(h++[x]++[y])[s]?=some (some (.arr 2 [[.ptr q 2 0 0,.bool b]] false)):=λx y=>(D_q hlt x y).trans hs.1
 have NR:∀k,f0_ (h.length+1) k (.ptr s 2 0 0)=true:=λk=>d6_ (by omega)
 have ne1:(h.length+1=s)=False:=eq_false (by omega)
 simp only[k7_,go_sem,reduceEqDiff,reduceAdd,reducePow,reduceDiv,reduceMod,B2,NR]
 have S0:=hs.up (Ext.b2 (some (.arr 10 [[.int .i64 0,.int .i64 0,.int .i64 0,.int .i64 0,.int .i64 0,.nils,.nils,.nils,.nils,.nils]] false)) none)
 have C0:=b_z h (some (.arr 10 [[.int .i64 0,.int .i64 0,.int .i64 0,.int .i64 0,.int .i64 0,.nils,.nils,.nils,.nils,.nils]] false)) none
 have D0:=O1_ h (some (.arr 10 [[.int .i64 0,.int .i64 0,.int .i64 0,.int .i64 0,.int .i64 0,.nils,.nils,.nils,.nils,.nils]] false)) none
 have E0:Ext (two s q) h (h++[some (.arr 10 [[.int .i64 0,.int .i64 0,.int .i64 0,.int .i64 0,.int .i64 0,.nils,.nils,.nils,.nils,.nils]] false)]++[none]):=(Ext.b2 _ _).weak (λ_ _ x=>x.elim)
 have lH0:h.length+2=(h++[some (a5_.arr 10 [[.int .i64 0,.int .i64 0,.int .i64 0,.int .i64 0,.int .i64 0,.nils,.nils,.nils,.nils,.nils]] false)]++[none]).length:=by simp
 generalize h++[some (a5_.arr 10 [[.int .i64 0,.int .i64 0,.int .i64 0,.int .i64 0,.int .i64 0,.nils,.nils,.nils,.nils,.nils]] false)]++[none]=H0 at *
 clear B2
 refine a1_ ⟨hg.1,hg.2 F _ q _ S0.2.1 hs.nq⟩ ?_
 rintro _ H1 ⟨rfl,r1,x1⟩
 have S1:=S0.next x1 r1
 have lH1:=x1.1
 have C1:H1[h.length]?=_:=(x1.2 _ (by omega) (by simp only[only];omega)).trans C0
 have D1:H1[h.length+1]?=some none:=(x1.2 _ (by omega) (by simp only[only];omega)).trans D0
 have B1:=S1.1
 have E1:=E0.trans x1 (λ_ _ x=>x) (λ_ _ x=>.inr x)
 simp only[go_sem,reduceEqDiff,reducePow,reduceDiv,reduceMod,decide_true,t3_,k2_,B1,D1,ne1,F1_ D1]
 refine a1_ ⟨hg.1,hg.2 F _ q _ S1.2.1 hs.nq⟩ ?_
 rintro _ H2 ⟨rfl,r2,x2⟩
 have S2:=S1.next x2 r2
 have lH2:=x2.1
 have C2:H2[h.length]?=_:=(x2.2 _ (by omega) (by simp only[only];omega)).trans C1
 have D2:H2[h.length+1]?=some none:=(x2.2 _ (by omega) (by simp only[only];omega)).trans D1
 have B2:=S2.1
 have E2:=E1.trans x2 (λ_ _ x=>x) (λ_ _ x=>.inr x)
 simp only[go_sem,reduceEqDiff,reducePow,reduceDiv,reduceMod,decide_true,t3_,k2_,B2,D2,ne1,F1_ D2]
 refine a1_ ⟨hg.1,hg.2 F _ q _ S2.2.1 hs.nq⟩ ?_
 rintro _ H3 ⟨rfl,r3,x3⟩
 have S3:=S2.next x3 r3
 have lH3:=x3.1
 have C3:H3[h.length]?=_:=(x3.2 _ (by omega) (by simp only[only];omega)).trans C2
 have D3:H3[h.length+1]?=some none:=(x3.2 _ (by omega) (by simp only[only];omega)).trans D2
 have B3:=S3.1
 have E3:=E2.trans x3 (λ_ _ x=>x) (λ_ _ x=>.inr x)
 have l3:h.length+1<H3.length:=by omega
 simp only[go_sem,reduceEqDiff,reduceAdd,reduceLeDiff,reducePow,reduceDiv,reduceMod,decide_true,k2_,B3,D3,ne1,l3]
 rw[L_j]
 have K0:Ext (Z4_ s q h.length) H3 (H3.set (h.length+1) (some (.arr 10 [[.int .i64 (a2_ st').1,.int .i64 (a2_ (a2_ st').2).1,.int .i64 (a2_ (a2_ (a2_ st').2).2).1,.int .i64 0,.int .i64 0,.nils,.nils,.nils,.nils,.nils]] false))):=Ext.set _ (λ_=>.inr (.inr (.inr rfl)))
 have SS:=S3.set (n:=h.length+1) (by omega) (some (.arr 10 [[.int .i64 (a2_ st').1,.int .i64 (a2_ (a2_ st').2).1,.int .i64 (a2_ (a2_ (a2_ st').2).2).1,.int .i64 0,.int .i64 0,.nils,.nils,.nils,.nils,.nils]] false))
 have CC:(H3.set (h.length+1) (some (.arr 10 [[.int .i64 (a2_ st').1,.int .i64 (a2_ (a2_ st').2).1,.int .i64 (a2_ (a2_ (a2_ st').2).2).1,.int .i64 0,.int .i64 0,.nils,.nils,.nils,.nils,.nils]] false)))[h.length]?=_:=(J_x (by omega)).trans C3
 have DD:=J_0 (a:=some (a5_.arr 10 [[.int .i64 (a2_ st').1,.int .i64 (a2_ (a2_ st').2).1,.int .i64 (a2_ (a2_ (a2_ st').2).2).1,.int .i64 0,.int .i64 0,.nils,.nils,.nils,.nils,.nils]] false)) l3
 have EE:=E3.put (n:=h.length+1) (by omega) (some (.arr 10 [[.int .i64 (a2_ st').1,.int .i64 (a2_ (a2_ st').2).1,.int .i64 (a2_ (a2_ (a2_ st').2).2).1,.int .i64 0,.int .i64 0,.nils,.nils,.nils,.nils,.nils]] false))
 have lHH:(H3.set (h.length+1) (some (.arr 10 [[.int .i64 (a2_ st').1,.int .i64 (a2_ (a2_ st').2).1,.int .i64 (a2_ (a2_ (a2_ st').2).2).1,.int .i64 0,.int .i64 0,.nils,.nils,.nils,.nils,.nils]] false))).length=H3.length:=J_2
 generalize hgen:H3.set (h.length+1) (some (a5_.arr 10 [[.int .i64 (a2_ st').1,.int .i64 (a2_ (a2_ st').2).1,.int .i64 (a2_ (a2_ (a2_ st').2).2).1,.int .i64 0,.int .i64 0,.nils,.nils,.nils,.nils,.nils]] false))=G0 at *
 have T0:e_d F G0 s q (Rdr.if_ b (a2_ (a2_ (a2_ st').2).2).2):=⟨b,_,SS,rfl⟩
 generalize hσ:Rdr.if_ b (a2_ (a2_ (a2_ st').2).2).2=σ0 at *
 refine a1_ ⟨hlo.1,hlo.2 F _ s q _ T0⟩ ?_
 rintro _ J1 ⟨y1,as1,rfl,w1,U1,z1,hy1⟩
 obtain⟨d1,rfl,wl1⟩:=g_f w1
 have z1:=z1
 have lJ1:=z1.1
 have CJ1:J1[h.length]?=_:=(z1.2 _ (by omega) (by simp only[two];omega)).trans CC
 have DJ1:J1[h.length+1]?=_:=(z1.2 _ (by omega) (by simp only[two];omega)).trans DD
 have mJ1:h.length+1<J1.length:=by omega
 have nJ1:h.length<J1.length:=by omega
 simp only[go_sem,reduceEqDiff,reduceAdd,reduceLeDiff,DJ1,wl1.scalar]
 have K1:Ext (Z4_ s q h.length) G0 (J1.set (h.length+1) (some (.arr 10 [[.int .i64 (a2_ st').1,.int .i64 (a2_ (a2_ st').2).1,.int .i64 (a2_ (a2_ (a2_ st').2).2).1,.int .i64 y1.base,.int .i64 y1.bterm,d1,.nils,.nils,.nils,.nils]] false))):=z1.trans (Ext.set (F:=Z4_ s q h.length) _ (λ_=>.inr (.inr (.inr rfl)))) (λ_ _ x=>x.elim .inl (λy=>.inr (.inl y))) (λ_ _ x=>x)
 have M1:Ext (Z4_ s q h.length) J1 (J1.set (h.length+1) (some (.arr 10 [[.int .i64 (a2_ st').1,.int .i64 (a2_ (a2_ st').2).1,.int .i64 (a2_ (a2_ (a2_ st').2).2).1,.int .i64 y1.base,.int .i64 y1.bterm,d1,.nils,.nils,.nils,.nils]] false))):=Ext.set _ (λ_=>.inr (.inr (.inr rfl)))
 have T1:e_d F (J1.set (h.length+1) (some (.arr 10 [[.int .i64 (a2_ st').1,.int .i64 (a2_ (a2_ st').2).1,.int .i64 (a2_ (a2_ (a2_ st').2).2).1,.int .i64 y1.base,.int .i64 y1.bterm,d1,.nils,.nils,.nils,.nils]] false))) s q (C6_.dec σ0).2:=by obtain⟨b',s',S',e'⟩:=U1;exact⟨b',s',S'.set (by omega) _,e'⟩
 skip
 have CC:=(J_x (a:=some (a5_.arr 10 [[.int .i64 (a2_ st').1,.int .i64 (a2_ (a2_ st').2).1,.int .i64 (a2_ (a2_ (a2_ st').2).2).1,.int .i64 y1.base,.int .i64 y1.bterm,d1,.nils,.nils,.nils,.nils]] false)) (show h.length+1≠h.length by omega)).trans CJ1
 have DD:=J_0 (a:=some (a5_.arr 10 [[.int .i64 (a2_ st').1,.int .i64 (a2_ (a2_ st').2).1,.int .i64 (a2_ (a2_ (a2_ st').2).2).1,.int .i64 y1.base,.int .i64 y1.bterm,d1,.nils,.nils,.nils,.nils]] false)) mJ1
 have EE:=(EE.trans z1 (λ_ _ x=>x) (λ_ _ x=>x)).put (n:=h.length+1) (by omega) (some (.arr 10 [[.int .i64 (a2_ st').1,.int .i64 (a2_ (a2_ st').2).1,.int .i64 (a2_ (a2_ (a2_ st').2).2).1,.int .i64 y1.base,.int .i64 y1.bterm,d1,.nils,.nils,.nils,.nils]] false))
 have lG1:(J1.set (h.length+1) (some (.arr 10 [[.int .i64 (a2_ st').1,.int .i64 (a2_ (a2_ st').2).1,.int .i64 (a2_ (a2_ (a2_ st').2).2).1,.int .i64 y1.base,.int .i64 y1.bterm,d1,.nils,.nils,.nils,.nils]] false))).length=J1.length:=J_2
 generalize J1.set (h.length+1) (some (a5_.arr 10 [[.int .i64 (a2_ st').1,.int .i64 (a2_ (a2_ st').2).1,.int .i64 (a2_ (a2_ (a2_ st').2).2).1,.int .i64 y1.base,.int .i64 y1.bterm,d1,.nils,.nils,.nils,.nils]] false))=G1 at *
 refine a1_ ⟨hco.1,hco.2 F _ s q _ T1⟩ ?_
 rintro _ J2 ⟨y2,as2,rfl,w2,U2,z2,hy2⟩
 obtain⟨d2,f2,g2,rfl,wl2,vl2,ul2⟩:=c_1 w2
 have z2:=z2
 have lJ2:=z2.1
 have CJ2:J2[h.length]?=_:=(z2.2 _ (by omega) (by simp only[two];omega)).trans CC
 have DJ2:J2[h.length+1]?=_:=(z2.2 _ (by omega) (by simp only[two];omega)).trans DD
 have mJ2:h.length+1<J2.length:=by omega
 have nJ2:h.length<J2.length:=by omega
 obtain⟨bb,sb,Ub,eb⟩:=U2
 have Bb:=Ub.1
 simp only[go_sem,reduceEqDiff,reduceAdd,reduceLeDiff,DJ2,mJ2,wl2.scalar,vl2.scalar,ul2.scalar,Bb,ne1]
 have K2:Ext (Z4_ s q h.length) G1 (J2.set (h.length+1) (some (.arr 10 [[.int .i64 (a2_ st').1,.int .i64 (a2_ (a2_ st').2).1,.int .i64 (a2_ (a2_ (a2_ st').2).2).1,.int .i64 y1.base,.int .i64 y1.bterm,d1,d2,f2,g2,.nils]] false))):=z2.trans (Ext.set (F:=Z4_ s q h.length) _ (λ_=>.inr (.inr (.inr rfl)))) (λ_ _ x=>x.elim .inl (λy=>.inr (.inl y))) (λ_ _ x=>x)
 have M2:Ext (Z4_ s q h.length) J2 (J2.set (h.length+1) (some (.arr 10 [[.int .i64 (a2_ st').1,.int .i64 (a2_ (a2_ st').2).1,.int .i64 (a2_ (a2_ (a2_ st').2).2).1,.int .i64 y1.base,.int .i64 y1.bterm,d1,d2,f2,g2,.nils]] false))):=Ext.set _ (λ_=>.inr (.inr (.inr rfl)))
 have T2:e_d F (J2.set (h.length+1) (some (.arr 10 [[.int .i64 (a2_ st').1,.int .i64 (a2_ (a2_ st').2).1,.int .i64 (a2_ (a2_ (a2_ st').2).2).1,.int .i64 y1.base,.int .i64 y1.bterm,d1,d2,f2,g2,.nils]] false))) s q (j3_.dec (C6_.dec σ0).2).2:=⟨bb,sb,Ub.set (by omega) _,eb⟩
 have Sb:R4_ F (J2.set (h.length+1) (some (.arr 10 [[.int .i64 (a2_ st').1,.int .i64 (a2_ (a2_ st').2).1,.int .i64 (a2_ (a2_ (a2_ st').2).2).1,.int .i64 y1.base,.int .i64 y1.bterm,d1,d2,f2,g2,.nils]] false))) s q bb sb:=Ub.set (by omega) _
 have CC:=(J_x (a:=some (a5_.arr 10 [[.int .i64 (a2_ st').1,.int .i64 (a2_ (a2_ st').2).1,.int .i64 (a2_ (a2_ (a2_ st').2).2).1,.int .i64 y1.base,.int .i64 y1.bterm,d1,d2,f2,g2,.nils]] false)) (show h.length+1≠h.length by omega)).trans CJ2
 have DD:=J_0 (a:=some (a5_.arr 10 [[.int .i64 (a2_ st').1,.int .i64 (a2_ (a2_ st').2).1,.int .i64 (a2_ (a2_ (a2_ st').2).2).1,.int .i64 y1.base,.int .i64 y1.bterm,d1,d2,f2,g2,.nils]] false)) mJ2
 have EE:=(EE.trans z2 (λ_ _ x=>x) (λ_ _ x=>x)).put (n:=h.length+1) (by omega) (some (.arr 10 [[.int .i64 (a2_ st').1,.int .i64 (a2_ (a2_ st').2).1,.int .i64 (a2_ (a2_ (a2_ st').2).2).1,.int .i64 y1.base,.int .i64 y1.bterm,d1,d2,f2,g2,.nils]] false))
 have lG2:(J2.set (h.length+1) (some (.arr 10 [[.int .i64 (a2_ st').1,.int .i64 (a2_ (a2_ st').2).1,.int .i64 (a2_ (a2_ (a2_ st').2).2).1,.int .i64 y1.base,.int .i64 y1.bterm,d1,d2,f2,g2,.nils]] false))).length=J2.length:=J_2
 generalize J2.set (h.length+1) (some (a5_.arr 10 [[.int .i64 (a2_ st').1,.int .i64 (a2_ (a2_ st').2).1,.int .i64 (a2_ (a2_ (a2_ st').2).2).1,.int .i64 y1.base,.int .i64 y1.bterm,d1,d2,f2,g2,.nils]] false))=G2 at *
 refine a1_ ⟨hk.1,hk.2 F _ q _ Sb.2.1 hs.nq⟩ ?_
 rintro d3 J3 ⟨w3,rb,zb⟩
 have z3:Ext (two s q) G2 J3:=zb.weak (λ_ _ x=>.inr x)
 have w3:=Own.mono (F':=λm=>F m\/G2.length<=m) _ (λ_ x=>.inl x) (λ_ _ _ x=>x) _ w3
 have U3:e_d F J3 s q (e5_ (j3_.dec (C6_.dec σ0).2).2).2:=by
  refine⟨bb,_,Sb.next zb rb,?_⟩
  rw[eb];cases bb<;>rfl
 have hy3:(e5_ (j3_.dec (C6_.dec σ0).2).2).2≠none->(e5_ sb).1=(e5_ (j3_.dec (C6_.dec σ0).2).2).1:=by
  rw[eb];cases bb
  ·exact λ_=>rfl
  ·exact λhh=>absurd rfl hh
 generalize (e5_ sb).1=y3 at *
 have lJ3:=z3.1
 have CJ3:J3[h.length]?=_:=(z3.2 _ (by omega) (by simp only[two];omega)).trans CC
 have DJ3:J3[h.length+1]?=_:=(z3.2 _ (by omega) (by simp only[two];omega)).trans DD
 have mJ3:h.length+1<J3.length:=by omega
 have nJ3:h.length<J3.length:=by omega
 simp only[go_sem,reduceEqDiff,reduceAdd,reduceLeDiff,DJ3,CJ3,mJ3,nJ3,J_2,wl1.scalar,wl2.scalar,vl2.scalar,ul2.scalar,w3.scalar,b5_ w3.scalar]
 have K3:Ext (Z4_ s q h.length) G2 (J3.set (h.length+1) (some (.arr 10 [[.int .i64 (a2_ st').1,.int .i64 (a2_ (a2_ st').2).1,.int .i64 (a2_ (a2_ (a2_ st').2).2).1,.int .i64 y1.base,.int .i64 y1.bterm,d1,d2,f2,g2,d3]] false))):=z3.trans (Ext.set (F:=Z4_ s q h.length) _ (λ_=>.inr (.inr (.inr rfl)))) (λ_ _ x=>x.elim .inl (λy=>.inr (.inl y))) (λ_ _ x=>x)
 have M3:Ext (Z4_ s q h.length) J3 (J3.set (h.length+1) (some (.arr 10 [[.int .i64 (a2_ st').1,.int .i64 (a2_ (a2_ st').2).1,.int .i64 (a2_ (a2_ (a2_ st').2).2).1,.int .i64 y1.base,.int .i64 y1.bterm,d1,d2,f2,g2,d3]] false))):=Ext.set _ (λ_=>.inr (.inr (.inr rfl)))
 have T3:e_d F (J3.set (h.length+1) (some (.arr 10 [[.int .i64 (a2_ st').1,.int .i64 (a2_ (a2_ st').2).1,.int .i64 (a2_ (a2_ (a2_ st').2).2).1,.int .i64 y1.base,.int .i64 y1.bterm,d1,d2,f2,g2,d3]] false))) s q (e5_ (j3_.dec (C6_.dec σ0).2).2).2:=by obtain⟨b',s',S',e'⟩:=U3;exact⟨b',s',S'.set (by omega) _,e'⟩
 skip
 have CC:=(J_x (a:=some (a5_.arr 10 [[.int .i64 (a2_ st').1,.int .i64 (a2_ (a2_ st').2).1,.int .i64 (a2_ (a2_ (a2_ st').2).2).1,.int .i64 y1.base,.int .i64 y1.bterm,d1,d2,f2,g2,d3]] false)) (show h.length+1≠h.length by omega)).trans CJ3
 have DD:=J_0 (a:=some (a5_.arr 10 [[.int .i64 (a2_ st').1,.int .i64 (a2_ (a2_ st').2).1,.int .i64 (a2_ (a2_ (a2_ st').2).2).1,.int .i64 y1.base,.int .i64 y1.bterm,d1,d2,f2,g2,d3]] false)) mJ3
 have EE:=(EE.trans z3 (λ_ _ x=>x) (λ_ _ x=>x)).put (n:=h.length+1) (by omega) (some (.arr 10 [[.int .i64 (a2_ st').1,.int .i64 (a2_ (a2_ st').2).1,.int .i64 (a2_ (a2_ (a2_ st').2).2).1,.int .i64 y1.base,.int .i64 y1.bterm,d1,d2,f2,g2,d3]] false))
 have lG3:(J3.set (h.length+1) (some (.arr 10 [[.int .i64 (a2_ st').1,.int .i64 (a2_ (a2_ st').2).1,.int .i64 (a2_ (a2_ (a2_ st').2).2).1,.int .i64 y1.base,.int .i64 y1.bterm,d1,d2,f2,g2,d3]] false))).length=J3.length:=J_2
 generalize J3.set (h.length+1) (some (a5_.arr 10 [[.int .i64 (a2_ st').1,.int .i64 (a2_ (a2_ st').2).1,.int .i64 (a2_ (a2_ (a2_ st').2).2).1,.int .i64 y1.base,.int .i64 y1.bterm,d1,d2,f2,g2,d3]] false))=G3 at *
 subst e
 have dl:D0_.dec (Rdr.if_ b st')=(⟨(a2_ (Rdr.if_ b st')).1,(a2_ (a2_ (Rdr.if_ b st')).2).1,(a2_ (a2_ (a2_ (Rdr.if_ b st')).2).2).1,(C6_.dec (a2_ (a2_ (a2_ (Rdr.if_ b st')).2).2).2).1,(j3_.dec (C6_.dec (a2_ (a2_ (a2_ (Rdr.if_ b st')).2).2).2).2).1,(e5_ (j3_.dec (C6_.dec (a2_ (a2_ (a2_ (Rdr.if_ b st')).2).2).2).2).2).1⟩,(e5_ (j3_.dec (C6_.dec (a2_ (a2_ (a2_ (Rdr.if_ b st')).2).2).2).2).2).2):=rfl
 rw[dl,G5_,G5_,G5_,hσ]
 have fin:∀(H:a0_)(y:Option a5_),Ext (Z4_ s q h.length) H (H.set h.length y):=λH y=>Ext.set _ (λ_=>.inr (.inr (.inl rfl)))
 have hF:∀m,F m->m<q:=hs.2.2.1
 refine⟨⟨(a2_ st').1,(a2_ (a2_ st').2).1,(a2_ (a2_ (a2_ st').2).2).1,y1,y2,y3⟩,_,rfl,?_,by obtain⟨b',s',S',e'⟩:=T3;exact⟨b',s',S'.set (by omega) _,e'⟩,EE.put (by omega) _,λhh=>?_⟩
 ·exact⟨_,_,rfl,c3_ _ _ _,⟨_,_,rfl,c3_ _ _ _,⟨_,_,rfl,c3_ _ _ _,⟨_,_,rfl,c3_ _ _ _,⟨_,_,rfl,c3_ _ _ _,⟨_,_,rfl,y3_ wl1 (((M1.trans K2 (λ_ _ x=>x) (λ_ _ x=>x)).trans K3 (λ_ _ x=>x) (λ_ _ x=>x)).trans (fin _ _) (λ_ _ x=>x) (λ_ _ x=>x)) hF hq hlt (by omega),⟨_,_,rfl,y3_ wl2 ((M2.trans K3 (λ_ _ x=>x) (λ_ _ x=>x)).trans (fin _ _) (λ_ _ x=>x) (λ_ _ x=>x)) hF hq hlt (by omega),⟨_,_,rfl,y3_ vl2 ((M2.trans K3 (λ_ _ x=>x) (λ_ _ x=>x)).trans (fin _ _) (λ_ _ x=>x) (λ_ _ x=>x)) hF hq hlt (by omega),⟨_,_,rfl,y3_ ul2 ((M2.trans K3 (λ_ _ x=>x) (λ_ _ x=>x)).trans (fin _ _) (λ_ _ x=>x) (λ_ _ x=>x)) hF hq hlt (by omega),⟨_,_,rfl,y3_ w3 (M3.trans (fin _ _) (λ_ _ x=>x) (λ_ _ x=>x)) hF hq hlt (by omega),rfl⟩⟩⟩⟩⟩⟩⟩⟩⟩⟩
 ·have n3:(e5_ (j3_.dec (C6_.dec σ0).2).2).2≠none:=hh
  have n2:(j3_.dec (C6_.dec σ0).2).2≠none:=λhz=>n3 (by rw[hz];exact rfl)
  have n1:(C6_.dec σ0).2≠none:=λhz=>n2 (by rw[hz];exact j3_.bad)
  have n0:σ0≠none:=λhz=>n1 (by rw[hz];exact C6_.bad)
  rw[hy1 n1,hy2 n2,hy3 n3]
  cases b with
  | true=>exact absurd hσ.symm n0
  | false=>rfl
theorem u_d {P:Program}{f g lo co k vo:FuncId}(hf:Is P f (i8_ g lo co k vo))(hg:r_c P g)(hlo:Z3_ P lo Log.c C6_.dec)(hco:Z3_ P co e3_.c j3_.dec)(hk:q_4 P k)(hv:Z3_ P vo v3_.c v9_.dec):Z3_ P f b9_.c o9_.dec:=by
 refine⟨hf.2,λF h s q st ⟨b,st',hs,e⟩=>a4_ hf.1 (J_y rfl) ?_⟩
 show vc P (i8_ g lo co k vo).code ⟨[(0,.ptr s 2 0 0)],[],h⟩ (b2_ (i8_ g lo co k vo).res _)
 have hlt:=hs.lt
 have hq:=hs.2.2.2
 have B2:∀x y:Option a5_,(h++[x]++[y])[s]?=some (some (.arr 2 [[.ptr q 2 0 0,.bool b]] false)):=λx y=>(D_q hlt x y).trans hs.1
 have NR:∀k,f0_ (h.length+1) k (.ptr s 2 0 0)=true:=λk=>d6_ (by omega)
 have ne1:(h.length+1=s)=False:=eq_false (by omega)
 simp only[i8_,go_sem,reduceEqDiff,reduceAdd,reducePow,reduceDiv,reduceMod,B2,NR]
 have S0:=hs.up (Ext.b2 (some (.arr 17 [[.int .i64 0,.int .i64 0,.int .i64 0,.int .i64 0,.int .i64 0,.int .i64 0,.int .i64 0,.nils,.nils,.nils,.nils,.nils,.int .i64 0,.int .i64 0,.int .i64 0,.int .i64 0,.int .i64 0]] false)) none)
 have C0:=b_z h (some (.arr 17 [[.int .i64 0,.int .i64 0,.int .i64 0,.int .i64 0,.int .i64 0,.int .i64 0,.int .i64 0,.nils,.nils,.nils,.nils,.nils,.int .i64 0,.int .i64 0,.int .i64 0,.int .i64 0,.int .i64 0]] false)) none
 have D0:=O1_ h (some (.arr 17 [[.int .i64 0,.int .i64 0,.int .i64 0,.int .i64 0,.int .i64 0,.int .i64 0,.int .i64 0,.nils,.nils,.nils,.nils,.nils,.int .i64 0,.int .i64 0,.int .i64 0,.int .i64 0,.int .i64 0]] false)) none
 have E0:Ext (two s q) h (h++[some (.arr 17 [[.int .i64 0,.int .i64 0,.int .i64 0,.int .i64 0,.int .i64 0,.int .i64 0,.int .i64 0,.nils,.nils,.nils,.nils,.nils,.int .i64 0,.int .i64 0,.int .i64 0,.int .i64 0,.int .i64 0]] false)]++[none]):=(Ext.b2 _ _).weak (λ_ _ x=>x.elim)
 have lH0:h.length+2=(h++[some (a5_.arr 17 [[.int .i64 0,.int .i64 0,.int .i64 0,.int .i64 0,.int .i64 0,.int .i64 0,.int .i64 0,.nils,.nils,.nils,.nils,.nils,.int .i64 0,.int .i64 0,.int .i64 0,.int .i64 0,.int .i64 0]] false)]++[none]).length:=by simp
 generalize h++[some (a5_.arr 17 [[.int .i64 0,.int .i64 0,.int .i64 0,.int .i64 0,.int .i64 0,.int .i64 0,.int .i64 0,.nils,.nils,.nils,.nils,.nils,.int .i64 0,.int .i64 0,.int .i64 0,.int .i64 0,.int .i64 0]] false)]++[none]=H0 at *
 clear B2
 refine a1_ ⟨hg.1,hg.2 F _ q _ S0.2.1 hs.nq⟩ ?_
 rintro _ H1 ⟨rfl,r1,x1⟩
 have S1:=S0.next x1 r1
 have lH1:=x1.1
 have C1:H1[h.length]?=_:=(x1.2 _ (by omega) (by simp only[only];omega)).trans C0
 have D1:H1[h.length+1]?=some none:=(x1.2 _ (by omega) (by simp only[only];omega)).trans D0
 have B1:=S1.1
 have E1:=E0.trans x1 (λ_ _ x=>x) (λ_ _ x=>.inr x)
 simp only[go_sem,reduceEqDiff,reducePow,reduceDiv,reduceMod,decide_true,t3_,k2_,B1,D1,ne1,F1_ D1]
 refine a1_ ⟨hg.1,hg.2 F _ q _ S1.2.1 hs.nq⟩ ?_
 rintro _ H2 ⟨rfl,r2,x2⟩
 have S2:=S1.next x2 r2
 have lH2:=x2.1
 have C2:H2[h.length]?=_:=(x2.2 _ (by omega) (by simp only[only];omega)).trans C1
 have D2:H2[h.length+1]?=some none:=(x2.2 _ (by omega) (by simp only[only];omega)).trans D1
 have B2:=S2.1
 have E2:=E1.trans x2 (λ_ _ x=>x) (λ_ _ x=>.inr x)
 simp only[go_sem,reduceEqDiff,reducePow,reduceDiv,reduceMod,decide_true,t3_,k2_,B2,D2,ne1,F1_ D2]
 refine a1_ ⟨hg.1,hg.2 F _ q _ S2.2.1 hs.nq⟩ ?_
 rintro _ H3 ⟨rfl,r3,x3⟩
 have S3:=S2.next x3 r3
 have lH3:=x3.1
 have C3:H3[h.length]?=_:=(x3.2 _ (by omega) (by simp only[only];omega)).trans C2
 have D3:H3[h.length+1]?=some none:=(x3.2 _ (by omega) (by simp only[only];omega)).trans D2
 have B3:=S3.1
 have E3:=E2.trans x3 (λ_ _ x=>x) (λ_ _ x=>.inr x)
 simp only[go_sem,reduceEqDiff,reducePow,reduceDiv,reduceMod,decide_true,t3_,k2_,B3,D3,ne1,F1_ D3]
 refine a1_ ⟨hg.1,hg.2 F _ q _ S3.2.1 hs.nq⟩ ?_
 rintro _ H4 ⟨rfl,r4,x4⟩
 have S4:=S3.next x4 r4
 have lH4:=x4.1
 have C4:H4[h.length]?=_:=(x4.2 _ (by omega) (by simp only[only];omega)).trans C3
 have D4:H4[h.length+1]?=some none:=(x4.2 _ (by omega) (by simp only[only];omega)).trans D3
 have B4:=S4.1
 have E4:=E3.trans x4 (λ_ _ x=>x) (λ_ _ x=>.inr x)
 simp only[go_sem,reduceEqDiff,reducePow,reduceDiv,reduceMod,decide_true,t3_,k2_,B4,D4,ne1,F1_ D4]
 refine a1_ ⟨hg.1,hg.2 F _ q _ S4.2.1 hs.nq⟩ ?_
 rintro _ H5 ⟨rfl,r5,x5⟩
 have S5:=S4.next x5 r5
 have lH5:=x5.1
 have C5:H5[h.length]?=_:=(x5.2 _ (by omega) (by simp only[only];omega)).trans C4
 have D5:H5[h.length+1]?=some none:=(x5.2 _ (by omega) (by simp only[only];omega)).trans D4
 have B5:=S5.1
 have E5:=E4.trans x5 (λ_ _ x=>x) (λ_ _ x=>.inr x)
 have l5:h.length+1<H5.length:=by omega
 simp only[go_sem,reduceEqDiff,reduceAdd,reduceLeDiff,reducePow,reduceDiv,reduceMod,decide_true,k2_,B5,D5,ne1,l5]
 rw[L_j]
 have K0:Ext (Z4_ s q h.length) H5 (H5.set (h.length+1) (some (.arr 17 [[.int .i64 (a2_ st').1,.int .i64 (a2_ (a2_ st').2).1,.int .i64 (a2_ (a2_ (a2_ st').2).2).1,.int .i64 (a2_ (a2_ (a2_ (a2_ st').2).2).2).1,.int .i64 (a2_ (a2_ (a2_ (a2_ (a2_ st').2).2).2).2).1,.int .i64 0,.int .i64 0,.nils,.nils,.nils,.nils,.nils,.int .i64 0,.int .i64 0,.int .i64 0,.int .i64 0,.int .i64 0]] false))):=Ext.set _ (λ_=>.inr (.inr (.inr rfl)))
 have SS:=S5.set (n:=h.length+1) (by omega) (some (.arr 17 [[.int .i64 (a2_ st').1,.int .i64 (a2_ (a2_ st').2).1,.int .i64 (a2_ (a2_ (a2_ st').2).2).1,.int .i64 (a2_ (a2_ (a2_ (a2_ st').2).2).2).1,.int .i64 (a2_ (a2_ (a2_ (a2_ (a2_ st').2).2).2).2).1,.int .i64 0,.int .i64 0,.nils,.nils,.nils,.nils,.nils,.int .i64 0,.int .i64 0,.int .i64 0,.int .i64 0,.int .i64 0]] false))
 have CC:(H5.set (h.length+1) (some (.arr 17 [[.int .i64 (a2_ st').1,.int .i64 (a2_ (a2_ st').2).1,.int .i64 (a2_ (a2_ (a2_ st').2).2).1,.int .i64 (a2_ (a2_ (a2_ (a2_ st').2).2).2).1,.int .i64 (a2_ (a2_ (a2_ (a2_ (a2_ st').2).2).2).2).1,.int .i64 0,.int .i64 0,.nils,.nils,.nils,.nils,.nils,.int .i64 0,.int .i64 0,.int .i64 0,.int .i64 0,.int .i64 0]] false)))[h.length]?=_:=(J_x (by omega)).trans C5
 have DD:=J_0 (a:=some (a5_.arr 17 [[.int .i64 (a2_ st').1,.int .i64 (a2_ (a2_ st').2).1,.int .i64 (a2_ (a2_ (a2_ st').2).2).1,.int .i64 (a2_ (a2_ (a2_ (a2_ st').2).2).2).1,.int .i64 (a2_ (a2_ (a2_ (a2_ (a2_ st').2).2).2).2).1,.int .i64 0,.int .i64 0,.nils,.nils,.nils,.nils,.nils,.int .i64 0,.int .i64 0,.int .i64 0,.int .i64 0,.int .i64 0]] false)) l5
 have EE:=E5.put (n:=h.length+1) (by omega) (some (.arr 17 [[.int .i64 (a2_ st').1,.int .i64 (a2_ (a2_ st').2).1,.int .i64 (a2_ (a2_ (a2_ st').2).2).1,.int .i64 (a2_ (a2_ (a2_ (a2_ st').2).2).2).1,.int .i64 (a2_ (a2_ (a2_ (a2_ (a2_ st').2).2).2).2).1,.int .i64 0,.int .i64 0,.nils,.nils,.nils,.nils,.nils,.int .i64 0,.int .i64 0,.int .i64 0,.int .i64 0,.int .i64 0]] false))
 have lHH:(H5.set (h.length+1) (some (.arr 17 [[.int .i64 (a2_ st').1,.int .i64 (a2_ (a2_ st').2).1,.int .i64 (a2_ (a2_ (a2_ st').2).2).1,.int .i64 (a2_ (a2_ (a2_ (a2_ st').2).2).2).1,.int .i64 (a2_ (a2_ (a2_ (a2_ (a2_ st').2).2).2).2).1,.int .i64 0,.int .i64 0,.nils,.nils,.nils,.nils,.nils,.int .i64 0,.int .i64 0,.int .i64 0,.int .i64 0,.int .i64 0]] false))).length=H5.length:=J_2
 generalize hgen:H5.set (h.length+1) (some (a5_.arr 17 [[.int .i64 (a2_ st').1,.int .i64 (a2_ (a2_ st').2).1,.int .i64 (a2_ (a2_ (a2_ st').2).2).1,.int .i64 (a2_ (a2_ (a2_ (a2_ st').2).2).2).1,.int .i64 (a2_ (a2_ (a2_ (a2_ (a2_ st').2).2).2).2).1,.int .i64 0,.int .i64 0,.nils,.nils,.nils,.nils,.nils,.int .i64 0,.int .i64 0,.int .i64 0,.int .i64 0,.int .i64 0]] false))=G0 at *
 have T0:e_d F G0 s q (Rdr.if_ b (a2_ (a2_ (a2_ (a2_ (a2_ st').2).2).2).2).2):=⟨b,_,SS,rfl⟩
 generalize hσ:Rdr.if_ b (a2_ (a2_ (a2_ (a2_ (a2_ st').2).2).2).2).2=σ0 at *
 refine a1_ ⟨hlo.1,hlo.2 F _ s q _ T0⟩ ?_
 rintro _ J1 ⟨y1,as1,rfl,w1,U1,z1,hy1⟩
 obtain⟨d1,rfl,wl1⟩:=g_f w1
 have z1:=z1
 have lJ1:=z1.1
 have CJ1:J1[h.length]?=_:=(z1.2 _ (by omega) (by simp only[two];omega)).trans CC
 have DJ1:J1[h.length+1]?=_:=(z1.2 _ (by omega) (by simp only[two];omega)).trans DD
 have mJ1:h.length+1<J1.length:=by omega
 have nJ1:h.length<J1.length:=by omega
 simp only[go_sem,reduceEqDiff,reduceAdd,reduceLeDiff,DJ1,wl1.scalar]
 have K1:Ext (Z4_ s q h.length) G0 (J1.set (h.length+1) (some (.arr 17 [[.int .i64 (a2_ st').1,.int .i64 (a2_ (a2_ st').2).1,.int .i64 (a2_ (a2_ (a2_ st').2).2).1,.int .i64 (a2_ (a2_ (a2_ (a2_ st').2).2).2).1,.int .i64 (a2_ (a2_ (a2_ (a2_ (a2_ st').2).2).2).2).1,.int .i64 y1.base,.int .i64 y1.bterm,d1,.nils,.nils,.nils,.nils,.int .i64 0,.int .i64 0,.int .i64 0,.int .i64 0,.int .i64 0]] false))):=z1.trans (Ext.set (F:=Z4_ s q h.length) _ (λ_=>.inr (.inr (.inr rfl)))) (λ_ _ x=>x.elim .inl (λy=>.inr (.inl y))) (λ_ _ x=>x)
 have M1:Ext (Z4_ s q h.length) J1 (J1.set (h.length+1) (some (.arr 17 [[.int .i64 (a2_ st').1,.int .i64 (a2_ (a2_ st').2).1,.int .i64 (a2_ (a2_ (a2_ st').2).2).1,.int .i64 (a2_ (a2_ (a2_ (a2_ st').2).2).2).1,.int .i64 (a2_ (a2_ (a2_ (a2_ (a2_ st').2).2).2).2).1,.int .i64 y1.base,.int .i64 y1.bterm,d1,.nils,.nils,.nils,.nils,.int .i64 0,.int .i64 0,.int .i64 0,.int .i64 0,.int .i64 0]] false))):=Ext.set _ (λ_=>.inr (.inr (.inr rfl)))
 have T1:e_d F (J1.set (h.length+1) (some (.arr 17 [[.int .i64 (a2_ st').1,.int .i64 (a2_ (a2_ st').2).1,.int .i64 (a2_ (a2_ (a2_ st').2).2).1,.int .i64 (a2_ (a2_ (a2_ (a2_ st').2).2).2).1,.int .i64 (a2_ (a2_ (a2_ (a2_ (a2_ st').2).2).2).2).1,.int .i64 y1.base,.int .i64 y1.bterm,d1,.nils,.nils,.nils,.nils,.int .i64 0,.int .i64 0,.int .i64 0,.int .i64 0,.int .i64 0]] false))) s q (C6_.dec σ0).2:=by obtain⟨b',s',S',e'⟩:=U1;exact⟨b',s',S'.set (by omega) _,e'⟩
 skip
 have CC:=(J_x (a:=some (a5_.arr 17 [[.int .i64 (a2_ st').1,.int .i64 (a2_ (a2_ st').2).1,.int .i64 (a2_ (a2_ (a2_ st').2).2).1,.int .i64 (a2_ (a2_ (a2_ (a2_ st').2).2).2).1,.int .i64 (a2_ (a2_ (a2_ (a2_ (a2_ st').2).2).2).2).1,.int .i64 y1.base,.int .i64 y1.bterm,d1,.nils,.nils,.nils,.nils,.int .i64 0,.int .i64 0,.int .i64 0,.int .i64 0,.int .i64 0]] false)) (show h.length+1≠h.length by omega)).trans CJ1
 have DD:=J_0 (a:=some (a5_.arr 17 [[.int .i64 (a2_ st').1,.int .i64 (a2_ (a2_ st').2).1,.int .i64 (a2_ (a2_ (a2_ st').2).2).1,.int .i64 (a2_ (a2_ (a2_ (a2_ st').2).2).2).1,.int .i64 (a2_ (a2_ (a2_ (a2_ (a2_ st').2).2).2).2).1,.int .i64 y1.base,.int .i64 y1.bterm,d1,.nils,.nils,.nils,.nils,.int .i64 0,.int .i64 0,.int .i64 0,.int .i64 0,.int .i64 0]] false)) mJ1
 have EE:=(EE.trans z1 (λ_ _ x=>x) (λ_ _ x=>x)).put (n:=h.length+1) (by omega) (some (.arr 17 [[.int .i64 (a2_ st').1,.int .i64 (a2_ (a2_ st').2).1,.int .i64 (a2_ (a2_ (a2_ st').2).2).1,.int .i64 (a2_ (a2_ (a2_ (a2_ st').2).2).2).1,.int .i64 (a2_ (a2_ (a2_ (a2_ (a2_ st').2).2).2).2).1,.int .i64 y1.base,.int .i64 y1.bterm,d1,.nils,.nils,.nils,.nils,.int .i64 0,.int .i64 0,.int .i64 0,.int .i64 0,.int .i64 0]] false))
 have lG1:(J1.set (h.length+1) (some (.arr 17 [[.int .i64 (a2_ st').1,.int .i64 (a2_ (a2_ st').2).1,.int .i64 (a2_ (a2_ (a2_ st').2).2).1,.int .i64 (a2_ (a2_ (a2_ (a2_ st').2).2).2).1,.int .i64 (a2_ (a2_ (a2_ (a2_ (a2_ st').2).2).2).2).1,.int .i64 y1.base,.int .i64 y1.bterm,d1,.nils,.nils,.nils,.nils,.int .i64 0,.int .i64 0,.int .i64 0,.int .i64 0,.int .i64 0]] false))).length=J1.length:=J_2
 generalize J1.set (h.length+1) (some (a5_.arr 17 [[.int .i64 (a2_ st').1,.int .i64 (a2_ (a2_ st').2).1,.int .i64 (a2_ (a2_ (a2_ st').2).2).1,.int .i64 (a2_ (a2_ (a2_ (a2_ st').2).2).2).1,.int .i64 (a2_ (a2_ (a2_ (a2_ (a2_ st').2).2).2).2).1,.int .i64 y1.base,.int .i64 y1.bterm,d1,.nils,.nils,.nils,.nils,.int .i64 0,.int .i64 0,.int .i64 0,.int .i64 0,.int .i64 0]] false))=G1 at *
 refine a1_ ⟨hco.1,hco.2 F _ s q _ T1⟩ ?_
 rintro _ J2 ⟨y2,as2,rfl,w2,U2,z2,hy2⟩
 obtain⟨d2,f2,g2,rfl,wl2,vl2,ul2⟩:=c_1 w2
 have z2:=z2
 have lJ2:=z2.1
 have CJ2:J2[h.length]?=_:=(z2.2 _ (by omega) (by simp only[two];omega)).trans CC
 have DJ2:J2[h.length+1]?=_:=(z2.2 _ (by omega) (by simp only[two];omega)).trans DD
 have mJ2:h.length+1<J2.length:=by omega
 have nJ2:h.length<J2.length:=by omega
 obtain⟨bb,sb,Ub,eb⟩:=U2
 have Bb:=Ub.1
 simp only[go_sem,reduceEqDiff,reduceAdd,reduceLeDiff,DJ2,mJ2,wl2.scalar,vl2.scalar,ul2.scalar,Bb,ne1]
 have K2:Ext (Z4_ s q h.length) G1 (J2.set (h.length+1) (some (.arr 17 [[.int .i64 (a2_ st').1,.int .i64 (a2_ (a2_ st').2).1,.int .i64 (a2_ (a2_ (a2_ st').2).2).1,.int .i64 (a2_ (a2_ (a2_ (a2_ st').2).2).2).1,.int .i64 (a2_ (a2_ (a2_ (a2_ (a2_ st').2).2).2).2).1,.int .i64 y1.base,.int .i64 y1.bterm,d1,d2,f2,g2,.nils,.int .i64 0,.int .i64 0,.int .i64 0,.int .i64 0,.int .i64 0]] false))):=z2.trans (Ext.set (F:=Z4_ s q h.length) _ (λ_=>.inr (.inr (.inr rfl)))) (λ_ _ x=>x.elim .inl (λy=>.inr (.inl y))) (λ_ _ x=>x)
 have M2:Ext (Z4_ s q h.length) J2 (J2.set (h.length+1) (some (.arr 17 [[.int .i64 (a2_ st').1,.int .i64 (a2_ (a2_ st').2).1,.int .i64 (a2_ (a2_ (a2_ st').2).2).1,.int .i64 (a2_ (a2_ (a2_ (a2_ st').2).2).2).1,.int .i64 (a2_ (a2_ (a2_ (a2_ (a2_ st').2).2).2).2).1,.int .i64 y1.base,.int .i64 y1.bterm,d1,d2,f2,g2,.nils,.int .i64 0,.int .i64 0,.int .i64 0,.int .i64 0,.int .i64 0]] false))):=Ext.set _ (λ_=>.inr (.inr (.inr rfl)))
 have T2:e_d F (J2.set (h.length+1) (some (.arr 17 [[.int .i64 (a2_ st').1,.int .i64 (a2_ (a2_ st').2).1,.int .i64 (a2_ (a2_ (a2_ st').2).2).1,.int .i64 (a2_ (a2_ (a2_ (a2_ st').2).2).2).1,.int .i64 (a2_ (a2_ (a2_ (a2_ (a2_ st').2).2).2).2).1,.int .i64 y1.base,.int .i64 y1.bterm,d1,d2,f2,g2,.nils,.int .i64 0,.int .i64 0,.int .i64 0,.int .i64 0,.int .i64 0]] false))) s q (j3_.dec (C6_.dec σ0).2).2:=⟨bb,sb,Ub.set (by omega) _,eb⟩
 have Sb:R4_ F (J2.set (h.length+1) (some (.arr 17 [[.int .i64 (a2_ st').1,.int .i64 (a2_ (a2_ st').2).1,.int .i64 (a2_ (a2_ (a2_ st').2).2).1,.int .i64 (a2_ (a2_ (a2_ (a2_ st').2).2).2).1,.int .i64 (a2_ (a2_ (a2_ (a2_ (a2_ st').2).2).2).2).1,.int .i64 y1.base,.int .i64 y1.bterm,d1,d2,f2,g2,.nils,.int .i64 0,.int .i64 0,.int .i64 0,.int .i64 0,.int .i64 0]] false))) s q bb sb:=Ub.set (by omega) _
 have CC:=(J_x (a:=some (a5_.arr 17 [[.int .i64 (a2_ st').1,.int .i64 (a2_ (a2_ st').2).1,.int .i64 (a2_ (a2_ (a2_ st').2).2).1,.int .i64 (a2_ (a2_ (a2_ (a2_ st').2).2).2).1,.int .i64 (a2_ (a2_ (a2_ (a2_ (a2_ st').2).2).2).2).1,.int .i64 y1.base,.int .i64 y1.bterm,d1,d2,f2,g2,.nils,.int .i64 0,.int .i64 0,.int .i64 0,.int .i64 0,.int .i64 0]] false)) (show h.length+1≠h.length by omega)).trans CJ2
 have DD:=J_0 (a:=some (a5_.arr 17 [[.int .i64 (a2_ st').1,.int .i64 (a2_ (a2_ st').2).1,.int .i64 (a2_ (a2_ (a2_ st').2).2).1,.int .i64 (a2_ (a2_ (a2_ (a2_ st').2).2).2).1,.int .i64 (a2_ (a2_ (a2_ (a2_ (a2_ st').2).2).2).2).1,.int .i64 y1.base,.int .i64 y1.bterm,d1,d2,f2,g2,.nils,.int .i64 0,.int .i64 0,.int .i64 0,.int .i64 0,.int .i64 0]] false)) mJ2
 have EE:=(EE.trans z2 (λ_ _ x=>x) (λ_ _ x=>x)).put (n:=h.length+1) (by omega) (some (.arr 17 [[.int .i64 (a2_ st').1,.int .i64 (a2_ (a2_ st').2).1,.int .i64 (a2_ (a2_ (a2_ st').2).2).1,.int .i64 (a2_ (a2_ (a2_ (a2_ st').2).2).2).1,.int .i64 (a2_ (a2_ (a2_ (a2_ (a2_ st').2).2).2).2).1,.int .i64 y1.base,.int .i64 y1.bterm,d1,d2,f2,g2,.nils,.int .i64 0,.int .i64 0,.int .i64 0,.int .i64 0,.int .i64 0]] false))
 have lG2:(J2.set (h.length+1) (some (.arr 17 [[.int .i64 (a2_ st').1,.int .i64 (a2_ (a2_ st').2).1,.int .i64 (a2_ (a2_ (a2_ st').2).2).1,.int .i64 (a2_ (a2_ (a2_ (a2_ st').2).2).2).1,.int .i64 (a2_ (a2_ (a2_ (a2_ (a2_ st').2).2).2).2).1,.int .i64 y1.base,.int .i64 y1.bterm,d1,d2,f2,g2,.nils,.int .i64 0,.int .i64 0,.int .i64 0,.int .i64 0,.int .i64 0]] false))).length=J2.length:=J_2
 generalize J2.set (h.length+1) (some (a5_.arr 17 [[.int .i64 (a2_ st').1,.int .i64 (a2_ (a2_ st').2).1,.int .i64 (a2_ (a2_ (a2_ st').2).2).1,.int .i64 (a2_ (a2_ (a2_ (a2_ st').2).2).2).1,.int .i64 (a2_ (a2_ (a2_ (a2_ (a2_ st').2).2).2).2).1,.int .i64 y1.base,.int .i64 y1.bterm,d1,d2,f2,g2,.nils,.int .i64 0,.int .i64 0,.int .i64 0,.int .i64 0,.int .i64 0]] false))=G2 at *
 refine a1_ ⟨hk.1,hk.2 F _ q _ Sb.2.1 hs.nq⟩ ?_
 rintro d3 J3 ⟨w3,rb,zb⟩
 have z3:Ext (two s q) G2 J3:=zb.weak (λ_ _ x=>.inr x)
 have w3:=Own.mono (F':=λm=>F m\/G2.length<=m) _ (λ_ x=>.inl x) (λ_ _ _ x=>x) _ w3
 have U3:e_d F J3 s q (e5_ (j3_.dec (C6_.dec σ0).2).2).2:=by
  refine⟨bb,_,Sb.next zb rb,?_⟩
  rw[eb];cases bb<;>rfl
 have hy3:(e5_ (j3_.dec (C6_.dec σ0).2).2).2≠none->(e5_ sb).1=(e5_ (j3_.dec (C6_.dec σ0).2).2).1:=by
  rw[eb];cases bb
  ·exact λ_=>rfl
  ·exact λhh=>absurd rfl hh
 generalize (e5_ sb).1=y3 at *
 have lJ3:=z3.1
 have CJ3:J3[h.length]?=_:=(z3.2 _ (by omega) (by simp only[two];omega)).trans CC
 have DJ3:J3[h.length+1]?=_:=(z3.2 _ (by omega) (by simp only[two];omega)).trans DD
 have mJ3:h.length+1<J3.length:=by omega
 have nJ3:h.length<J3.length:=by omega
 simp only[go_sem,reduceEqDiff,reduceAdd,reduceLeDiff,DJ3,w3.scalar,b5_ w3.scalar]
 have K3:Ext (Z4_ s q h.length) G2 (J3.set (h.length+1) (some (.arr 17 [[.int .i64 (a2_ st').1,.int .i64 (a2_ (a2_ st').2).1,.int .i64 (a2_ (a2_ (a2_ st').2).2).1,.int .i64 (a2_ (a2_ (a2_ (a2_ st').2).2).2).1,.int .i64 (a2_ (a2_ (a2_ (a2_ (a2_ st').2).2).2).2).1,.int .i64 y1.base,.int .i64 y1.bterm,d1,d2,f2,g2,d3,.int .i64 0,.int .i64 0,.int .i64 0,.int .i64 0,.int .i64 0]] false))):=z3.trans (Ext.set (F:=Z4_ s q h.length) _ (λ_=>.inr (.inr (.inr rfl)))) (λ_ _ x=>x.elim .inl (λy=>.inr (.inl y))) (λ_ _ x=>x)
 have M3:Ext (Z4_ s q h.length) J3 (J3.set (h.length+1) (some (.arr 17 [[.int .i64 (a2_ st').1,.int .i64 (a2_ (a2_ st').2).1,.int .i64 (a2_ (a2_ (a2_ st').2).2).1,.int .i64 (a2_ (a2_ (a2_ (a2_ st').2).2).2).1,.int .i64 (a2_ (a2_ (a2_ (a2_ (a2_ st').2).2).2).2).1,.int .i64 y1.base,.int .i64 y1.bterm,d1,d2,f2,g2,d3,.int .i64 0,.int .i64 0,.int .i64 0,.int .i64 0,.int .i64 0]] false))):=Ext.set _ (λ_=>.inr (.inr (.inr rfl)))
 have T3:e_d F (J3.set (h.length+1) (some (.arr 17 [[.int .i64 (a2_ st').1,.int .i64 (a2_ (a2_ st').2).1,.int .i64 (a2_ (a2_ (a2_ st').2).2).1,.int .i64 (a2_ (a2_ (a2_ (a2_ st').2).2).2).1,.int .i64 (a2_ (a2_ (a2_ (a2_ (a2_ st').2).2).2).2).1,.int .i64 y1.base,.int .i64 y1.bterm,d1,d2,f2,g2,d3,.int .i64 0,.int .i64 0,.int .i64 0,.int .i64 0,.int .i64 0]] false))) s q (e5_ (j3_.dec (C6_.dec σ0).2).2).2:=by obtain⟨b',s',S',e'⟩:=U3;exact⟨b',s',S'.set (by omega) _,e'⟩
 skip
 have CC:=(J_x (a:=some (a5_.arr 17 [[.int .i64 (a2_ st').1,.int .i64 (a2_ (a2_ st').2).1,.int .i64 (a2_ (a2_ (a2_ st').2).2).1,.int .i64 (a2_ (a2_ (a2_ (a2_ st').2).2).2).1,.int .i64 (a2_ (a2_ (a2_ (a2_ (a2_ st').2).2).2).2).1,.int .i64 y1.base,.int .i64 y1.bterm,d1,d2,f2,g2,d3,.int .i64 0,.int .i64 0,.int .i64 0,.int .i64 0,.int .i64 0]] false)) (show h.length+1≠h.length by omega)).trans CJ3
 have DD:=J_0 (a:=some (a5_.arr 17 [[.int .i64 (a2_ st').1,.int .i64 (a2_ (a2_ st').2).1,.int .i64 (a2_ (a2_ (a2_ st').2).2).1,.int .i64 (a2_ (a2_ (a2_ (a2_ st').2).2).2).1,.int .i64 (a2_ (a2_ (a2_ (a2_ (a2_ st').2).2).2).2).1,.int .i64 y1.base,.int .i64 y1.bterm,d1,d2,f2,g2,d3,.int .i64 0,.int .i64 0,.int .i64 0,.int .i64 0,.int .i64 0]] false)) mJ3
 have EE:=(EE.trans z3 (λ_ _ x=>x) (λ_ _ x=>x)).put (n:=h.length+1) (by omega) (some (.arr 17 [[.int .i64 (a2_ st').1,.int .i64 (a2_ (a2_ st').2).1,.int .i64 (a2_ (a2_ (a2_ st').2).2).1,.int .i64 (a2_ (a2_ (a2_ (a2_ st').2).2).2).1,.int .i64 (a2_ (a2_ (a2_ (a2_ (a2_ st').2).2).2).2).1,.int .i64 y1.base,.int .i64 y1.bterm,d1,d2,f2,g2,d3,.int .i64 0,.int .i64 0,.int .i64 0,.int .i64 0,.int .i64 0]] false))
 have lG3:(J3.set (h.length+1) (some (.arr 17 [[.int .i64 (a2_ st').1,.int .i64 (a2_ (a2_ st').2).1,.int .i64 (a2_ (a2_ (a2_ st').2).2).1,.int .i64 (a2_ (a2_ (a2_ (a2_ st').2).2).2).1,.int .i64 (a2_ (a2_ (a2_ (a2_ (a2_ st').2).2).2).2).1,.int .i64 y1.base,.int .i64 y1.bterm,d1,d2,f2,g2,d3,.int .i64 0,.int .i64 0,.int .i64 0,.int .i64 0,.int .i64 0]] false))).length=J3.length:=J_2
 generalize J3.set (h.length+1) (some (a5_.arr 17 [[.int .i64 (a2_ st').1,.int .i64 (a2_ (a2_ st').2).1,.int .i64 (a2_ (a2_ (a2_ st').2).2).1,.int .i64 (a2_ (a2_ (a2_ (a2_ st').2).2).2).1,.int .i64 (a2_ (a2_ (a2_ (a2_ (a2_ st').2).2).2).2).1,.int .i64 y1.base,.int .i64 y1.bterm,d1,d2,f2,g2,d3,.int .i64 0,.int .i64 0,.int .i64 0,.int .i64 0,.int .i64 0]] false))=G3 at *
 refine a1_ ⟨hv.1,hv.2 F _ s q _ T3⟩ ?_
 rintro _ J4 ⟨y4,as4,rfl,w4,U4,z4,hy4⟩
 obtain rfl:=i_4 w4
 have z4:=z4
 have lJ4:=z4.1
 have CJ4:J4[h.length]?=_:=(z4.2 _ (by omega) (by simp only[two];omega)).trans CC
 have DJ4:J4[h.length+1]?=_:=(z4.2 _ (by omega) (by simp only[two];omega)).trans DD
 have mJ4:h.length+1<J4.length:=by omega
 have nJ4:h.length<J4.length:=by omega
 simp only[go_sem,reduceEqDiff,reduceAdd,reduceLeDiff,DJ4,CJ4,mJ4,nJ4,J_2,wl1.scalar,wl2.scalar,vl2.scalar,ul2.scalar,w3.scalar]
 have K4:Ext (Z4_ s q h.length) G3 (J4.set (h.length+1) (some (.arr 17 [[.int .i64 (a2_ st').1,.int .i64 (a2_ (a2_ st').2).1,.int .i64 (a2_ (a2_ (a2_ st').2).2).1,.int .i64 (a2_ (a2_ (a2_ (a2_ st').2).2).2).1,.int .i64 (a2_ (a2_ (a2_ (a2_ (a2_ st').2).2).2).2).1,.int .i64 y1.base,.int .i64 y1.bterm,d1,d2,f2,g2,d3,.int .i64 y4.txn,.int .i64 y4.part,.int .i64 y4.promised,.int .i64 y4.ballot,.int .i64 y4.value]] false))):=z4.trans (Ext.set (F:=Z4_ s q h.length) _ (λ_=>.inr (.inr (.inr rfl)))) (λ_ _ x=>x.elim .inl (λy=>.inr (.inl y))) (λ_ _ x=>x)
 have M4:Ext (Z4_ s q h.length) J4 (J4.set (h.length+1) (some (.arr 17 [[.int .i64 (a2_ st').1,.int .i64 (a2_ (a2_ st').2).1,.int .i64 (a2_ (a2_ (a2_ st').2).2).1,.int .i64 (a2_ (a2_ (a2_ (a2_ st').2).2).2).1,.int .i64 (a2_ (a2_ (a2_ (a2_ (a2_ st').2).2).2).2).1,.int .i64 y1.base,.int .i64 y1.bterm,d1,d2,f2,g2,d3,.int .i64 y4.txn,.int .i64 y4.part,.int .i64 y4.promised,.int .i64 y4.ballot,.int .i64 y4.value]] false))):=Ext.set _ (λ_=>.inr (.inr (.inr rfl)))
 have T4:e_d F (J4.set (h.length+1) (some (.arr 17 [[.int .i64 (a2_ st').1,.int .i64 (a2_ (a2_ st').2).1,.int .i64 (a2_ (a2_ (a2_ st').2).2).1,.int .i64 (a2_ (a2_ (a2_ (a2_ st').2).2).2).1,.int .i64 (a2_ (a2_ (a2_ (a2_ (a2_ st').2).2).2).2).1,.int .i64 y1.base,.int .i64 y1.bterm,d1,d2,f2,g2,d3,.int .i64 y4.txn,.int .i64 y4.part,.int .i64 y4.promised,.int .i64 y4.ballot,.int .i64 y4.value]] false))) s q (v9_.dec (e5_ (j3_.dec (C6_.dec σ0).2).2).2).2:=by obtain⟨b',s',S',e'⟩:=U4;exact⟨b',s',S'.set (by omega) _,e'⟩
 skip
 have CC:=(J_x (a:=some (a5_.arr 17 [[.int .i64 (a2_ st').1,.int .i64 (a2_ (a2_ st').2).1,.int .i64 (a2_ (a2_ (a2_ st').2).2).1,.int .i64 (a2_ (a2_ (a2_ (a2_ st').2).2).2).1,.int .i64 (a2_ (a2_ (a2_ (a2_ (a2_ st').2).2).2).2).1,.int .i64 y1.base,.int .i64 y1.bterm,d1,d2,f2,g2,d3,.int .i64 y4.txn,.int .i64 y4.part,.int .i64 y4.promised,.int .i64 y4.ballot,.int .i64 y4.value]] false)) (show h.length+1≠h.length by omega)).trans CJ4
 have DD:=J_0 (a:=some (a5_.arr 17 [[.int .i64 (a2_ st').1,.int .i64 (a2_ (a2_ st').2).1,.int .i64 (a2_ (a2_ (a2_ st').2).2).1,.int .i64 (a2_ (a2_ (a2_ (a2_ st').2).2).2).1,.int .i64 (a2_ (a2_ (a2_ (a2_ (a2_ st').2).2).2).2).1,.int .i64 y1.base,.int .i64 y1.bterm,d1,d2,f2,g2,d3,.int .i64 y4.txn,.int .i64 y4.part,.int .i64 y4.promised,.int .i64 y4.ballot,.int .i64 y4.value]] false)) mJ4
 have EE:=(EE.trans z4 (λ_ _ x=>x) (λ_ _ x=>x)).put (n:=h.length+1) (by omega) (some (.arr 17 [[.int .i64 (a2_ st').1,.int .i64 (a2_ (a2_ st').2).1,.int .i64 (a2_ (a2_ (a2_ st').2).2).1,.int .i64 (a2_ (a2_ (a2_ (a2_ st').2).2).2).1,.int .i64 (a2_ (a2_ (a2_ (a2_ (a2_ st').2).2).2).2).1,.int .i64 y1.base,.int .i64 y1.bterm,d1,d2,f2,g2,d3,.int .i64 y4.txn,.int .i64 y4.part,.int .i64 y4.promised,.int .i64 y4.ballot,.int .i64 y4.value]] false))
 have lG4:(J4.set (h.length+1) (some (.arr 17 [[.int .i64 (a2_ st').1,.int .i64 (a2_ (a2_ st').2).1,.int .i64 (a2_ (a2_ (a2_ st').2).2).1,.int .i64 (a2_ (a2_ (a2_ (a2_ st').2).2).2).1,.int .i64 (a2_ (a2_ (a2_ (a2_ (a2_ st').2).2).2).2).1,.int .i64 y1.base,.int .i64 y1.bterm,d1,d2,f2,g2,d3,.int .i64 y4.txn,.int .i64 y4.part,.int .i64 y4.promised,.int .i64 y4.ballot,.int .i64 y4.value]] false))).length=J4.length:=J_2
 generalize J4.set (h.length+1) (some (a5_.arr 17 [[.int .i64 (a2_ st').1,.int .i64 (a2_ (a2_ st').2).1,.int .i64 (a2_ (a2_ (a2_ st').2).2).1,.int .i64 (a2_ (a2_ (a2_ (a2_ st').2).2).2).1,.int .i64 (a2_ (a2_ (a2_ (a2_ (a2_ st').2).2).2).2).1,.int .i64 y1.base,.int .i64 y1.bterm,d1,d2,f2,g2,d3,.int .i64 y4.txn,.int .i64 y4.part,.int .i64 y4.promised,.int .i64 y4.ballot,.int .i64 y4.value]] false))=G4 at *
 subst e
 have dl:o9_.dec (Rdr.if_ b st')=(⟨(a2_ (Rdr.if_ b st')).1,(a2_ (a2_ (Rdr.if_ b st')).2).1,(a2_ (a2_ (a2_ (Rdr.if_ b st')).2).2).1,(a2_ (a2_ (a2_ (a2_ (Rdr.if_ b st')).2).2).2).1,(a2_ (a2_ (a2_ (a2_ (a2_ (Rdr.if_ b st')).2).2).2).2).1,(C6_.dec (a2_ (a2_ (a2_ (a2_ (a2_ (Rdr.if_ b st')).2).2).2).2).2).1,(j3_.dec (C6_.dec (a2_ (a2_ (a2_ (a2_ (a2_ (Rdr.if_ b st')).2).2).2).2).2).2).1,(e5_ (j3_.dec (C6_.dec (a2_ (a2_ (a2_ (a2_ (a2_ (Rdr.if_ b st')).2).2).2).2).2).2).2).1,(v9_.dec (e5_ (j3_.dec (C6_.dec (a2_ (a2_ (a2_ (a2_ (a2_ (Rdr.if_ b st')).2).2).2).2).2).2).2).2).1⟩,(v9_.dec (e5_ (j3_.dec (C6_.dec (a2_ (a2_ (a2_ (a2_ (a2_ (Rdr.if_ b st')).2).2).2).2).2).2).2).2).2):=rfl
 rw[dl,G5_,G5_,G5_,G5_,G5_,hσ]
 have fin:∀(H:a0_)(y:Option a5_),Ext (Z4_ s q h.length) H (H.set h.length y):=λH y=>Ext.set _ (λ_=>.inr (.inr (.inl rfl)))
 have hF:∀m,F m->m<q:=hs.2.2.1
 refine⟨⟨(a2_ st').1,(a2_ (a2_ st').2).1,(a2_ (a2_ (a2_ st').2).2).1,(a2_ (a2_ (a2_ (a2_ st').2).2).2).1,(a2_ (a2_ (a2_ (a2_ (a2_ st').2).2).2).2).1,y1,y2,y3,y4⟩,_,rfl,?_,by obtain⟨b',s',S',e'⟩:=T4;exact⟨b',s',S'.set (by omega) _,e'⟩,EE.put (by omega) _,λhh=>?_⟩
 ·exact⟨_,_,rfl,c3_ _ _ _,⟨_,_,rfl,c3_ _ _ _,⟨_,_,rfl,c3_ _ _ _,⟨_,_,rfl,c3_ _ _ _,⟨_,_,rfl,c3_ _ _ _,⟨_,_,rfl,c3_ _ _ _,⟨_,_,rfl,c3_ _ _ _,⟨_,_,rfl,y3_ wl1 ((((M1.trans K2 (λ_ _ x=>x) (λ_ _ x=>x)).trans K3 (λ_ _ x=>x) (λ_ _ x=>x)).trans K4 (λ_ _ x=>x) (λ_ _ x=>x)).trans (fin _ _) (λ_ _ x=>x) (λ_ _ x=>x)) hF hq hlt (by omega),⟨_,_,rfl,y3_ wl2 (((M2.trans K3 (λ_ _ x=>x) (λ_ _ x=>x)).trans K4 (λ_ _ x=>x) (λ_ _ x=>x)).trans (fin _ _) (λ_ _ x=>x) (λ_ _ x=>x)) hF hq hlt (by omega),⟨_,_,rfl,y3_ vl2 (((M2.trans K3 (λ_ _ x=>x) (λ_ _ x=>x)).trans K4 (λ_ _ x=>x) (λ_ _ x=>x)).trans (fin _ _) (λ_ _ x=>x) (λ_ _ x=>x)) hF hq hlt (by omega),⟨_,_,rfl,y3_ ul2 (((M2.trans K3 (λ_ _ x=>x) (λ_ _ x=>x)).trans K4 (λ_ _ x=>x) (λ_ _ x=>x)).trans (fin _ _) (λ_ _ x=>x) (λ_ _ x=>x)) hF hq hlt (by omega),⟨_,_,rfl,y3_ w3 ((M3.trans K4 (λ_ _ x=>x) (λ_ _ x=>x)).trans (fin _ _) (λ_ _ x=>x) (λ_ _ x=>x)) hF hq hlt (by omega),⟨_,_,rfl,c3_ _ _ _,⟨_,_,rfl,c3_ _ _ _,⟨_,_,rfl,c3_ _ _ _,⟨_,_,rfl,c3_ _ _ _,⟨_,_,rfl,c3_ _ _ _,rfl⟩⟩⟩⟩⟩⟩⟩⟩⟩⟩⟩⟩⟩⟩⟩⟩⟩
 ·have n4:(v9_.dec (e5_ (j3_.dec (C6_.dec σ0).2).2).2).2≠none:=hh
  have n3:(e5_ (j3_.dec (C6_.dec σ0).2).2).2≠none:=λhz=>n4 (by rw[hz];exact v9_.bad)
  have n2:(j3_.dec (C6_.dec σ0).2).2≠none:=λhz=>n3 (by rw[hz];exact rfl)
  have n1:(C6_.dec σ0).2≠none:=λhz=>n2 (by rw[hz];exact j3_.bad)
  have n0:σ0≠none:=λhz=>n1 (by rw[hz];exact C6_.bad)
  rw[hy1 n1,hy2 n2,hy3 n3,hy4 n4]
  cases b with
  | true=>exact absurd hσ.symm n0
  | false=>rfl
end Glb
