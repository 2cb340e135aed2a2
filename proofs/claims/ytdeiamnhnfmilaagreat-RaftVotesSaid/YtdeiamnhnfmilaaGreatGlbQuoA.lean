/-
  A library of its own.
-/
import Derived.Test.YtdeiamnhnfmilaaGreatGlbKitB
import Derived.Test.YtdeiamnhnfmilaaGreatGlbCquorum
set_option linter.unusedSimpArgs false
set_option linter.unusedVariables false
set_option maxRecDepth 10000
set_option maxHeartbeats 4000000
open Nat (reduceAdd reduceEqDiff reduceLeDiff)
namespace Glb
open Go
theorem Rd.int_at {F:Nat->Prop}{h:a0_}{l:List Int}{a:AV}(hx:Rd F h (b1_ l) a){i:Nat}(hi:i<l.length):
  ∃p,q9_ 1 a (.int .i64 i)=some p/\o5_ h false 1 p=some (.int .i64 l[i]):=by
 obtain⟨p,cs,hp,hpc,hcs⟩:=hx.index .i64 (i:=i) (d:=[.int .i64 l[i]]) (by omega) (by simp[hi])
 simp only[RdL,Rd]at hcs
 obtain⟨_,_,rfl,rfl,rfl⟩:=hcs
 exact⟨p,hp,by rw[n2_ hpc];exact take_one _ _ _⟩
theorem Rd.ints_len {F:Nat->Prop}{h:a0_}{l:List Int}{a:AV}(hx:Rd F h (b1_ l) a):M5_ a=some (.int .i64 l.length):=by simpa using hx.len
def a_6 (n:Int):List Int->Nat->Int
 | [],_=>-1
 | x :: r,k=>if n=x then k else a_6 n r (k+1)
theorem p_5 (n:Int):∀(l:List Int)(k:Nat),decide (0<=a_6 n l k)=decide (n∈l):=by
 intro l
 induction l with
 | nil=>intro k;simp[a_6]
 | cons x r ih=>
  intro k
  simp only[a_6]
  split
  ·rename_i e;subst e;simp
  ·rename_i e;rw[ih];simp[e]
def v_d (P:Program)(f:FuncId):Prop:=
 f2_ P f=true/\∀(F:Nat->Prop)(h:a0_)(l:List Int)(a:AV)(n:Int),Rd F h (b1_ l) a->l.length<=2^40->a6_ P f [a,.int .i64 n] h λr h'=>r=.int .i64 (a_6 n l 0)/\h'=h
theorem x_8 {P:Program}{f:FuncId}(hf:Is P f i1_):v_d P f:=by
 refine⟨hf.2,λF h l a n ha hl=>a4_ hf.1 (J_y rfl) ?_⟩
 show vc P i1_.code ⟨[(0,a),(1,.int .i64 n)],[],h⟩ (b2_ i1_.res _)
 have la:=ha.ints_len
 simp only[i1_,go_sem,reduceEqDiff,la]
 refine e8_ (λm L h'=>∃i:Nat,lk 0 L=a/\lk 1 L=.int .i64 n/\lk 7 L=.int .i64 l.length/\lk 8 L=.int .i64 i/\h'=h/\i<=l.length/\m=l.length-i/\a_6 n (l.drop i) i=a_6 n l 0) l.length ?_ ?_
 ·exact⟨0,by simp[a3_,c9_],by simp[a3_,c9_],by simp[a3_],by simp[a3_],rfl,by omega,by omega,rfl⟩
 ·rintro m L h' ⟨i,h0,h1,h7,h8,rfl,hi,rfl,hq⟩
  simp only[u4_,go_sem,h7,h8]
  refine b0_ (λci=>?_) (λci=>?_)
  ·simp at ci
   obtain⟨p,hp,hv⟩:=ha.int_at ci
   have e:IntKind.i64.wrap (↑i+1)=(i:Int)+1:=a7_ (by omega)
   simp only[go_sem,reduceEqDiff,h0,h1,h8,hp,hv]
   rw[L_8 ci]at hq
   simp only[a_6]at hq
   by_cases c:n=l[i]
   ·simp only[go_sem,reduceEqDiff,decide_eq_true c]
    rw[if_pos c]at hq
    rw[<-hq]
   ·simp only[go_sem,reduceEqDiff,decide_eq_false c,h0,h1,h7,h8,e]
    rw[if_neg c]at hq
    exact⟨_,by omega,i+1,by simp,ci,rfl,hq⟩
  ·simp at ci
   simp only[go_sem,reduceEqDiff]
   obtain rfl:i=l.length:=by omega
   rw[List.drop_length]at hq
   rw[<-hq];rfl
def d_7 (P:Program)(f:FuncId):Prop:=
 f2_ P f=true/\∀(F:Nat->Prop)(h:a0_)(l:List Int)(a:AV)(n:Int),Rd F h (b1_ l) a->l.length<=2^40->a6_ P f [a,.int .i64 n] h λr h'=>r=.bool (decide (n∈l))/\h'=h
theorem n_b {P:Program}{f g:FuncId}(hf:Is P f (f8_ g))(hg:v_d P g):d_7 P f:=by
 refine⟨hf.2,λF h l a n ha hl=>a4_ hf.1 (J_y rfl) ?_⟩
 show vc P (f8_ g).code ⟨[(0,a),(1,.int .i64 n)],[],h⟩ (b2_ (f8_ g).res _)
 simp only[f8_,go_sem,reduceEqDiff]
 refine a1_ ⟨hg.1,hg.2 F _ l a n ha hl⟩ ?_
 rintro _ _ ⟨rfl,rfl⟩
 simp only[go_sem,reduceEqDiff,p_5]
def n_a (P:Program)(f:FuncId):Prop:=
 f2_ P f=true/\∀(F:Nat->Prop)(h:a0_)(l:List Int)(a:AV)(g:FuncId)(fs cs:List AV)(p:Int->Bool),Rd F h (b1_ l) a->l.length<=2^40->f2_ P g=true->
  (∀n,a6_ P g (fs++[.int .i64 n]++cs) h λr h'=>r=.bool (p n)/\h'=h)->a6_ P f [a,.clo g fs cs] h λr h'=>r=.int .i64 (l.countP p)/\h'=h
theorem n_y {P:Program}{f:FuncId}(hf:Is P f m0_):n_a P f:=by
 refine⟨hf.2,λF h l a g fs cs p ha hl hi hg=>a4_ hf.1 (J_y rfl) ?_⟩
 show vc P m0_.code ⟨[(0,a),(1,.clo g fs cs)],[],h⟩ (b2_ m0_.res _)
 have la:=ha.ints_len
 simp only[m0_,go_sem,reduceEqDiff,la]
 refine e8_ (λm L h'=>∃i c:Nat,lk 1 L=.clo g fs cs/\lk 5 L=.int .i64 c/\lk 8 L=a/\lk 9 L=.int .i64 l.length/\lk 10 L=.int .i64 i/\h'=h/\i<=l.length/\c<=i/\m=l.length-i/\c+(l.drop i).countP p=l.countP p) l.length ?_ ?_
 ·exact⟨0,0,by simp[a3_,c9_],by simp[a3_],by simp[a3_],by simp[a3_],by simp[a3_],rfl,by omega,by omega,by omega,by simp⟩
 ·rintro m L h' ⟨i,c,h1,h5,h8,h9,h10,rfl,hi2,hci,rfl,hq⟩
  simp only[z2_,go_sem,h9,h10]
  refine b0_ (λci=>?_) (λci=>?_)
  ·simp at ci
   obtain⟨q,hp,hv⟩:=ha.int_at ci
   have e:IntKind.i64.wrap (↑i+1)=(i:Int)+1:=a7_ (by omega)
   have e2:IntKind.i64.wrap (↑c+1)=((c+1:Nat):Int):=by rw[a7_ (by omega)];omega
   simp only[go_sem,reduceEqDiff,h1,h8,h10,hp,hv]
   rw[L_8 ci,List.countP_cons]at hq
   refine a1_ ⟨hi,hg _⟩ ?_
   rintro _ _ ⟨rfl,rfl⟩
   cases hpb:p l[i]
   ·simp only[go_sem,reduceEqDiff,h1,h5,h8,h9,h10,e]
    exact⟨_,by omega,i+1,c,by simp,by simp,ci,by omega,rfl,by simpa [hpb] using hq⟩
   ·simp only[go_sem,reduceEqDiff,h1,h5,h8,h9,h10,e,e2]
    exact⟨_,by omega,i+1,c+1,by simp,by simp,ci,by omega,rfl,by simp only[hpb,if_true]at hq;omega⟩
  ·simp at ci
   simp only[go_sem,reduceEqDiff,h5]
   obtain rfl:i=l.length:=by omega
   rw[List.drop_length]at hq
   simp at hq
   rw[hq]
theorem A_h (a b:Int):V2_ .quo (.int .i64 a) (.int .i64 b)=if b=0 then none else some (.int .i64 (IntKind.i64.wrap (a.tdiv b))):=Eq.trans rfl rfl
theorem D_6 (a b:Int):V2_ .rem (.int .i64 a) (.int .i64 b)=if b=0 then none else some (.int .i64 (a.tmod b)):=Eq.trans rfl rfl
def j_7 (l yes:List Int):Bool:=decide (l.length / 2<l.countP λn=>decide (n∈yes))
def e3_.won (x:e3_)(yes:List Int):Bool:=j_7 x.old yes && (decide (x.new.length=0) || j_7 x.new yes)
def o_g (P:Program)(f:FuncId):Prop:=
 f2_ P f=true/\∀(F F':Nat->Prop)(h:a0_)(l yes:List Int)(a b:AV),Rd F h (b1_ l) a->Rd F' h (b1_ yes) b->l.length<=2^40->yes.length<=2^40->a6_ P f [a,b] h λr h'=>r=.bool (j_7 l yes)/\h'=h
theorem j_6 {P:Program}{f g:FuncId}(hf:Is P f (j0_ g))(hg:d_7 P g){F:Nat->Prop}{h:a0_}{yes:List Int}{b q:AV}(hb:Rd F h (b1_ yes) b)(hy:yes.length<=2^40)(hq:o5_ h false 1 q=some b)(n:Int):
  a6_ P f [.int .i64 n,q] h λr h'=>r=.bool (decide (n∈yes))/\h'=h:=by
 refine a4_ hf.1 (J_y rfl) ?_
 show vc P (j0_ g).code ⟨[(0,.int .i64 n),(1,q)],[],h⟩ (b2_ (j0_ g).res _)
 simp only[j0_,go_sem,reduceEqDiff,hq]
 refine a1_ ⟨hg.1,hg.2 F _ yes b n hb hy⟩ ?_
 rintro _ _ ⟨rfl,rfl⟩
 simp only[go_sem,reduceEqDiff]
theorem t_8 {P:Program}{f k g c:FuncId}(hf:Is P f (r8_ k g))(hk:Is P k (j0_ c))(hc:d_7 P c)(hg:n_a P g):o_g P f:=by
 refine⟨hf.2,λF F' h l yes a b ha hb hl hy=>obs (t9_ _ _) (a4_ hf.1 (J_y rfl) ?_)⟩
 show vc P (r8_ k g).code ⟨[(0,a),(1,b)],[],h⟩ (b2_ (r8_ k g).res _)
 have la:=ha.ints_len
 simp only[r8_,go_sem,reduceEqDiff,reduceAdd,hb.scalar,b5_ hb.scalar]
 refine a1_ ⟨hg.1,hg.2 F _ l a k [] [.ptr h.length 1 0 0] (λn=>decide (n∈yes)) (ha.up (Ext.b1 _)) hl hk.2 (λn=>j_6 hk hc (hb.up (Ext.b1 _)) hy (by simp only[go_sem]) n)⟩ ?_
 rintro _ _ ⟨rfl,rfl⟩
 have e:IntKind.i64.wrap ((l.length:Int).tdiv 2)=((l.length / 2:Nat):Int):=by rw[L_4 (by omega),a7_ (by omega)];omega
 have z2:∀{x:Option AV},(if (2:Int)=0 then none else x)=x:=fun {x}=>if_neg (by decide)
 simp only[go_sem,reduceEqDiff,la,A_h,z2,e]
 exact⟨by simp only[j_7];congr 1;simp only[decide_eq_decide];omega,Ext.b1 _⟩
def u_3 (P:Program)(f:FuncId):Prop:=
 f2_ P f=true/\∀(F F':Nat->Prop)(h:a0_)(x:e3_)(yes:List Int)(a:List AV)(b:AV),RdL F h x.c a->Rd F' h (b1_ yes) b->x.few (2^40)->yes.length<=2^40->a6_ P f [.agg a,b] h λr h'=>r=.bool (x.won yes)/\h'=h
theorem N3_ (n:Nat):decide ((n:Int)=0)=decide (n=0):=by simp
theorem g_c {P:Program}{f g:FuncId}(hf:Is P f (z3_ g))(hg:o_g P g):u_3 P f:=by
 refine⟨hf.2,λF F' h x yes a b ha hb hl hy=>obs (t9_ _ _) (a4_ hf.1 (J_y rfl) ?_)⟩
 show vc P (z3_ g).code ⟨[(0,.agg a),(1,b)],[],h⟩ (b2_ (z3_ g).res _)
 obtain⟨o,n,e,rfl,ho,hn,he⟩:=J7_ ha
 have ln:=hn.ints_len
 simp only[z3_,go_sem,reduceEqDiff,reduceAdd,ho.scalar,hn.scalar,he.scalar]
 refine a1_ ⟨hg.1,hg.2 F F' _ x.old yes _ _ (ho.up (Ext.b1 _)) (hb.up (Ext.b1 _)) hl.1 hy⟩ ?_
 rintro _ _ ⟨rfl,rfl⟩
 cases c1:j_7 x.old yes
 ·simp only[go_sem,reduceEqDiff]
  exact⟨by simp[e3_.won,c1],Ext.b1 _⟩
 ·simp only[go_sem,reduceEqDiff,reduceAdd,ln,N3_]
  by_cases c2:x.new.length=0
  ·simp only[go_sem,reduceEqDiff,decide_eq_true c2]
   exact⟨by simp only[e3_.won,c1,decide_eq_true c2,Bool.true_or,Bool.and_true],Ext.b1 _⟩
  ·simp only[go_sem,reduceEqDiff,reduceAdd,decide_eq_false c2]
   refine a1_ ⟨hg.1,hg.2 F F' _ x.new yes _ _ (hn.up (Ext.b1 _)) (hb.up (Ext.b1 _)) hl.2.1 hy⟩ ?_
   rintro _ _ ⟨rfl,rfl⟩
   simp only[go_sem,reduceEqDiff]
   exact⟨by simp only[e3_.won,c1,decide_eq_false c2,Bool.false_or,M_q],Ext.b1 _⟩
def e_e (v:Int)(ps:List (Int×Int)):List Int:=(ps.filter λp=>decide (v<=p.2)).map (·.1)
def e3_.best (x:e3_)(all:List (Int×Int)):List (Int×Int)->Int->Int
 | [],b=>b
 | p :: r,b=>x.best all r (if b<p.2/\x.won (e_e p.2 all)=true then p.2 else b)
def e3_.agreed (x:e3_)(nodes reached:List Int):Int:=x.best (nodes.zip reached) (nodes.zip reached) 0
theorem a_z (v:Int)(ps:List (Int×Int)):(e_e v ps).length<=ps.length:=by simp only[e_e,K_p];exact L_y _ _
theorem o_l {v:Int}{ps:List (Int×Int)}{i:Nat}(hi:i<ps.length):e_e v (ps.take (i+1))=e_e v (ps.take i)++(if v<=ps[i].2 then [ps[i].1] else []):=by
 rw[K_f hi]
 simp only[e_e,List.filter_append,K_8,List.filter_cons,List.filter_nil]
 congr 1
 by_cases c:v<=ps[i].2
 ·simp[c]
 ·simp[c]
def h_t (P:Program)(f:FuncId):Prop:=
 f2_ P f=true/\∀(F F' F'':Nat->Prop)(h:a0_)(x:e3_)(nodes reached:List Int)(a:List AV)(b c:AV),RdL F h x.c a->Rd F' h (b1_ nodes) b->Rd F'' h (b1_ reached) c->x.few (2^40)->nodes.length<=2^40->reached.length<=2^40->
  a6_ P f [.agg a,b,c] h λr h'=>r=.int .i64 (x.agreed nodes reached)/\h'=h
theorem b_l {P:Program}{f g:FuncId}(hf:Is P f (s0_ g))(hg:u_3 P g):h_t P f:=by
 refine⟨hf.2,λF F' F'' h x nodes reached a b c ha hb hc hx hn hr=>obs (b_4 _ _ _) (a4_ hf.1 (J_y rfl) ?_)⟩
 show vc P (s0_ g).code ⟨[(0,.agg a),(1,b),(2,c)],[],h⟩ (b2_ (s0_ g).res _)
 obtain⟨o,n,e,rfl,ho,hne,he⟩:=J7_ ha
 have lb:=hb.ints_len
 have lc:=hc.ints_len
 have mn:min (nodes.length:Int) (reached.length:Int)=((min nodes.length reached.length:Nat):Int):=by omega
 generalize hall:nodes.zip reached=all
 have hal:all.length=min nodes.length reached.length:=by rw[<-hall];exact List.length_zip
 have hag:x.agreed nodes reached=x.best all all 0:=by simp only[e3_.agreed,hall]
 obtain⟨c',hs,hc'⟩:=Rd.slice hc (lo:=none) (hi:=some (all.length:Int)) (mx:=none) (by simp) (by simp) (by simp;omega) (by simp) (by simp;omega) (by simp)
 obtain⟨b',hs2,hb'⟩:=Rd.slice hb (lo:=none) (hi:=some (all.length:Int)) (mx:=none) (by simp) (by simp) (by simp;omega) (by simp) (by simp;omega) (by simp)
 have hc2:Rd F'' h (b1_ (reached.take all.length)) c':=by simpa [b1_,L_7] using hc'
 have hb2:Rd F' h (b1_ (nodes.take all.length)) b':=by simpa [b1_,L_7] using hb'
 have lc':=hc2.ints_len
 have lb':=hb2.ints_len
 rw[K_i,M_b (by omega)]at lc' lb'
 have hz:∀i (hi:i<all.length),all[i]=(nodes[i]'(by omega),reached[i]'(by omega)):=λi hi=>by subst hall;simp
 have hbox:=x3_ h (some (.arr 3 [[o,n,e]] false))
 simp only[s0_,go_sem,reduceEqDiff,reduceAdd,ho.scalar,hne.scalar,he.scalar,lb,lc,F2_,K1_,mn,<-hal,r_b,hs,lc']
 have x0:=Ext.b1 (h:=h) (some (.arr 3 [[o,n,e]] false))
 refine e8_ (λm L h'=>∃(i:Nat)(best:Int),lk 1 L=b/\lk 2 L=c/\lk 3 L=.ptr h.length 3 0 0/\lk 7 L=.int .i64 all.length/\lk 8 L=.int .i64 best/\lk 21 L=c'/\lk 22 L=.int .i64 all.length/\lk 23 L=.int .i64 i /\
  Ext nof (h++[some (.arr 3 [[o,n,e]] false)]) h'/\i<=all.length/\m=all.length-i/\x.best all (all.drop i) best=x.best all all 0) all.length ?_ ?_
 ·exact⟨0,0,by simp[a3_,c9_],by simp[a3_,c9_],by simp[a3_],by simp[a3_],by simp[a3_],by simp[a3_],by simp[a3_],by simp[a3_],Ext.refl _ _,by omega,by omega,rfl⟩
 ·rintro m L h1 ⟨i,best,k1,k2,k3,k7,k8,k21,k22,k23,hE,hi,rfl,hq⟩
  simp only[F7_,go_sem,k22,k23]
  refine b0_ (λci=>?_) (λci=>?_)
  ·simp at ci
   have e1:IntKind.i64.wrap (↑i+1)=(i:Int)+1:=a7_ (by omega)
   obtain⟨p,hp,hv⟩:=((hc2.up x0).up hE).int_at (i:=i) (by rw[K_i];omega)
   have hvi:(reached.take all.length)[i]'(by rw[K_i];omega)=reached[i]'(by omega):=List.getElem_take
   rw[hvi]at hv
   rw[L_8 ci]at hq
   simp only[e3_.best,hz i ci]at hq
   simp only[go_sem,reduceEqDiff,k8,k21,k23,hp,hv]
   generalize reached[i]'(by omega)=v at *
   by_cases cb:v<=best
   ·simp only[go_sem,reduceEqDiff,k1,k2,k3,k7,k8,k21,k22,k23,decide_eq_true cb,e1]
    rw[if_neg (λh=>by omega)]at hq
    exact⟨_,by omega,i+1,best,by simp,by simp,hE,ci,rfl,hq⟩
   ·simp only[go_sem,reduceEqDiff,k1,k7,decide_eq_false cb,hs2,lb']
    refine e8_ (λm L h'=>∃(j:Nat)(o':AV),lk 1 L=b/\lk 2 L=c/\lk 3 L=.ptr h.length 3 0 0/\lk 7 L=.int .i64 all.length/\lk 8 L=.int .i64 best/\lk 10 L=.int .i64 v/\lk 11 L=o'/\lk 21 L=c'/\lk 22 L=.int .i64 all.length/\lk 23 L=.int .i64 i /\
     lk 32 L=b'/\lk 33 L=.int .i64 all.length/\lk 34 L=.int .i64 j/\Own (b1_ (e_e v (all.take j))) (λm=>h1.length<=m) h' o'/\d2_ h' o'/\Ext nof h1 h'/\j<=all.length/\m=all.length-j) all.length ?_ ?_
    ·exact⟨0,.nils,by simp[a3_,k1],by simp[a3_,k2],by simp[a3_,k3],by simp[a3_,k7],by simp[a3_,k8],by simp[a3_],by simp[a3_],by simp[a3_,k21],by simp[a3_,k22],by simp[a3_,k23],
      by simp[a3_],by simp[a3_],by simp[a3_],by simpa [e_e,b1_] using Own.nils 1,trivial,Ext.refl _ _,by omega,by omega⟩
    ·rintro m L h2 ⟨j,o',k1,k2,k3,k7,k8,k10,k11,k21,k22,k23,k32,k33,k34,hO,hA,hE2,hj,rfl⟩
     simp only[F8_,go_sem,k33,k34]
     refine b0_ (λcj=>?_) (λcj=>?_)
     ·simp at cj
      have e2:IntKind.i64.wrap (↑j+1)=(j:Int)+1:=a7_ (by omega)
      obtain⟨q,hq1,hv1⟩:=(((hb2.up x0).up hE).up hE2).int_at (i:=j) (by rw[K_i];omega)
      obtain⟨q2,hq2,hv2⟩:=(((hc.up x0).up hE).up hE2).int_at (i:=j) (by omega)
      have hvj:(nodes.take all.length)[j]'(by rw[K_i];omega)=nodes[j]'(by omega):=List.getElem_take
      rw[hvj]at hv1
      have hmore:=o_l (v:=v) cj
      rw[hz j cj]at hmore
      simp only at hmore
      simp only[go_sem,reduceEqDiff,k2,k10,k32,k34,hq1,hv1,hq2,hv2]
      generalize nodes[j]'(by omega)=nj at *
      generalize reached[j]'(by omega)=rj at *
      by_cases cv:v<=rj
      ·rw[if_pos cv]at hmore
       have hyl:=a_z v (all.take j)
       rw[K_i]at hyl
       obtain⟨o2,h3,ha,ho',hc2',he'⟩:=G6_ (bytes:=8) (es:=[[.int .i64 nj]]) (h:=h2++[some (.arr 1 [[.int .i64 nj]] false)]) hO hA (Ext.app _ _ _) (ys:=[[.int .i64 nj]])
        (by simp[a8_,g2_,Own]) hE2.1 (by simp;omega)
       simp only[go_sem,reduceEqDiff,reduceAdd,k1,k2,k3,k7,k8,k10,k11,k21,k22,k23,k32,k33,k34,decide_eq_true cv,c6_ (l4_ h2 1 [[.int .i64 nj]] false (some 1) (len:=1) rfl),ha,e2]
       refine⟨_,by omega,j+1,o2,rfl,by simp,?_,hc2',?_,cj,rfl⟩
       ·rw[hmore,b1_,K_8];exact ho'
       ·exact (hE2.tr (Ext.b1 _)).then he' (λm hm hm'=>by have:=hE2.1;omega)
      ·rw[if_neg cv,K_2]at hmore
       simp only[go_sem,reduceEqDiff,k1,k2,k3,k7,k8,k10,k11,k21,k22,k23,k32,k33,k34,decide_eq_false cv,e2]
       exact⟨_,by omega,j+1,o',rfl,by simp,by rw[hmore];exact hO,hA,hE2,cj,rfl⟩
     ·simp at cj
      obtain rfl:j=all.length:=by omega
      rw[K_y]at hO
      have B:=hE2.get (hE.get hbox)
      simp only[go_sem,reduceEqDiff,reduceAdd,reduceLeDiff,k1,k2,k3,k7,k8,k11,k21,k22,k23,B]
      have hyl:=a_z v all
      refine a1_ ⟨hg.1,hg.2 F (λ_=>True) _ x (e_e v all) _ o' ((((g_5 ho hne he).up x0).up hE).up hE2) (Own.rd _ (λ_ _=>trivial) _ hO) hx (by omega)⟩ ?_
      rintro _ _ ⟨rfl,rfl⟩
      cases hw:x.won (e_e v all)
      ·simp only[go_sem,reduceEqDiff,k1,k2,k3,k7,k8,k21,k22,k23,e1]
       rw[if_neg (λh=>by rw[hw]at h;exact absurd h.2 (by decide))]at hq
       exact⟨_,by omega,i+1,best,by simp,by simp,hE.tr hE2,ci,rfl,hq⟩
      ·simp only[go_sem,reduceEqDiff,k1,k2,k3,k7,k8,k10,k21,k22,k23,e1]
       rw[if_pos ⟨by omega,hw⟩]at hq
       exact⟨_,by omega,i+1,v,by simp,by simp,hE.tr hE2,ci,rfl,hq⟩
  ·simp at ci
   obtain rfl:i=all.length:=by omega
   rw[List.drop_length]at hq
   simp only[e3_.best]at hq
   simp only[go_sem,reduceEqDiff,k8,hq,hag]
   exact x0.tr hE
def pick (k n:Int):Int:=if n<1 then 0 else k % n
theorem H7_ (k:IntKind)(F:Nat->Prop)(h:a0_):∀l:List Int,a8_ (l.map λn=>[.int k n]) F h (l.map λn=>[AV.int k n])
 | []=>by simp only[K_9,a8_]
 | n :: l=>by simp only[K_t,a8_,g2_,Own];exact⟨_,_,rfl,⟨_,_,rfl,rfl,rfl⟩,H7_ k F h l⟩
theorem J9_ {k:IntKind}{F:Nat->Prop}{h:a0_}:∀{l:List Int} {r:List (List AV)},a8_ (l.map λn=>[.int k n]) F h r->r=l.map λn=>[AV.int k n]
 | [],r,hh=>by simp only[K_9,a8_]at hh;simpa using hh
 | n :: l,r,hh=>by
  simp only[K_t,a8_,g2_,Own]at hh
  obtain⟨a,q,rfl,⟨_,_,rfl,rfl,rfl⟩,h2⟩:=hh
  rw[J9_ h2];rfl
end Glb
