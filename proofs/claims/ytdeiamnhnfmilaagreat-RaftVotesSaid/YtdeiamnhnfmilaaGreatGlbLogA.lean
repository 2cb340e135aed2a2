/-
  A library of its own.
-/
import Derived.Test.YtdeiamnhnfmilaaGreatGlbKitA
import Derived.Test.YtdeiamnhnfmilaaGreatGlbCrlog
set_option linter.unusedSimpArgs false
set_option linter.unusedVariables false
set_option maxRecDepth 10000
open Nat (reduceAdd reduceDiv reduceEqDiff reduceLeDiff reduceMod reducePow)
namespace Glb
open Go
def E3_ (l:Log):Prop:=0<=l.base/\l.base<=2^41/\i0_ l.es
def Log.last (l:Log):Int:=l.base+l.es.length
def Log.lastTerm (l:Log):Int:=match l.es[l.es.length-1]? with
 | some e=>e.term
 | none=>l.bterm
def Log.has (l:Log)(i:Int):Bool:=decide (l.base<=i) && decide (i<=l.last)
def Log.term (l:Log)(i:Int):Int:=if l.has i then (if i=l.base then l.bterm else match l.es[(i-l.base-1).toNat]? with
 | some e=>e.term
 | none=>0) else 0
def Z2_ (P:Program)(f:FuncId):Prop:=
 f2_ P f=true/\∀(F:Nat->Prop)(h:a0_)(l:Log)(a:List AV),RdL F h l.c a->E3_ l->
  a6_ P f [.agg a] h λr h'=>r=.tup [.int .i64 l.last,.int .i64 l.lastTerm]/\h'=h
theorem i_q {P:Program}{f:FuncId}(hf:Is P f D3_):Z2_ P f:=by
 refine⟨hf.2,λF h l a hl ok=>obs (h_7 (b_4 _ _ _) (b_4 _ _ _)) (a4_ hf.1 (J_y rfl) ?_)⟩
 show vc P D3_.code ⟨[(0,.agg a)],[],h⟩ (b2_ D3_.res _)
 simp only[Log.c,RdL,Rd]at hl
 obtain⟨_,_,rfl,rfl,_,_,rfl,rfl,d,_,rfl,hl,rfl⟩:=hl
 have ll:=hl.len
 simp only[K_p]at ll
 obtain⟨o1,o2,o3,o4⟩:=ok
 simp only[D3_,go_sem,reduceEqDiff,reduceAdd,hl.scalar,ll]
 refine b0_ (λc=>?_) (λc=>?_)
 ·simp at c
  have e1:IntKind.i64.wrap (l.base+↑l.es.length)=l.base+↑l.es.length:=a7_ (by omega)
  have e2:IntKind.i64.wrap ((l.es.length:Int)-1)=(l.es.length:Int)-1:=a7_ (by omega)
  have hlt:l.es.length-1<l.es.length:=by first | omega | (have:=List.length_pos_iff.2 c;omega)
  have ht:((l.es.length:Int)-1).toNat=l.es.length-1:=by omega
  obtain⟨p,cs,hp,hpc,hcs⟩:=hl.index .i64 (i:=(l.es.length:Int)-1) (d:=(l.es[l.es.length-1]).c) (by omega) (by rw[ht];simp[hlt])
  simp only[e0_.c,RdL,Rd]at hcs
  obtain⟨_,_,rfl,rfl,_,_,rfl,rfl,d',_,rfl,_,rfl⟩:=hcs
  have hpc1:=pup hpc (Ext.b1 (some (.arr 3 [[.int .i64 l.base,.int .i64 l.bterm,d]] false)))
  simp only[go_sem,reduceEqDiff,reduceAdd,e1,e2,hp,K9_ hpc,E2_ hpc1]
  refine⟨?_,Ext.b1 _⟩
  simp[Log.last,Log.lastTerm,hlt]
 ·simp at c
  simp only[go_sem,reduceEqDiff,reduceAdd]
  refine⟨?_,Ext.b1 _⟩
  simp[Log.last,Log.lastTerm,c]
def R3_ (P:Program)(f:FuncId):Prop:=
 f2_ P f=true/\∀(F:Nat->Prop)(h:a0_)(l:Log)(a:List AV)(i:Int),RdL F h l.c a->E3_ l->
  a6_ P f [.agg a,.int .i64 i] h λr h'=>r=.tup [.int .i64 (l.term i),.bool (l.has i)]/\h'=h
theorem i_p {P:Program}{f g:FuncId}(hf:Is P f (D2_ g))(hg:Z2_ P g):R3_ P f:=by
 refine⟨hf.2,λF h l a i hl ok=>obs (h_7 (b_4 _ _ _) (t9_ _ _)) (a4_ hf.1 (J_y rfl) ?_)⟩
 show vc P (D2_ g).code ⟨[(0,.agg a),(1,.int .i64 i)],[],h⟩ (b2_ (D2_ g).res _)
 have hl0:=hl
 simp only[Log.c,RdL,Rd]at hl
 obtain⟨_,_,rfl,rfl,_,_,rfl,rfl,d,_,rfl,hl,rfl⟩:=hl
 have ok':=ok
 obtain⟨o1,o2,o3,o4⟩:=ok
 simp only[D2_,go_sem,reduceEqDiff,reduceAdd,reduceLeDiff,hl.scalar]
 refine a1_ ⟨hg.1,hg.2 F _ l _ (hl0.up (Ext.b1 _)) ok'⟩ ?_
 rintro _ _ ⟨rfl,rfl⟩
 have hlast:l.last=l.base+l.es.length:=rfl
 by_cases h1:i<l.base
 ·have c1:decide (i<l.base)=true:=decide_eq_true h1
  have hh:l.has i=false:=by simp[Log.has];omega
  simp only[go_sem,reduceEqDiff,c1,Log.term,hh]
  exact Ext.b1 _
 have c1:decide (i<l.base)=false:=decide_eq_false h1
 by_cases h2:l.last<i
 ·have c2:decide (l.last<i)=true:=decide_eq_true h2
  have hh:l.has i=false:=by simp[Log.has];omega
  simp only[go_sem,reduceEqDiff,c1,c2,Log.term,hh]
  exact Ext.b1 _
 have c2:decide (l.last<i)=false:=decide_eq_false h2
 have hh:l.has i=true:=by simp[Log.has];omega
 by_cases h3:i=l.base
 ·have c3:decide (i=l.base)=true:=decide_eq_true h3
  simp only[go_sem,reduceEqDiff,reduceAdd,c1,c2,c3,Log.term,hh]
  refine⟨?_,Ext.b1 _⟩
  rw[if_pos h3]
 have c3:decide (i=l.base)=false:=decide_eq_false h3
 have hlt:(i-l.base-1).toNat<l.es.length:=by omega
 have e1:IntKind.i64.wrap (i-l.base)=i-l.base:=a7_ (by omega)
 have e2:IntKind.i64.wrap (i-l.base-1)=i-l.base-1:=a7_ (by omega)
 obtain⟨p,cs,hp,hpc,hcs⟩:=hl.index .i64 (i:=i-l.base-1) (d:=(l.es[(i-l.base-1).toNat]).c) (by omega) (by rw[K_s,J_5 hlt];rfl)
 simp only[e0_.c,RdL,Rd]at hcs
 obtain⟨_,_,rfl,rfl,_,_,rfl,rfl,d',_,rfl,_,rfl⟩:=hcs
 have hpc1:=pup hpc (Ext.b1 (some (.arr 3 [[.int .i64 l.base,.int .i64 l.bterm,d]] false)))
 simp only[go_sem,reduceEqDiff,reduceAdd,c1,c2,c3,e1,e2,hp,K9_ hpc,E2_ hpc1,Log.term,hh]
 refine⟨?_,Ext.b1 _⟩
 rw[if_neg h3,J_5 hlt]
def Log.newer (l:Log)(index term:Int):Bool:=decide (l.lastTerm<term) || (decide (term=l.lastTerm) && decide (l.last<=index))
def d_6 (P:Program)(f:FuncId):Prop:=
 f2_ P f=true/\∀(F:Nat->Prop)(h:a0_)(l:Log)(a:List AV)(i t:Int),RdL F h l.c a->E3_ l->
  a6_ P f [.agg a,.int .i64 i,.int .i64 t] h λr h'=>r=.bool (l.newer i t)/\h'=h
theorem f_6 {P : Program} {f g : FuncId} (hf : Is P f (z0_ g)) (hg : Z2_ P g) : d_6 P f := by
 refine ⟨hf.2, λF h l a i t hl ok => obs (t9_ _ _) (a4_ hf.1 (J_y rfl) ?_)⟩
 show vc P (z0_ g).code ⟨[(0, .agg a), (1, .int .i64 i), (2, .int .i64 t)], [], h⟩ (b2_ (z0_ g).res _)
 have hl0 := hl
 simp only [Log.c, RdL, Rd] at hl
 obtain ⟨_, _, rfl, rfl, _, _, rfl, rfl, d, _, rfl, hl, rfl⟩ := hl
 simp only [z0_, go_sem, reduceEqDiff, reduceAdd, reduceLeDiff, hl.scalar]
 refine a1_ ⟨hg.1, hg.2 F _ l _ (hl0.up (Ext.b1 _)) ok⟩ ?_
 rintro _ _ ⟨rfl, rfl⟩
 simp only [go_sem, reduceEqDiff]
 repeat' (first
  | refine r_i (λ_ => ?_) (λ_ => ?_)
  | refine r_j (λ_ => ?_) (λ_ => ?_)
  | refine b0_ (λ_ => ?_) (λ_ => ?_)
  | simp only [go_sem, reduceEqDiff, *])
 all_goals refine ⟨?_, Ext.b1 _⟩
 all_goals simp_all [Log.newer]
theorem B2_ {P:Program}{f:FuncId}(hf:Is P f y8_):B9_ P f:=by
 refine⟨hf.2,λF h x a hx hl=>a4_ hf.1 (J_y rfl) ?_⟩
 show vc P y8_.code ⟨[(0,a)],[],h⟩ (b2_ y8_.res _)
 have lx:=hx.len
 simp only[K_p]at lx
 have hl1:=hl.1
 simp only[y8_,go_sem,reduceEqDiff,lx]
 refine e8_ (λm L h'=>∃(i:Nat)(o:AV),lk 6 L=a/\lk 7 L=.int .i64 x.length/\lk 3 L=o/\lk 8 L=.int .i64 i/\i<=x.length/\m=x.length-i /\
  Own (b7_ (x.take i)) (λm=>h.length<=m) h' o/\d2_ h' o/\Ext nof h h') x.length ?_ ?_
 ·exact⟨0,_,by simp[a3_],by simp[a3_],by simp[a3_],by simp[a3_],by omega,by omega,Own.nils 3,trivial,Ext.refl _ _⟩
 ·rintro m L h' ⟨i,o,h6,h7,h3,h8,hi,rfl,ho,hc,he⟩
  simp only[N9_,go_sem,h7,h8]
  refine b0_ (λci=>?_) (λci=>?_)
  ·simp at ci
   obtain⟨p,cs,hp,hpc,hcs⟩:=(hx.up he).index .i64 (i:=i) (d:=x[i].c) (by omega) (by simp[ci])
   simp only[e0_.c,RdL,Rd]at hcs
   obtain⟨_,_,rfl,rfl,_,_,rfl,rfl,d,_,rfl,hd,rfl⟩:=hcs
   have hd':Rd F h' (b3_ x[i].data) d:=hd
   have e:IntKind.i64.wrap (↑i+1)=(i:Int)+1:=a7_ (by omega)
   generalize hA:(some (.arr 3 [[.int .i64 x[i].term,.int .i64 x[i].kind,d]] false):Option a5_)=A
   obtain⟨ys,hys,hyr⟩:=(hd'.up (Ext.b2 A (some (.arr 1 [] false)))).elems
   obtain⟨r,h2,ha,hr,_,he2⟩:=G6_ (lo:=h'.length+1) (sz:=1) (bytes:=1) (ds:=[]) (h0:=h'++[A]++[some (.arr 1 [] false)]) (h:=h'++[A]++[some (.arr 1 [] false)]) (av:=.ref (h'.length+1) 1 0 0 (some 0))
    (by simp only[Own];exact .inr (.inr ⟨h'.length+1,0,some 0,[],false,rfl,J_4 _,O1_ _ _ _,by simp,(λc hc=>by cases hc;simp),by simp[a8_]⟩))
    ⟨[],false,O1_ _ _ _,(λhc=>by cases hc),(λc hc=>by cases hc;simp)⟩ (Ext.refl _ _) (w_w hyr) (by simp) (by have:=hl.2 x[i] (by simp);simp;omega)
   have ha':V0_ (h'++[A]++[some (.arr 1 [] false)]) 1 1 (.ref (h'.length+1) 1 0 0 (some 0)) d=some (r,h2):=by rw[c6_ hys];exact ha
   have hA2:h2[h'.length]?=some A:=by rw[he2.2 h'.length (by simp) (by simp)];exact b_z _ _ _
   have l2:=(J_w.1 hA2).1
   subst hA
   simp only[go_sem,reduceEqDiff,reduceAdd,reduceLeDiff,h6,h3,h8,hp,n2_ hpc,hd'.scalar,ha',hA2,hr.scalar,b5_ hr.scalar,l2]
   have eB:Ext nof h' (h2.set h'.length (some (.arr 3 [[.int .i64 x[i].term,.int .i64 x[i].kind,r]] false))):=
    ((Ext.b2 _ _).then he2 (λm hm hm'=>by omega)).setNew (J_4 _) _
   have hrB:Own (b3_ x[i].data) (λm=>h'.length+1<=m) (h2.set h'.length (some (.arr 3 [[.int .i64 x[i].term,.int .i64 x[i].kind,r]] false))) r:=
    Own.mono _ (λm hm=>hm) (λm hm y hy=>by rw[J_x (by omega)];exact hy) _ (by simpa [b3_] using hr)
   generalize hB:h2.set h'.length (some (.arr 3 [[.int .i64 x[i].term,.int .i64 x[i].kind,r]] false))=B at *
   obtain⟨o',h3',ha3,ho',hc',he'⟩:=G6_ (bytes:=40) (es:=[x[i].c]) (h:=B++[some (.arr 3 [[.int .i64 x[i].term,.int .i64 x[i].kind,r]] false)]) ho hc
    (eB.box _) (ys:=[[.int .i64 x[i].term,.int .i64 x[i].kind,r]])
    (by
     simp only[a8_,g2_,e0_.c,Own]
     refine⟨_,_,rfl,⟨_,_,rfl,rfl,_,_,rfl,rfl,r,_,rfl,?_,rfl⟩,rfl⟩
     exact Own.mono _ (λm hm=>by omega) (λm hm y hy=>(Ext.b1 _).get hy) _ hrB) he.1 (by simp;omega)
   have ha3':=c6_ (l4_ B 3 [[.int .i64 x[i].term,.int .i64 x[i].kind,r]] false (some 1) (len:=1) rfl) 40 o
   rw[ha3]at ha3'
   simp only[go_sem,reduceEqDiff,h6,h7,h3,h8,e,ha3']
   refine⟨_,?_,i+1,o',rfl,by simp,ci,rfl,?_,hc',?_⟩
   ·omega
   ·have:x.take (i+1)=x.take i++[x[i]]:=by simp[ci]
    rw[this,b7_,K_8];exact ho'
   ·exact (he.tr (eB.box _)).then he' (λm hm hm'=>by omega)
  ·simp at ci
   simp only[go_sem,reduceEqDiff,h3]
   obtain rfl:i=x.length:=by omega
   rw[K_y]at ho
   exact⟨ho,hc,he⟩
def Log.slice (l:Log)(from_ most:Int):List e0_:=
 if from_<=l.base\/l.last<from_\/most<1 then [] else (l.es.drop (from_-l.base-1).toNat).take most.toNat
def L0_ (P:Program)(f:FuncId):Prop:=
 f2_ P f=true/\∀(F:Nat->Prop)(h:a0_)(l:Log)(a:List AV)(i n:Int),RdL F h l.c a->E3_ l->
  a6_ P f [.agg a,.int .i64 i,.int .i64 n] h λr h'=>Own (b7_ (l.slice i n)) (λm=>h.length<=m) h' r/\d2_ h' r/\Ext nof h h'
theorem i0_.sub {l l':List e0_}(hl:i0_ l)(hn:l'.length<=l.length)(hs:∀e∈l',e∈l):i0_ l':=⟨K_e hn hl.1,λe he=>hl.2 e (hs e he)⟩
theorem f_5 {P:Program}{f g k:FuncId}(hf:Is P f (y9_ g k))(hg:Z2_ P g)(hk:B9_ P k):L0_ P f:=by
 refine⟨hf.2,λF h l a i n hl ok=>a4_ hf.1 (J_y rfl) ?_⟩
 show vc P (y9_ g k).code ⟨[(0,.agg a),(1,.int .i64 i),(2,.int .i64 n)],[],h⟩ (b2_ (y9_ g k).res _)
 have hl0:=hl
 simp only[Log.c,RdL,Rd]at hl
 obtain⟨_,_,rfl,rfl,_,_,rfl,rfl,d,_,rfl,hl,rfl⟩:=hl
 have ok':=ok
 obtain⟨o1,o2,o3⟩:=ok
 have o4:=o3.1
 simp only[y9_,go_sem,reduceEqDiff,reduceAdd,reduceLeDiff,hl.scalar]
 refine a1_ ⟨hg.1,hg.2 F _ l _ (hl0.up (Ext.b1 _)) ok'⟩ ?_
 rintro _ _ ⟨rfl,rfl⟩
 have hlast:l.last=l.base+l.es.length:=rfl
 by_cases h1:i<=l.base
 ·have c1:decide (i<=l.base)=true:=decide_eq_true h1
  simp only[go_sem,reduceEqDiff,decide_true,Log.slice,h1]
  exact⟨Own.nils 3,trivial,Ext.b1 _⟩
 have c1:decide (i<=l.base)=false:=decide_eq_false h1
 by_cases h2:l.last<i
 ·have c2:decide (l.last<i)=true:=decide_eq_true h2
  simp only[go_sem,reduceEqDiff,decide_true,c1,Log.slice,h2]
  exact⟨Own.nils 3,trivial,Ext.b1 _⟩
 have c2:decide (l.last<i)=false:=decide_eq_false h2
 by_cases h3:n<1
 ·have c3:decide (n<1)=true:=decide_eq_true h3
  simp only[go_sem,reduceEqDiff,decide_true,c1,c2,Log.slice,h3]
  exact⟨Own.nils 3,trivial,Ext.b1 _⟩
 have c3:decide (n<1)=false:=decide_eq_false h3
 have e1:IntKind.i64.wrap (i-l.base)=i-l.base:=a7_ (by omega)
 have e2:IntKind.i64.wrap (i-l.base-1)=i-l.base-1:=a7_ (by omega)
 obtain⟨q,hq,hqr⟩:=hl.slice (lo:=some (i-l.base-1)) (hi:=none) (mx:=none) (by simp;omega) (by simp;omega) (by simp) (by simp) (by simp) (by simp)
 simp only[K_v,L_r,L_b,K_y]at hqr
 have lq:=hqr.len
 simp only[K_o,K_p]at lq
 obtain⟨q2,hq2,hqr2⟩:=hqr.slice (lo:=none) (hi:=some (min n (↑(l.es.length-(i-l.base-1).toNat):Int))) (mx:=none) (by simp) (by simp;omega) (by simp;omega) (by simp) (by simp;omega) (by simp)
 simp only[K_v,L_r,Int.toNat_zero,L_d]at hqr2
 simp only[go_sem,reduceEqDiff,reduceAdd,c1,c2,c3,e1,e2,s_a,hq,lq,F2_,K1_,hq2]
 have hs:l.slice i n=(l.es.drop (i-l.base-1).toNat).take (min n ↑(l.es.length-(i-l.base-1).toNat)).toNat:=by
  simp only[Log.slice]
  rw[if_neg (by omega),List.take_eq_take_iff]
  simp only[K_o];omega
 have hr2:Rd F h (b7_ (l.slice i n)) q2:=by
  rw[hs,b7_,L_7,M_r];exact hqr2
 refine a1_ ⟨hk.1,hk.2 F _ (l.slice i n) q2 (hr2.up (Ext.b1 _)) (o3.sub (by rw[hs];simp;omega) (λe he=>by rw[hs]at he;exact K_z (L_g he)))⟩ ?_
 rintro r h' ⟨hr,hc,he⟩
 simp only[go_sem,reduceEqDiff]
 exact⟨Own.mono _ (λm hm=>by simp at hm;omega) (λ_ _ _ x=>x) _ hr,hc,(Ext.b1 _).tr he⟩
def Log.agree (l:Log):Int->List e0_->Nat
 | _,[]=>0
 | at_,e :: r=>if (l.has at_ && decide (l.term at_=e.term))=true then l.agree (at_+1) r+1 else 0
theorem n_5 (l : Log) : ∀ (e : List e0_) (i : Int), l.agree i e <= e.length := by
  intro e
  induction e with
  | nil => intro i; simp [Log.agree]
  | cons x r ih => intro i; simp only [Log.agree]; split
                   · have := ih (i + 1); simp; omega
                   · simp
theorem n_6 (l:Log):∀(e:List e0_)(i:Int)(k:Nat),k<=e.length->(∀(j:Nat)(hj:j<e.length),j<k->(l.has (i+j) && decide (l.term (i+j)=e[j].term))=true)->
  (∀hk:k<e.length,(l.has (i+k) && decide (l.term (i+k)=e[k].term))=false)->l.agree i e=k:=by
 intro e
 induction e with
 | nil=>intro i k hk _ _;simp at hk;subst hk;rfl
 | cons x r ih=>
  intro i k hk h1 h2
  cases k with
  | zero=>
   have:=h2 (by simp)
   simp only[Log.agree]
   simp at this ⊢
   exact this
  | succ k=>
   have h0:=h1 0 (by simp) (by omega)
   simp only[Log.agree]
   simp only[M_n,Int.add_zero,L_5]at h0
   rw[if_pos h0,ih (i+1) k (by simpa using hk)]
   ·intro j hj hj'
    have:=h1 (j+1) (by simpa using hj) (by omega)
    simp only[List.getElem_cons_succ]at this
    rw[show i+1+(j:Int)=i+((j+1:Nat):Int) by omega];exact this
   ·intro hk'
    have:=h2 (by simpa using hk')
    simp only[List.getElem_cons_succ]at this
    rw[show i+1+(k:Int)=i+((k+1:Nat):Int) by omega];exact this
def Log.laid (l:Log)(prev:Int)(e:List e0_):Log:=
 if l.has prev=true/\l.agree (prev+1) e<e.length then ⟨l.base,l.bterm,l.es.take (prev+l.agree (prev+1) e-l.base).toNat++e.drop (l.agree (prev+1) e)⟩ else l
def Log.laidAt (l:Log)(prev:Int)(e:List e0_):Int:=
 if l.has prev=true/\l.agree (prev+1) e<e.length then prev+1+l.agree (prev+1) e else 0
def c_d (P:Program)(f:FuncId):Prop:=
 f2_ P f=true/\∀(F:Nat->Prop)(h:a0_)(l:Log)(a:List AV)(prev:Int)(e:List e0_)(b:AV),RdL F h l.c a->Rd F h (b7_ e) b->E3_ l->i0_ e->
  a6_ P f [.agg a,.int .i64 prev,b] h λr h'=>∃cs,r=.tup [.agg cs,.int .i64 (l.laidAt prev e)]/\g2_ (l.laid prev e).c (λm=>h.length<=m) h' cs/\Ext nof h h'
theorem e_h {P:Program}{f g k t:FuncId}(hf:Is P f (w6_ g k t))(hg:Z2_ P g)(hk:B9_ P k)(ht:R3_ P t):c_d P f:=by
 refine⟨hf.2,λF h l a prev e b hl hb ok oke=>a4_ hf.1 (J_y rfl) ?_⟩
 show vc P (w6_ g k t).code ⟨[(0,.agg a),(1,.int .i64 prev),(2,b)],[],h⟩ (b2_ (w6_ g k t).res _)
 have hl0:=hl
 simp only[Log.c,RdL,Rd]at hl
 obtain⟨_,_,rfl,rfl,_,_,rfl,rfl,d,_,rfl,hl,rfl⟩:=hl
 have ok':=ok
 obtain⟨o1,o2,o3⟩:=ok
 have o4:=o3.1
 have lb:=hb.len
 simp only[K_p]at lb
 have hlast:l.last=l.base+l.es.length:=rfl
 simp only[w6_,go_sem,reduceEqDiff,reduceAdd,reduceLeDiff,hl.scalar]
 refine a1_ ⟨hg.1,hg.2 F _ l _ (hl0.up (Ext.b2 _ _)) ok'⟩ ?_
 rintro _ _ ⟨rfl,rfl⟩
 simp only[go_sem,reduceEqDiff,reduceAdd]
 refine a1_ ⟨hk.1,hk.2 F _ l.es d (hl.up (Ext.b2 _ _)) o3⟩ ?_
 rintro r h2 ⟨hr,hrc,he⟩
 have hA:=he.get (b_z _ _ _)
 have hB:=he.get (O1_ _ _ _)
 have l1:=(J_w.1 hA).1
 have l2:=(J_w.1 hB).1
 simp only[go_sem,reduceEqDiff,reduceAdd,reduceLeDiff,hA,hr.scalar,b5_ hr.scalar,l1]
 have he3:Ext nof h (h2.set h.length (some (.arr 3 [[.int .i64 l.base,.int .i64 l.bterm,r]] false))):=((Ext.b2 _ _).tr he).setNew (J_4 _) _
 have hr3:Own (b7_ l.es) (λm=>h.length+2<=m) (h2.set h.length (some (.arr 3 [[.int .i64 l.base,.int .i64 l.bterm,r]] false))) r:=
  Own.mono _ (λm hm=>by simp at hm;omega) (λm hm y hy=>by simp at hm;rw[J_x (by omega)];exact hy) _ hr
 have hc3:d2_ (h2.set h.length (some (.arr 3 [[.int .i64 l.base,.int .i64 l.bterm,r]] false))) r:=
  hrc.keep hr (λm hm y hy=>by simp at hm;rw[J_x (by omega)];exact hy)
 have hA3:(h2.set h.length (some (.arr 3 [[.int .i64 l.base,.int .i64 l.bterm,r]] false)))[h.length]?=some (some (.arr 3 [[.int .i64 l.base,.int .i64 l.bterm,r]] false)):=J_0 l1
 have hB3:(h2.set h.length (some (.arr 3 [[.int .i64 l.base,.int .i64 l.bterm,r]] false)))[h.length+1]?=some (some (.arr 3 [[.int .i64 0,.int .i64 0,.nils]] false)):=by
  rw[J_x (by omega)];exact hB
 generalize h2.set h.length (some (.arr 3 [[.int .i64 l.base,.int .i64 l.bterm,r]] false))=h3 at *
 have l13:=(J_w.1 hA3).1
 have l23:=(J_w.1 hB3).1
 have hrl:RdL (λm=>h.length+2<=m) h3 l.c [.int .i64 l.base,.int .i64 l.bterm,r]:=by
  simp only[Log.c,RdL,Rd]
  exact⟨_,_,rfl,rfl,_,_,rfl,rfl,_,_,rfl,Own.rd _ (λ_ x=>x) _ hr3,rfl⟩
 have stay:l.laid prev e=l->Own (b7_ l.es) (λm=>h.length+2<=m) h3 r->g2_ (l.laid prev e).c (λm=>h.length<=m) (h3.set (h.length+1) (some (.arr 3 [[.int .i64 l.base,.int .i64 l.bterm,r]] false))) [.int .i64 l.base,.int .i64 l.bterm,r]:=by
  intro e1 e2
  rw[e1]
  simp only[Log.c,g2_,Own]
  exact⟨_,_,rfl,rfl,_,_,rfl,rfl,_,_,rfl,Own.mono _ (λm hm=>by omega) (λm hm y hy=>by rw[J_x (by omega)];exact hy) _ e2,rfl⟩
 by_cases h1:prev<l.base
 ·have hh:l.has prev=false:=by simp[Log.has];omega
  simp only[go_sem,reduceEqDiff,reduceAdd,reduceLeDiff,decide_eq_true h1,hA3,hB3,hr3.scalar,l23]
  have e1:l.laid prev e=l:=by simp[Log.laid,hh]
  have e2:l.laidAt prev e=0:=by simp[Log.laidAt,hh]
  rw[e2]
  exact⟨_,rfl,stay e1 hr3,he3.setNew (by omega) _⟩
 by_cases h2:l.last<prev
 ·have hh:l.has prev=false:=by simp[Log.has];omega
  simp only[go_sem,reduceEqDiff,reduceAdd,reduceLeDiff,decide_eq_false h1,decide_eq_true h2,hA3,hB3,hr3.scalar,l23]
  have e1:l.laid prev e=l:=by simp[Log.laid,hh]
  have e2:l.laidAt prev e=0:=by simp[Log.laidAt,hh]
  rw[e2]
  exact⟨_,rfl,stay e1 hr3,he3.setNew (by omega) _⟩
 have hh:l.has prev=true:=by simp[Log.has];omega
 have oe:=oke.1
 simp only[go_sem,reduceEqDiff,decide_eq_false h1,decide_eq_false h2,lb]
 refine e8_ (λm L h'=>∃i:Nat,lk 1 L=.int .i64 prev/\lk 2 L=b/\lk 3 L=.ptr h.length 3 0 0/\lk 6 L=.ptr (h.length+1) 3 0 0/\lk 35 L=.int .i64 e.length/\lk 36 L=.int .i64 i/\h'=h3/\i<=e.length/\m=e.length-i /\
  ∀(j:Nat)(hj:j<e.length),j<i->(l.has (prev+1+j) && decide (l.term (prev+1+j)=e[j].term))=true) e.length ?_ ?_
 ·exact⟨0,by simp[a3_,c9_],by simp[a3_,c9_],by simp[a3_],by simp[a3_],by simp[a3_],by simp[a3_],rfl,by omega,by omega,by omega⟩
 ·rintro m L h' ⟨i,k1,k2,k3,k6,k35,k36,rfl,hi,rfl,hj⟩
  have hb3:Rd F h' (b7_ e) b:=hb.up he3
  simp only[L8_,go_sem,k35,k36]
  by_cases hc:i<e.length
  ·have c1:decide ((i:Int)<e.length)=true:=decide_eq_true (by omega)
   have e1:IntKind.i64.wrap (prev+1)=prev+1:=a7_ (by omega)
   have e2:IntKind.i64.wrap (prev+1+↑i)=prev+1+↑i:=a7_ (by omega)
   have e3:IntKind.i64.wrap (↑i+1)=(i:Int)+1:=a7_ (by omega)
   simp only[go_sem,reduceEqDiff,reduceAdd,reduceLeDiff,k1,k3,k36,c1,e1,e2,hA3]
   refine a1_ ⟨ht.1,ht.2 _ _ l _ (prev+1+↑i) hrl ok'⟩ ?_
   rintro _ _ ⟨rfl,rfl⟩
   obtain⟨p,cs,hp,hpc,hcs⟩:=hb3.index .i64 (i:=(i:Int)) (d:=(e[i]).c) (by omega) (by rw[L_b,K_s,J_5 hc];rfl)
   simp only[e0_.c,RdL,Rd]at hcs
   obtain⟨_,_,rfl,rfl,_,_,rfl,rfl,d',_,rfl,_,rfl⟩:=hcs
   by_cases hm:(l.has (prev+1+i) && decide (l.term (prev+1+i)=e[i].term))=true
   ·have hm':=hm
    rw[K_g]at hm'
    simp only[go_sem,reduceEqDiff,k1,k2,k3,k6,k35,k36,hm'.1,hm'.2,hp,K9_ hpc,E2_ hpc,e3]
    refine⟨_,?_,i+1,by simp,hc,rfl,λj hj1 hj2=>?_⟩
    ·omega
    ·rcases L_3 j i with hlt | hge
     ·exact hj j hj1 hlt
     ·obtain rfl:j=i:=by omega
      exact hm
   ·have hag:l.agree (prev+1) e=i:=n_6 l e (prev+1) i hi hj (λ_=>by simpa using hm)
    have hpi:prev+i<=l.last:=by
     rcases Nat.eq_zero_or_pos i with h0 | h0
     ·omega
     ·have:=hj (i-1) (by omega) (by omega)
      simp only[Log.has,K_g,decide_eq_true_eq]at this
      omega
    have e4:IntKind.i64.wrap (prev+1+↑i-l.base)=prev+1+↑i-l.base:=a7_ (by omega)
    have e5:IntKind.i64.wrap (prev+1+↑i-l.base-1)=prev+1+↑i-l.base-1:=a7_ (by omega)
    obtain⟨q,hq,hqo,hqc⟩:=P5_ hr3 (k:=prev+1+↑i-l.base-1) (by omega) (by simp;omega)
    obtain⟨q2,hq2,hq2r⟩:=hb3.slice (lo:=some (i:Int)) (hi:=none) (mx:=none) (by simp) (by simp;omega) (by simp) (by simp) (by simp) (by simp)
    simp only[K_v,L_r,L_b,K_y]at hq2r
    rw[<-M_r]at hq2r
    have hx:l.has (prev+1+↑i)=false\/(l.has (prev+1+↑i)=true/\decide (l.term (prev+1+↑i)=e[i].term)=false):=by
     cases hh1:l.has (prev+1+↑i)
     ·exact .inl rfl
     ·rw[hh1,M_q]at hm
      exact .inr ⟨rfl,by simpa using hm⟩
    rcases hx with hx | hx
    all_goals
     simp only[go_sem,reduceEqDiff,reduceAdd,k2,k3,hx,hp,K9_ hpc,E2_ hpc,hA3,e4,e5,hq,hq2]
     refine a1_ ⟨hk.1,hk.2 F _ (e.drop i) q2 hq2r (oke.sub (by simp) (λx hx=>K_z hx))⟩ ?_
     rintro r2 h4 ⟨hr2,_,he4⟩
     obtain⟨ys,hys,hyo⟩:=hr2.elems
     obtain⟨r5,h5,ha5,ho5,_,he5⟩:=G6_ (bytes:=40) hqo hqc he4 hyo (by omega) (by simp;omega)
     have ha5':=c6_ hys 40 q
     rw[ha5]at ha5'
     have hA4:=he4.get hA3
     have hA5:h5[h.length]?=some (some (.arr 3 [[.int .i64 l.base,.int .i64 l.bterm,r]] false)):=by rw[he5.2 _ (J_w.1 hA4).1 (by omega)];exact hA4
     have hB4:=he4.get hB3
     have hB5:h5[h.length+1]?=some (some (.arr 3 [[.int .i64 0,.int .i64 0,.nils]] false)):=by rw[he5.2 _ (J_w.1 hB4).1 (by omega)];exact hB4
     have l15:=(J_w.1 hA5).1
     have l25:=(J_w.1 hB5).1
     simp only[go_sem,reduceEqDiff,reduceAdd,reduceLeDiff,reducePow,reduceDiv,reduceMod,decide_true,k3,k6,hA4,ha5',hA5,hB5,ho5.scalar,b5_ ho5.scalar,l15,l25,J_2]
     have el:l.laid prev e=⟨l.base,l.bterm,l.es.take (prev+1+↑i-l.base-1).toNat++e.drop i⟩:=by
      simp only[Log.laid,hag]
      rw[if_pos ⟨hh,hc⟩]
      congr 3;omega
     have el2:l.laidAt prev e=prev+1+↑i:=by
      simp only[Log.laidAt,hag]
      rw[if_pos ⟨hh,hc⟩]
     rw[el2,el]
     refine⟨_,rfl,?_,?_⟩
     ·simp only[Log.c,g2_,Own]
      refine⟨_,_,rfl,rfl,_,_,rfl,rfl,r5,_,rfl,?_,rfl⟩
      rw[b7_,K_8,L_7]
      exact Own.mono _ (λm hm=>by omega) (λm hm y hy=>by rw[J_x (by omega),J_x (by omega)];exact hy) _ ho5
     ·exact (((he3.tr he4).then he5 (λm hm hm'=>by omega)).setNew (by omega) _).setNew (by omega) _
  ·have c1:decide ((i:Int)<e.length)=false:=decide_eq_false (by omega)
   simp only[go_sem,reduceEqDiff,reduceAdd,reduceLeDiff,k3,k6,c1,hA3,hB3,hr3.scalar,l23]
   have hag:l.agree (prev+1) e=i:=n_6 l e (prev+1) i hi hj (λhk=>absurd hk hc)
   have e1:l.laid prev e=l:=by simp only[Log.laid];rw[if_neg (by omega)]
   have e2:l.laidAt prev e=0:=by simp only[Log.laidAt];rw[if_neg (by omega)]
   rw[e2]
   exact⟨_,rfl,stay e1 hr3,he3.setNew (by omega) _⟩
def Log.cut (l:Log)(b:Int):Log:=if l.has b then ⟨b,l.term b,l.es.drop (b-l.base).toNat⟩ else ⟨0,0,[]⟩
def v_k (P:Program)(f:FuncId):Prop:=
 f2_ P f=true/\∀(F:Nat->Prop)(h:a0_)(l:Log)(a:List AV)(i:Int),RdL F h l.c a->E3_ l->
  a6_ P f [.agg a,.int .i64 i] h λr h'=>∃cs,r=.tup [.agg cs,.int .i64 (if l.has i then 0 else 3)]/\g2_ (l.cut i).c (λm=>h.length<=m) h' cs/\Ext nof h h'
theorem c_x {P:Program}{f t k:FuncId}(hf:Is P f (I4_ t k))(ht:R3_ P t)(hk:B9_ P k):v_k P f:=by
 refine⟨hf.2,λF h l a i hl ok=>a4_ hf.1 (J_y rfl) ?_⟩
 show vc P (I4_ t k).code ⟨[(0,.agg a),(1,.int .i64 i)],[],h⟩ (b2_ (I4_ t k).res _)
 have hl0:=hl
 simp only[Log.c,RdL,Rd]at hl
 obtain⟨_,_,rfl,rfl,_,_,rfl,rfl,d,_,rfl,hl,rfl⟩:=hl
 have ok':=ok
 obtain⟨o1,o2,o3⟩:=ok
 have o4:=o3.1
 have hlast:l.last=l.base+l.es.length:=rfl
 simp only[I4_,go_sem,reduceEqDiff,reduceAdd,reduceLeDiff,hl.scalar]
 refine a1_ ⟨ht.1,ht.2 F _ l _ i (hl0.up (Ext.b2 _ _)) ok'⟩ ?_
 rintro _ _ ⟨rfl,rfl⟩
 cases hh:l.has i
 ·simp only[go_sem,reduceEqDiff,reduceAdd,reduceLeDiff]
  refine⟨_,rfl,?_,Ext.b2 _ _⟩
  simp only[Log.cut,hh,Log.c,g2_,Own]
  exact⟨_,_,rfl,rfl,_,_,rfl,rfl,_,_,rfl,Own.nils 3,rfl⟩
 ·have hi:l.base<=i/\i<=l.last:=by simpa [Log.has] using hh
  have e1:IntKind.i64.wrap (i-l.base)=i-l.base:=a7_ (by omega)
  obtain⟨q,hq,hqr⟩:=hl.slice (lo:=some (i-l.base)) (hi:=none) (mx:=none) (by simp;omega) (by simp;omega) (by simp) (by simp) (by simp) (by simp)
  simp only[K_v,L_r,L_b,K_y]at hqr
  rw[<-M_r]at hqr
  simp only[go_sem,reduceEqDiff,reduceAdd,e1,hq]
  refine a1_ ⟨hk.1,hk.2 F _ (l.es.drop (i-l.base).toNat) q (Rd.up hqr (Ext.b2 _ _)) (o3.sub (by simp) (λx hx=>K_z hx))⟩ ?_
  rintro r h2 ⟨hr,_,he⟩
  have hB:=he.get (O1_ _ _ _)
  have l2:=(J_w.1 hB).1
  simp only[go_sem,reduceEqDiff,reduceAdd,reduceLeDiff,hB,hr.scalar,b5_ hr.scalar,l2]
  refine⟨_,rfl,?_,((Ext.b2 _ _).tr he).setNew (by omega) _⟩
  simp only[Log.cut,hh,Log.c,g2_,Own]
  refine⟨_,_,rfl,rfl,_,_,rfl,rfl,r,_,rfl,?_,rfl⟩
  exact Own.mono _ (λm hm=>by simp at hm;omega) (λm hm y hy=>by simp at hm;rw[J_x (by omega)];exact hy) _ hr
end Glb
