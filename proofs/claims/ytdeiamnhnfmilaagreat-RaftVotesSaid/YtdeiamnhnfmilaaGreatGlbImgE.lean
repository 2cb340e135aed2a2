/-
  A library of its own.
-/
import Derived.Test.YtdeiamnhnfmilaaGreatGlbImgD
import Derived.Test.YtdeiamnhnfmilaaGreatGlbLogA
set_option linter.unusedSimpArgs false
set_option linter.unusedVariables false
set_option maxRecDepth 10000
set_option maxHeartbeats 16000000
open Nat (reduceAdd reduceDiv reduceEqDiff reduceLeDiff reduceMod reducePow)
namespace Glb
open Go
theorem o_y (es:List (List AV))(p:Nat):e1_ es p []=es:=by simp[e1_]
theorem v_6 {h:a0_}{n:Nat}{x:Option a5_} (hn:h[n]?=some x):h.set n x=h:=by
 apply K_0
 intro i
 rw[L_t]
 split
 ·rename_i e;subst e;rw[hn];simp[(J_w.1 hn).1]
 ·rfl
theorem x_u {h h':a0_}{sz bytes:Nat}{av av':AV}{ys:List (List AV)}(hfull:∀n off len cap,av=.ref n sz off len cap->cap=some len)(e:d3_ h sz bytes av ys=some (av',h')):Ext nof h h':=by
 have a1:∀es,Ext nof h (c0_ h sz es).2:=λes=>Ext.app _ _ _
 cases av with
 | nils=>
  simp only[d3_]at e
  split at e
  ·cases e;exact a1 _
  ·cases e
 | vals t clip sz' es=>
  simp only[d3_]at e
  split at e
  ·split at e
   ·cases e;exact Ext.refl _ _
   ·split at e
    ·cases e;exact a1 _
    ·cases e
  ·cases e
 | ref n sz' off len cap=>
  simp only[d3_]at e
  split at e
  ·rename_i sz'' es g hrow
   split at e
   ·rename_i hc
    obtain⟨h1,h2,h3,h4⟩:=hc
    subst h1
    obtain rfl:=hfull _ _ _ _ rfl
    cases len with
    | zero=>
     simp only[if_true]at e
     split at e
     ·cases e;exact Ext.refl _ _
     ·cases e;exact a1 _
    | succ c=>
     simp only at e
     split at e
     ·cases e;exact a1 _
     ·have:ys=[]:=J_3 (by omega)
      subst this
      split at e
      ·cases e
       rw[o_y,v_6 (by rw[hrow,h2])]
       exact Ext.refl _ _
      ·cases e
   ·cases e
  ·cases e
 | _=>simp[d3_]at e
theorem Y5_ {sz : Nat} {av av' : AV} {k : Int} (e : j9_ sz av none (some k) (some k) = some av') : ∀ n off len cap, av' = .ref n sz off len cap -> cap = some len := by
 intro n off len cap ha
 subst ha
 cases av with
 | nils => simp [j9_] at e
 | vals t clip sz' es => simp only [j9_] at e; split at e <;> cases e
 | ref m sz' off' len' cap' =>
  simp only [j9_, L_r, K_v, if_true] at e
  split at e
  ·simp only [Option.some.injEq, AV.ref.injEq, g3_] at e
   obtain ⟨_, _, _, e1, e2⟩ := e
   rw [<- e2, <- e1]; simp
  ·cases e
 | _ => simp [j9_] at e
theorem J8_ {sz bytes:Nat}{F G:Nat->Prop}{ds es:List (List D)}{h0 h:a0_}{av:AV}{ys:List (List AV)}(ho:Own (.sl sz ds) F h0 av)(hc:d2_ h0 av)(hfull:∀n off len cap,av=.ref n sz off len cap->cap=some len)
  (hx:Ext nof h0 h) (hy:a8_ es G h ys) (hN:∀n off len cap,av=.ref n sz off len cap->¬G n) (hb:(ds.length+es.length)*bytes<=2^46):
  ∃av' h',d3_ h sz bytes av ys=some (av',h')/\Own (.sl sz (ds++es)) (λm=>F m\/G m\/h.length<=m) h' av'/\d2_ h' av'/\Ext nof h h':=by
 obtain⟨av',h',s1,s2,s3,s4,s5⟩:=b_6 (bytes:=bytes) (F:=λm=>F m\/G m\/h.length<=m) (G:=G) (Own.mono _ (λm hm=>.inl hm) (λ_ _ _ x=>x) _ ho) hc hx hy (λm hm=>.inr (.inl hm)) hN (.inr (.inr (J_4 _))) hb
 exact⟨av',h',s1,s2,s3,x_u hfull s1⟩
theorem k_r {F:Nat->Prop}{h:a0_}:∀{ds:List (List D)} {es:List (List AV)} (j:Nat) {d:List D} {cs:List AV},a8_ ds F h es->g2_ d F h cs->a8_ (ds.set j d) F h (es.set j cs)
 | [],es,j,d,cs,hh,hd=>by simp only[a8_]at hh;subst hh;simp[a8_]
 | e :: ds,es,0,d,cs,hh,hd=>by obtain⟨a,r,rfl,h1,h2⟩:=hh;exact⟨_,_,rfl,hd,h2⟩
 | e :: ds,es,j+1,d,cs,hh,hd=>by obtain⟨a,r,rfl,h1,h2⟩:=hh;exact⟨_,_,rfl,h1,k_r j h2 hd⟩
theorem o_d {F:Nat->Prop}{h:a0_}:∀{ds:List (List D)} {es:List (List AV)} {j:Nat} {d:List D},a8_ ds F h es->ds[j]?=some d->∃cs,es[j]?=some cs/\g2_ d F h cs
 | [],es,j,d,hh,hd=>by simp at hd
 | e :: ds,es,0,d,hh,hd=>by obtain⟨a,r,rfl,h1,h2⟩:=hh;simp only[K_k,Option.some.injEq]at hd;subst hd;exact⟨a,rfl,h1⟩
 | e :: ds,es,j+1,d,hh,hd=>by obtain⟨a,r,rfl,h1,h2⟩:=hh;simp only[K_5]at hd ⊢;exact o_d h2 hd
theorem g_g {sz:Nat}{ds:List (List D)}{F:Nat->Prop}{h:a0_}{a:AV}{j:Nat}{d0:List D}(ho:Own (.sl sz ds) F h a) (hj:ds[j]?=some d0):
  ∃n off row g cs len cap,a=.ref n sz off len cap/\F n/\q9_ sz a (.int .i64 j)=some (.ptr n sz (off+j) 0)/\h[n]?=some (some (.arr sz row g))/\row[off+j]?=some cs/\g2_ d0 (λm=>F m/\m≠n) h cs /\
   ∀(F':Nat->Prop)(h':a0_)(d:List D)(cs':List AV),(∀m,F m->F' m)->v4_ (λm=>F m/\m≠n) h h'->h'[n]?=h[n]?->g2_ d (λm=>F' m/\m≠n) h' cs'->Own (.sl sz (ds.set j d)) F' (h'.set n (some (.arr sz (row.set (off+j) cs') g))) a:=by
 have hjl:=(J_w.1 hj).1
 simp only[Own]at ho
 rcases ho with⟨rfl,rfl⟩ | ⟨t,c,rfl,rfl⟩ | ⟨n,off,cap,row,g,rfl,hn,hrow,hle,hcl,hd⟩
 ·simp at hjl
 ·simp at hjl
 obtain⟨cs,hc1,hc2⟩:=o_d hd hj
 rw[K_7,if_pos hjl,K_m]at hc1
 refine⟨n,off,row,g,cs,ds.length,cap,rfl,hn,?_,hrow,hc1,hc2,λF' h' d cs' hF hk hn' hd'=>?_⟩
 ·simp only[q9_];rw[if_pos ⟨trivial,by omega,by omega⟩];simp
 ·have hlt:=(J_w.1 (hn'.trans hrow)).1
  simp only[Own]
  refine .inr (.inr ⟨n,off,cap,_,g,by rw[J_2],hF _ hn,J_0 hlt,by rw[J_2,J_2];exact hle,by rw[J_2];exact hcl,?_⟩)
  have e:((row.set (off+j) cs').drop off).take (ds.set j d).length=((row.drop off).take ds.length).set j cs':=by
   rw[J_2]
   apply K_0
   intro i
   simp only[K_7,K_m,L_t,K_i,K_o]
   by_cases e1:i<ds.length
   ·rw[if_pos e1]
    by_cases e2:j=i
    ·subst e2
     rw[if_pos rfl,if_pos rfl,if_pos (by omega),if_pos (by omega)]
    ·rw[if_neg (by omega),if_neg e2,if_pos e1]
   ·rw[if_neg e1,if_neg (by omega),if_neg e1]
  rw[e]
  have hd1:a8_ ds (λm=>F' m/\m≠n) h' ((row.drop off).take ds.length):=a8_.mono _ (λm x=>⟨hF _ x.1,x.2⟩) hk _ hd
  exact a8_.mono _ (λ_ x=>x) (λm hm y hy=>by rw[J_x (λe=>hm.2 e.symm)];exact hy) _ (k_r j hd1 hd')
def d7_.snapped (x:d7_)(c:b9_):Log:=if x.log.has c.log.base=true/\x.log.term c.log.base=c.log.bterm then x.log.cut c.log.base else ⟨c.log.base,c.log.bterm,[]⟩
def d7_.turned (x:d7_)(c:b9_):d7_×Int:=
 if c.kind=1 then ({x with term:=c.term,vote:=c.voted},0)
 else if c.kind=2 then (if c.from_<=x.log.base\/x.log.last+1<c.from_ then (x,3) else ({x with log:=⟨x.log.base,x.log.bterm,x.log.es.take (c.from_-x.log.base-1).toNat++c.log.es⟩},0))
 else if c.kind=3 then ({x with log:=x.snapped c,conf:=c.conf,snap:=c.snap},0)
 else (x,0)
def b9_.cells (x:b9_)(e o n l s:AV):List AV:=[.int .i64 x.kind,.int .i64 x.group,.int .i64 x.term,.int .i64 x.voted,.int .i64 x.from_,.int .i64 x.log.base,.int .i64 x.log.bterm,e,o,n,l,s,.int .i64 x.vote.txn,.int .i64 x.vote.part,.int .i64 x.vote.promised,.int .i64 x.vote.ballot,.int .i64 x.vote.value]
theorem c_0 {x:d7_}{F:Nat->Prop}{h:a0_}{a:List AV}(hh:g2_ x.c F h a):∃e o n l s,a=x.cells e o n l s/\Own (b7_ x.log.es) F h e/\Own (b1_ x.conf.old) F h o/\Own (b1_ x.conf.new) F h n/\Own (b1_ x.conf.learners) F h l/\Own (b3_ x.snap) F h s:=by
 simp only[d7_.c,g2_]at hh
 obtain⟨_,_,rfl,h1,_,_,rfl,h2,_,_,rfl,h3,_,_,rfl,h4,_,_,rfl,h5,e,_,rfl,he,o,_,rfl,ho,n,_,rfl,hn,l,_,rfl,hl,s,_,rfl,hs,rfl⟩:=hh
 simp only[Own]at h1 h2 h3 h4 h5
 subst h1 h2 h3 h4 h5
 exact⟨e,o,n,l,s,rfl,he,ho,hn,hl,hs⟩
theorem c_2 {x:b9_}{F:Nat->Prop}{h:a0_}{a:List AV}(hh:g2_ x.c F h a):∃e o n l s,a=x.cells e o n l s/\Own (b7_ x.log.es) F h e/\Own (b1_ x.conf.old) F h o/\Own (b1_ x.conf.new) F h n/\Own (b1_ x.conf.learners) F h l/\Own (b3_ x.snap) F h s:=by
 simp only[b9_.c,g2_]at hh
 obtain⟨_,_,rfl,h1,_,_,rfl,h2,_,_,rfl,h3,_,_,rfl,h4,_,_,rfl,h5,_,_,rfl,h6,_,_,rfl,h7,e,_,rfl,he,o,_,rfl,ho,n,_,rfl,hn,l,_,rfl,hl,s,_,rfl,hs,_,_,rfl,g1,_,_,rfl,g2,_,_,rfl,g3,_,_,rfl,g4,_,_,rfl,g5,rfl⟩:=hh
 simp only[Own]at h1 h2 h3 h4 h5 h6 h7 g1 g2 g3 g4 g5
 subst h1 h2 h3 h4 h5 h6 h7 g1 g2 g3 g4 g5
 exact⟨e,o,n,l,s,rfl,he,ho,hn,hl,hs⟩
theorem K5_ {x:d7_}{F:Nat->Prop}{h:a0_}{e o n l s:AV}(he:Own (b7_ x.log.es) F h e)(ho:Own (b1_ x.conf.old) F h o)(hn:Own (b1_ x.conf.new) F h n)(hl:Own (b1_ x.conf.learners) F h l)(hs:Own (b3_ x.snap) F h s):g2_ x.c F h (x.cells e o n l s):=
 ⟨_,_,rfl,c3_ _ _ _,_,_,rfl,c3_ _ _ _,_,_,rfl,c3_ _ _ _,_,_,rfl,c3_ _ _ _,_,_,rfl,c3_ _ _ _,_,_,rfl,he,_,_,rfl,ho,_,_,rfl,hn,_,_,rfl,hl,_,_,rfl,hs,rfl⟩
theorem S1_ {F:Nat->Prop}{sz:Nat}{ds:List (List D)}{h:a0_}{a:AV}(ho:Own (.sl sz ds) F h a):∃ys,q2_ h sz a=some ys/\a8_ ds F h ys:=by
 simp only[Own]at ho
 rcases ho with⟨rfl,rfl⟩ | ⟨t,c,rfl,rfl⟩ | ⟨n,off,cap,row,g,rfl,hn,hrow,hle,hcl,hd⟩
 ·exact⟨[],rfl,rfl⟩
 ·exact⟨[],by simp[q2_],rfl⟩
 ·refine⟨(row.drop off).take ds.length,by simp only[q2_,hrow];rw[if_pos ⟨trivial,trivial,hle⟩],a8_.mono _ (λm hm=>hm.1) (λ_ _ _ x=>x) _ hd⟩
theorem w_v {F:Nat->Prop}{sz sz':Nat}{ds:List (List D)}{h:a0_}{n off len:Nat}{cap:Option Nat}(ho:Own (.sl sz ds) F h (.ref n sz' off len cap)):F n:=by
 simp only[Own]at ho
 rcases ho with⟨e,-⟩ | ⟨t,c,e,-⟩ | ⟨n',off',cap',row,g,e,hn,-⟩
 ·cases e
 ·cases e
 ·cases e;exact hn
def y_k (P:Program)(f:FuncId):Prop:=f2_ P f=true/\∀(F G:Nat->Prop)(h:a0_)(x:d7_)(c:b9_)(as cs:List AV),g2_ x.c F h as->g2_ c.c G h cs->(∀m,F m->¬G m)->E3_ x.log->c.log.es.length<=2^32->
 a6_ P f [.agg as,.agg cs] h λr h'=>∃rs,r=.tup [.agg rs,.int .i64 (x.turned c).2]/\g2_ (x.turned c).1.c (λm=>F m\/G m\/h.length<=m) h' rs/\Ext nof h h'
theorem z_l {P : Program} {f la te cu : FuncId} (hf : Is P f (z5_ la te cu)) (hla : Z2_ P la) (hte : R3_ P te) (hcu : v_k P cu) : y_k P f := by
 refine ⟨hf.2, λF G h x c as cs hx hc hd hok hce => a4_ hf.1 (J_y rfl) ?_⟩
 obtain ⟨e, o, n, l, s, rfl, he, ho, hn, hl, hs⟩ := c_0 hx
 obtain ⟨e', o', n', l', s', rfl, he', ho', hn', hl', hs'⟩ := c_2 hc
 show vc P (z5_ la te cu).code ⟨[(0, .agg (x.cells e o n l s)), (1, .agg (c.cells e' o' n' l' s'))], [], h⟩ (b2_ (z5_ la te cu).res _)
 have c10 : (x.cells e o n l s).length = 10 := rfl
 simp only [z5_, d7_.cells, b9_.cells, go_sem, reduceEqDiff, reduceAdd, he.scalar, ho.scalar, hn.scalar, hl.scalar, hs.scalar, he'.scalar, ho'.scalar, hn'.scalar, hl'.scalar, hs'.scalar]
 have X3 := Ext.b3 (h := h) (some (.arr 10 [x.cells e o n l s] false)) (some (.arr 17 [c.cells e' o' n' l' s'] false)) (some (.arr 10 [[.int .i64 0, .int .i64 0, .int .i64 0, .int .i64 0, .int .i64 0, .nils, .nils, .nils, .nils, .nils]] false))
 have upF : ∀ {H : a0_} (d : D) (a : AV), Ext nof h H -> Own d F h a -> Own d (λm => F m \/ G m \/ h.length <= m) H a := λd a ex hh => Own.mono _ (λm hm => .inl hm) (ex.keep F) _ hh
 have upG : ∀ {H : a0_} (d : D) (a : AV), Ext nof h H -> Own d G h a -> Own d (λm => F m \/ G m \/ h.length <= m) H a := λd a ex hh => Own.mono _ (λm hm => .inr (.inl hm)) (ex.keep G) _ hh
 obtain ⟨b0, b1, hsm⟩ := hok
 have hsl := hsm.1
 have hlast : x.log.last = x.log.base + x.log.es.length := rfl
 by_cases k1 : c.kind = 1
 ·simp only [go_sem, reduceEqDiff, reduceAdd, reduceLeDiff, reducePow, reduceDiv, reduceMod, decide_true, decide_eq_true k1, he.scalar, ho.scalar, hn.scalar, hl.scalar, hs.scalar]
  have eg : x.turned c = ({ x with term := c.term, vote := c.voted }, 0) := by simp [d7_.turned, k1]
  rw [eg]
  exact ⟨_, rfl, K5_ (x := { x with term := c.term, vote := c.voted }) (upF _ _ (Ext.b3 _ _ _) he) (upF _ _ (Ext.b3 _ _ _) ho) (upF _ _ (Ext.b3 _ _ _) hn) (upF _ _ (Ext.b3 _ _ _) hl) (upF _ _ (Ext.b3 _ _ _) hs), Ext.b3 _ _ _⟩
 by_cases k2 : c.kind = 2
 ·simp only [go_sem, reduceEqDiff, reduceAdd, reduceLeDiff, decide_eq_false k1, decide_eq_true k2]
  have hR : RdL (λ_ => True) _ x.log.c [.int .i64 x.log.base, .int .i64 x.log.bterm, e] := ⟨_, _, rfl, by simp only [Rd], _, _, rfl, by simp only [Rd], _, _, rfl, Own.rd _ (F' := λ_ => True) (λ_ _ => trivial) _ (upF _ _ X3 he), rfl⟩
  refine j4_ hla.1 (hla.2 _ _ x.log _ hR ⟨b0, b1, hsm⟩) ?_
  have e1 : IntKind.i64.wrap (x.log.last + 1) = x.log.last + 1 := a7_ (by omega)
  simp only [go_sem, reduceEqDiff, reduceAdd]
  by_cases c1 : c.from_ <= x.log.base
  ·simp only [go_sem, reduceEqDiff, reduceAdd, reduceLeDiff, decide_eq_true c1, he.scalar, ho.scalar, hn.scalar, hl.scalar, hs.scalar]
   have eg : x.turned c = (x, 3) := by simp [d7_.turned, k2, c1]
   rw [eg]
   exact ⟨_, rfl, K5_ (x := x) (upF _ _ (Ext.b3 _ _ _) he) (upF _ _ (Ext.b3 _ _ _) ho) (upF _ _ (Ext.b3 _ _ _) hn) (upF _ _ (Ext.b3 _ _ _) hl) (upF _ _ (Ext.b3 _ _ _) hs), Ext.b3 _ _ _⟩
  by_cases c2 : x.log.last + 1 < c.from_
  ·simp only [go_sem, reduceEqDiff, reduceAdd, reduceLeDiff, decide_eq_false c1, e1, decide_eq_true c2, he.scalar, ho.scalar, hn.scalar, hl.scalar, hs.scalar]
   have eg : x.turned c = (x, 3) := by simp [d7_.turned, k2, c2]
   rw [eg]
   exact ⟨_, rfl, K5_ (x := x) (upF _ _ (Ext.b3 _ _ _) he) (upF _ _ (Ext.b3 _ _ _) ho) (upF _ _ (Ext.b3 _ _ _) hn) (upF _ _ (Ext.b3 _ _ _) hl) (upF _ _ (Ext.b3 _ _ _) hs), Ext.b3 _ _ _⟩
  have e2 : IntKind.i64.wrap (c.from_ - x.log.base) = c.from_ - x.log.base := a7_ (by omega)
  have e3 : IntKind.i64.wrap (c.from_ - x.log.base - 1) = c.from_ - x.log.base - 1 := a7_ (by omega)
  have hE : Own (.sl 3 (x.log.es.map e0_.c)) (λm => F m /\ m < h.length) _ e := Own.mono _ (λ_ x => x) (X3.keep _) _ (Own.lt _ _ he)
  have hE' : Own (.sl 3 (c.log.es.map e0_.c)) (λm => G m /\ m < h.length) _ e' := Own.mono _ (λ_ x => x) (X3.keep _) _ (Own.lt _ _ he')
  obtain ⟨av', s1, s2, s3⟩ := P5_ (k := c.from_ - x.log.base - 1) hE (by omega) (by simp; omega)
  obtain ⟨ys, a1, a2⟩ := S1_ hE'
  obtain ⟨o4, H4, t1, t2, t3, t4⟩ := J8_ (bytes := 40) s2 s3 (Y5_ s1) (Ext.refl nof _) a2 (λn off len cap ea hg => by subst ea; exact hd _ (w_v s2).1 hg.1) (by simp only [K_i, K_p]; omega)
  rw [<- c6_ a1] at t1
  have C0 := t4.get (v_s h (some (.arr 10 [x.cells e o n l s] false)) (some (.arr 17 [c.cells e' o' n' l' s'] false)) (some (.arr 10 [[.int .i64 0, .int .i64 0, .int .i64 0, .int .i64 0, .int .i64 0, .nils, .nils, .nils, .nils, .nils]] false)))
  have C1 := t4.get (x_q h (some (.arr 10 [x.cells e o n l s] false)) (some (.arr 17 [c.cells e' o' n' l' s'] false)) (some (.arr 10 [[.int .i64 0, .int .i64 0, .int .i64 0, .int .i64 0, .int .i64 0, .nils, .nils, .nils, .nils, .nils]] false)))
  have C2 := t4.get (B_k h (some (.arr 10 [x.cells e o n l s] false)) (some (.arr 17 [c.cells e' o' n' l' s'] false)) (some (.arr 10 [[.int .i64 0, .int .i64 0, .int .i64 0, .int .i64 0, .int .i64 0, .nils, .nils, .nils, .nils, .nils]] false)))
  have l0 := (J_w.1 C0).1
  have l2 := (J_w.1 C2).1
  have XH : Ext nof h H4 := X3.tr t4
  simp only [d7_.cells] at C0 C2 t1
  simp only [b9_.cells] at C1 t1
  have n02 : (h.length = h.length + 1 + 1) = False := eq_false (by omega)
  have n20 : (h.length + 1 + 1 = h.length) = False := eq_false (by omega)
  simp only [go_sem, reduceEqDiff, reduceAdd, reduceLeDiff, reducePow, reduceDiv, reduceMod, decide_true, decide_eq_false c1, e1, decide_eq_false c2, e2, e3, r_b, s1, t1, C0, C1, C2, l0, l2, n02, J_2, t2.scalar, b5_ t2.scalar, ho.scalar, hn.scalar, hl.scalar, hs.scalar]
  have eg : x.turned c = ({ x with log := ⟨x.log.base, x.log.bterm, x.log.es.take (c.from_ - x.log.base - 1).toNat ++ c.log.es⟩ }, 0) := by simp [d7_.turned, k2, c1, c2]
  rw [eg]
  have XX : Ext nof h ((H4.set h.length (some (.arr 10 [[.int .i64 x.group, .int .i64 x.term, .int .i64 x.vote, .int .i64 x.log.base, .int .i64 x.log.bterm, o4, o, n, l, s]] false))).set (h.length + 1 + 1) (some (.arr 10 [[.int .i64 x.group, .int .i64 x.term, .int .i64 x.vote, .int .i64 x.log.base, .int .i64 x.log.bterm, o4, o, n, l, s]] false))) := (XH.put (J_4 _) _).put (by omega) _
  have l3 := X3.1
  refine ⟨_, rfl, K5_ (x := { x with log := ⟨x.log.base, x.log.bterm, x.log.es.take (c.from_ - x.log.base - 1).toNat ++ c.log.es⟩ }) ?_ (upF _ _ XX ho) (upF _ _ XX hn) (upF _ _ XX hl) (upF _ _ XX hs), XX⟩
  simp only [b7_, K_8, L_7]
  refine Own.mono _ (λm hm => ?_) (λm hm y hy => ?_) _ t2
  ·simp only [J_z, List.length_cons, K_d] at hm
   rcases hm with hm | hm | hm
   ·exact .inl hm.1
   ·exact .inr (.inl hm.1)
   ·exact .inr (.inr (by omega))
  ·simp only [J_z, List.length_cons, K_d] at hm
   rw [J_x (by omega), J_x (by omega)]; exact hy
 by_cases k3 : c.kind = 3
 ·simp only [go_sem, reduceEqDiff, reduceAdd, reduceLeDiff, decide_eq_false k1, decide_eq_false k2, decide_eq_true k3]
  have hR : RdL (λ_ => True) _ x.log.c [.int .i64 x.log.base, .int .i64 x.log.bterm, e] := ⟨_, _, rfl, by simp only [Rd], _, _, rfl, by simp only [Rd], _, _, rfl, Own.rd _ (F' := λ_ => True) (λ_ _ => trivial) _ (upF _ _ X3 he), rfl⟩
  refine j4_ hte.1 (hte.2 _ _ x.log _ c.log.base hR ⟨b0, b1, hsm⟩) ?_
  have eg : x.turned c = ({ x with log := x.snapped c, conf := c.conf, snap := c.snap }, 0) := by simp [d7_.turned, k3]
  rw [eg]
  have nosnap : ¬ (x.log.has c.log.base = true /\ x.log.term c.log.base = c.log.bterm) -> ∀ {H : a0_}, Ext nof h H -> g2_ ({ x with log := x.snapped c, conf := c.conf, snap := c.snap } : d7_).c (λm => F m \/ G m \/ h.length <= m) H [.int .i64 x.group, .int .i64 x.term, .int .i64 x.vote, .int .i64 c.log.base, .int .i64 c.log.bterm, .nils, o', n', l', s'] := by
   intro hns H XX
   have es : x.snapped c = ⟨c.log.base, c.log.bterm, []⟩ := by simp only [d7_.snapped]; rw [if_neg hns]
   rw [es]
   exact K5_ (x := { x with log := ⟨c.log.base, c.log.bterm, []⟩, conf := c.conf, snap := c.snap }) (Own.nils _) (upG _ _ XX ho') (upG _ _ XX hn') (upG _ _ XX hl') (upG _ _ XX hs')
  cases hh : x.log.has c.log.base with
  | false =>
   simp only [go_sem, reduceEqDiff, reduceAdd, reduceLeDiff, reducePow, reduceDiv, reduceMod, decide_true, ho'.scalar, hn'.scalar, hl'.scalar, hs'.scalar, b5_ hs'.scalar]
   exact ⟨_, rfl, nosnap (by simp [hh]) (Ext.b3 _ _ _), Ext.b3 _ _ _⟩
  | true =>
   by_cases ht : x.log.term c.log.base = c.log.bterm
   ·simp only [go_sem, reduceEqDiff, reduceAdd, reduceLeDiff, decide_eq_true ht]
    refine a1_ ⟨hcu.1, hcu.2 _ _ x.log _ c.log.base hR ⟨b0, b1, hsm⟩⟩ ?_
    rintro _ H4 ⟨cs, rfl, oc, t4⟩
    obtain ⟨d, rfl, od⟩ := g_f oc
    have C0 := t4.get (v_s h (some (.arr 10 [x.cells e o n l s] false)) (some (.arr 17 [c.cells e' o' n' l' s'] false)) (some (.arr 10 [[.int .i64 0, .int .i64 0, .int .i64 0, .int .i64 0, .int .i64 0, .nils, .nils, .nils, .nils, .nils]] false)))
    have C1 := t4.get (x_q h (some (.arr 10 [x.cells e o n l s] false)) (some (.arr 17 [c.cells e' o' n' l' s'] false)) (some (.arr 10 [[.int .i64 0, .int .i64 0, .int .i64 0, .int .i64 0, .int .i64 0, .nils, .nils, .nils, .nils, .nils]] false)))
    have C2 := t4.get (B_k h (some (.arr 10 [x.cells e o n l s] false)) (some (.arr 17 [c.cells e' o' n' l' s'] false)) (some (.arr 10 [[.int .i64 0, .int .i64 0, .int .i64 0, .int .i64 0, .int .i64 0, .nils, .nils, .nils, .nils, .nils]] false)))
    have l0 := (J_w.1 C0).1
    have l2 := (J_w.1 C2).1
    have XH : Ext nof h H4 := X3.tr t4
    simp only [d7_.cells] at C0 C2
    simp only [b9_.cells] at C1
    have n01 : (h.length = h.length + 1) = False := eq_false (by omega)
    have n10 : (h.length + 1 = h.length) = False := eq_false (by omega)
    have n02 : (h.length = h.length + 1 + 1) = False := eq_false (by omega)
    have n20 : (h.length + 1 + 1 = h.length) = False := eq_false (by omega)
    simp only [go_sem, reduceEqDiff, reduceAdd, reduceLeDiff, reducePow, reduceDiv, reduceMod, decide_true, C0, C1, C2, l0, l2, n01, n02, J_2, od.scalar, ho'.scalar, hn'.scalar, hl'.scalar, hs'.scalar, b5_ hs'.scalar]
    have es : x.snapped c = x.log.cut c.log.base := by simp only [d7_.snapped]; rw [if_pos ⟨hh, ht⟩]
    rw [es]
    have XX := (((XH.put (n := h.length) (J_4 _) (some (.arr 10 [[.int .i64 x.group, .int .i64 x.term, .int .i64 x.vote, .int .i64 (x.log.cut c.log.base).base, .int .i64 (x.log.cut c.log.base).bterm, d, o, n, l, s]] false))).put (n := h.length) (J_4 _) (some (.arr 10 [[.int .i64 x.group, .int .i64 x.term, .int .i64 x.vote, .int .i64 (x.log.cut c.log.base).base, .int .i64 (x.log.cut c.log.base).bterm, d, o', n', l', s]] false))).put (n := h.length) (J_4 _) (some (.arr 10 [[.int .i64 x.group, .int .i64 x.term, .int .i64 x.vote, .int .i64 (x.log.cut c.log.base).base, .int .i64 (x.log.cut c.log.base).bterm, d, o', n', l', s']] false))).put (n := h.length + 1 + 1) (by omega) (some (.arr 10 [[.int .i64 x.group, .int .i64 x.term, .int .i64 x.vote, .int .i64 (x.log.cut c.log.base).base, .int .i64 (x.log.cut c.log.base).bterm, d, o', n', l', s']] false))
    refine ⟨_, rfl, K5_ (x := { x with log := x.log.cut c.log.base, conf := c.conf, snap := c.snap }) ?_ (upG _ _ XX ho') (upG _ _ XX hn') (upG _ _ XX hl') (upG _ _ XX hs'), XX⟩
    refine Own.mono _ (λm hm => ?_) (λm hm y hy => ?_) _ od
    ·simp only [J_z, List.length_cons, K_d] at hm
     exact .inr (.inr (by omega))
    ·simp only [J_z, List.length_cons, K_d] at hm
     rw [J_x (by omega), J_x (by omega), J_x (by omega), J_x (by omega)]; exact hy
   ·simp only [go_sem, reduceEqDiff, reduceAdd, reduceLeDiff, reducePow, reduceDiv, reduceMod, decide_true, decide_eq_false ht, ho'.scalar, hn'.scalar, hl'.scalar, hs'.scalar, b5_ hs'.scalar]
    exact ⟨_, rfl, nosnap (λhc => ht hc.2) (Ext.b3 _ _ _), Ext.b3 _ _ _⟩
 ·simp only [go_sem, reduceEqDiff, reduceAdd, reduceLeDiff, decide_eq_false k1, decide_eq_false k2, decide_eq_false k3, he.scalar, ho.scalar, hn.scalar, hl.scalar, hs.scalar]
  have eg : x.turned c = (x, 0) := by simp [d7_.turned, k1, k2, k3]
  rw [eg]
  exact ⟨_, rfl, K5_ (x := x) (upF _ _ (Ext.b3 _ _ _) he) (upF _ _ (Ext.b3 _ _ _) ho) (upF _ _ (Ext.b3 _ _ _) hn) (upF _ _ (Ext.b3 _ _ _) hl) (upF _ _ (Ext.b3 _ _ _) hs), Ext.b3 _ _ _⟩
def F9_:List v3_->v3_->List v3_
 | [],v=>[v]
 | a :: r,v=>if a.ahead v=true then a :: F9_ r v else if a.txn=v.txn/\a.part=v.part then v :: r else v :: a :: r
theorem U9_:∀(l:List v3_)(v:v3_)(i:Nat),i<=l.length->(∀(j:Nat)(hj:j<l.length),j<i->l[j].ahead v=true)->(∀hi:i<l.length,l[i].ahead v=false)->
  F9_ l v=l.take i++(match l[i]? with
   | some a=>if a.txn=v.txn/\a.part=v.part then v :: l.drop (i+1) else v :: l.drop i
   | none=>[v])
 | [],v,i,hi,h1,h2=>by simp[F9_]
 | a :: r,v,0,hi,h1,h2=>by
  have:=h2 (by simp)
  simp only[L_5]at this
  simp[F9_,this]
 | a :: r,v,i+1,hi,h1,h2=>by
  have ha:a.ahead v=true:=h1 0 (by simp) (by omega)
  simp only[F9_]
  rw[if_pos ha,U9_ r v i (by simpa using hi) (λj hj hji=>h1 (j+1) (by simpa using hj) (by omega)) (λhi'=>h2 (by simpa using hi'))]
  simp
def o_k (P:Program)(f:FuncId):Prop:=f2_ P f=true/\∀(F:Nat->Prop)(h:a0_)(l:List v3_)(a:AV)(v:v3_)(vs:List AV),Own (A9_ l) F h a->vs=[.int .i64 v.txn,.int .i64 v.part,.int .i64 v.promised,.int .i64 v.ballot,.int .i64 v.value]->l.length<=2^32->
 a6_ P f [a,.agg vs] h λr h'=>Own (A9_ (F9_ l v)) (λm=>F m\/h.length<=m) h' r/\Ext F h h'
theorem u_1 {P : Program} {f g : FuncId} (hf : Is P f (u9_ g)) (hg : n_e P g) : o_k P f := by
 refine ⟨hf.2, λF h l a v vs ho hv hl => a4_ hf.1 (J_y rfl) ?_⟩
 subst hv
 show vc P (u9_ g).code ⟨[(0, a), (1, .agg _)], [], h⟩ (b2_ (u9_ g).res _)
 have hR : Rd (λ_ => True) h (A9_ l) a := Own.rd _ (λ_ _ => trivial) _ ho
 have la : M5_ a = some (.int .i64 l.length) := by simpa using hR.len
 simp only [u9_, go_sem, reduceEqDiff, reduceAdd]
 have X0 := Ext.b1 (h := h) (some (.arr 5 [[.int .i64 v.txn, .int .i64 v.part, .int .i64 v.promised, .int .i64 v.ballot, .int .i64 v.value]] false))
 have A0 := x3_ h (some (.arr 5 [[.int .i64 v.txn, .int .i64 v.part, .int .i64 v.promised, .int .i64 v.ballot, .int .i64 v.value]] false))
 have hR0 := hR.up X0
 have ho0 : Own (A9_ l) (λm => F m /\ m < h.length) _ a := Own.mono _ (λ_ x => x) (X0.keep _) _ (Own.lt _ _ ho)
 have lH : h.length + 1 = (h ++ [some (a5_.arr 5 [[.int .i64 v.txn, .int .i64 v.part, .int .i64 v.promised, .int .i64 v.ballot, .int .i64 v.value]] false)]).length := by simp
 generalize h ++ [some (a5_.arr 5 [[.int .i64 v.txn, .int .i64 v.part, .int .i64 v.promised, .int .i64 v.ballot, .int .i64 v.value]] false)] = H at *
 refine e8_ (λm L h' => ∃ i : Nat, lk 0 L = a /\ lk 3 L = .ptr h.length 5 0 0 /\ lk 5 L = .int .i64 i /\ h' = H /\ i <= l.length /\ m = l.length - i /\ ∀ (j : Nat) (hj : j < l.length), j < i -> l[j].ahead v = true) l.length ?_ ?_
 ·exact ⟨0, by simp [a3_, c9_], by simp [a3_], by simp [a3_], rfl, by omega, by omega, by omega⟩
 ·rintro m L h2 ⟨i, k0, k3, k5, rfl, hi, rfl, hj⟩
  have out : (∀ hi : i < l.length, l[i].ahead v = false) -> True := λ_ => trivial
  by_cases ci : (i : Int) < l.length
  ·have ci' : i < l.length := by omega
   obtain ⟨p, cs, hp1, hp2, hcs⟩ := hR0.index .i64 (i := i) (d := l[i].c) (by omega) (by simp [ci'])
   have r1 := s_f hcs
   have t1 := n2_ hp2 true 5
   rw [V5_, if_pos (by rw [r1]; simp), K_r (by rw [r1]; simp)] at t1
   simp only [x7_, go_sem, reduceEqDiff, reduceAdd, reduceLeDiff, k0, k3, k5, la, decide_eq_true ci, hp1, t1, A0]
   refine j4_ hg.1 (hg.2 h2 l[i] v cs _ r1 rfl) ?_
   have e1 : IntKind.i64.wrap (↑i + 1) = (i : Int) + 1 := a7_ (by omega)
   cases cg : (l[i]).ahead v with
   | true =>
    simp only [go_sem, reduceEqDiff, reduceAdd, reduceLeDiff, reducePow, reduceDiv, reduceMod, decide_true, t1, A0, k0, k3, k5, e1]
    refine ⟨_, by omega, i + 1, by simp, by omega, rfl, λj hj' hji => ?_⟩
    by_cases e : j = i
    ·subst e; exact cg
    ·exact hj j hj' (by omega)
   | false =>
    have hacc := U9_ l v i hi hj (λ_ => cg)
    rw [J_5 ci'] at hacc
    simp only at hacc
    subst r1
    simp only [go_sem, reduceEqDiff, reduceAdd, reduceLeDiff, reducePow, reduceDiv, reduceMod, decide_true, t1, A0, k0, k3, k5, la, decide_eq_true ci, hp1, K9_ hp2, E2_ hp2]
    by_cases c1 : l[i].txn = v.txn
    ·simp only [go_sem, reduceEqDiff, reduceAdd, decide_eq_true c1, A0, k0, k3, k5, hp1, K9_ hp2, E2_ hp2]
     by_cases c2 : l[i].part = v.part
     ·rw [if_pos ⟨c1, c2⟩] at hacc
      simp only [go_sem, reduceEqDiff, reduceAdd, reduceLeDiff, decide_eq_true c2, A0, k0, k3, k5, hp1]
      obtain ⟨n, off, row, gg, cs', len, cap, rfl, hn, hix, hrow, hcs', hit, hput⟩ := g_g (j := i) (d0 := l[i].c) ho0 (by simp [ci'])
      rw [hix] at hp1
      cases hp1
      have hc5 : cs'.length = 5 := by rw [y0_ hit]; rfl
      have st := K8_ (x := .agg [.int .i64 v.txn, .int .i64 v.part, .int .i64 v.promised, .int .i64 v.ballot, .int .i64 v.value]) hrow hcs' rfl (by rw [hc5]; rfl) rfl rfl
      simp only [go_sem, reduceEqDiff, k0, st]
      rw [hacc]
      have es : l.take i ++ v :: l.drop (i + 1) = l.set i v := by rw [List.set_eq_take_append_cons_drop, if_pos ci']
      rw [es]
      have := hput _ h2 v.c _ (λ_ x => x) (λ_ _ _ x => x) rfl ⟨_, _, rfl, c3_ _ _ v.txn, _, _, rfl, c3_ _ _ v.part, _, _, rfl, c3_ _ _ v.promised, _, _, rfl, c3_ _ _ v.ballot, _, _, rfl, c3_ _ _ v.value, rfl⟩
      rw [<- List.map_set] at this
      exact ⟨Own.mono _ (λm hm => .inl hm.1) (λ_ _ _ x => x) _ this, X0.trans (Ext.set _ (λ_ => hn.1)) (λ_ _ x => x.elim) (λ_ _ x => x)⟩
     ·rw [if_neg (λhc => c2 hc.2)] at hacc
      simp only [go_sem, reduceEqDiff, decide_eq_false c2, k0, k5]
      obtain ⟨av', s1, s2, s3⟩ := P5_ (k := (i : Int)) ho0 (by omega) (by simp; omega)
      obtain ⟨bv, u1, u2⟩ := b_5 (k := (i : Int)) ho0 (by omega) (by simp; omega)
      rw [L_b] at s2 u2
      have E5 := Ext.b1 (h := h2) (some (.arr 5 [[.int .i64 v.txn, .int .i64 v.part, .int .i64 v.promised, .int .i64 v.ballot, .int .i64 v.value]] false))
      have u5 := Own.mono (F' := λm => F m /\ m < h.length) _ (λ_ x => x) (E5.keep _) _ u2
      obtain ⟨ys, a1, a2⟩ := S1_ u5
      rw [<- M_r] at a2
      have v1 : g2_ v.c (λm => m = h2.length /\ m ≠ h2.length) (h2 ++ [some (.arr 5 [[.int .i64 v.txn, .int .i64 v.part, .int .i64 v.promised, .int .i64 v.ballot, .int .i64 v.value]] false)]) [.int .i64 v.txn, .int .i64 v.part, .int .i64 v.promised, .int .i64 v.ballot, .int .i64 v.value] := ⟨_, _, rfl, c3_ _ _ _, _, _, rfl, c3_ _ _ _, _, _, rfl, c3_ _ _ _, _, _, rfl, c3_ _ _ _, _, _, rfl, c3_ _ _ _, rfl⟩
      have o1 : Own (.sl 5 [v.c]) (λm => m = h2.length) (h2 ++ [some (.arr 5 [[.int .i64 v.txn, .int .i64 v.part, .int .i64 v.promised, .int .i64 v.ballot, .int .i64 v.value]] false)]) (.ref h2.length 5 0 1 (some 1)) := by
       simp only [Own]
       exact .inr (.inr ⟨h2.length, 0, some 1, _, false, rfl, rfl, x3_ _ _, by simp, (λc hc => by cases hc; simp), ⟨_, _, rfl, v1, rfl⟩⟩)
      obtain ⟨w, H6, w1, w2, -, w4⟩ := J8_ (bytes := 40) (G := nof) o1 ⟨_, _, x3_ _ _, (λe => by cases e), (λc hc => by cases hc; simp)⟩ (λn off len cap e => by cases e; rfl) (Ext.refl nof _) (v6_ a2) (λ_ _ _ _ _ x => x) (by simp; omega)
      rw [<- c6_ a1] at w1
      have E6 : Ext nof h2 H6 := E5.tr w4
      obtain ⟨zs, z1, z2⟩ := S1_ w2
      have s6 := Own.mono (F' := λm => F m /\ m < h.length) _ (λ_ x => x) (E6.keep _) _ s2
      have c6 : d2_ H6 av' := s3.keep s2 (E6.keep _)
      have z3 : a8_ ((v :: l.drop i).map v3_.c) nof H6 zs := v6_ (l := v :: l.drop i) z2
      obtain ⟨w', H7, x1, x2, -, x4⟩ := J8_ (bytes := 40) (G := nof) s6 c6 (Y5_ s1) (Ext.refl nof _) z3 (λ_ _ _ _ _ x => x) (by simp; omega)
      rw [<- c6_ z1] at x1
      have A1 := λz => (p_n (h := h2) (s := h.length) (by omega) z).trans A0
      simp only [go_sem, reduceEqDiff, reduceAdd, reduceLeDiff, reducePow, reduceDiv, reduceMod, decide_true, k0, k3, k5, r_b, s1, u1, A1, w1, x1]
      refine ⟨d6_ (by omega), ?_, X0.trans (E6.tr x4) (λ_ _ x => x.elim) (λ_ _ x => x.elim)⟩
      rw [hacc]
      simp only [A9_, K_8, L_7]
      refine Own.mono _ (λm hm => ?_) (λ_ _ _ x => x) _ x2
      rcases hm with hm | hm | hm
      ·exact .inl hm.1
      ·exact hm.elim
      ·have := E6.1; exact .inr (by omega)
    ·rw [if_neg (λhc => c1 hc.1)] at hacc
     simp only [go_sem, reduceEqDiff, decide_eq_false c1, k0, k5]
     obtain ⟨av', s1, s2, s3⟩ := P5_ (k := (i : Int)) ho0 (by omega) (by simp; omega)
     obtain ⟨bv, u1, u2⟩ := b_5 (k := (i : Int)) ho0 (by omega) (by simp; omega)
     rw [L_b] at s2 u2
     have E5 := Ext.b1 (h := h2) (some (.arr 5 [[.int .i64 v.txn, .int .i64 v.part, .int .i64 v.promised, .int .i64 v.ballot, .int .i64 v.value]] false))
     have u5 := Own.mono (F' := λm => F m /\ m < h.length) _ (λ_ x => x) (E5.keep _) _ u2
     obtain ⟨ys, a1, a2⟩ := S1_ u5
     rw [<- M_r] at a2
     have v1 : g2_ v.c (λm => m = h2.length /\ m ≠ h2.length) (h2 ++ [some (.arr 5 [[.int .i64 v.txn, .int .i64 v.part, .int .i64 v.promised, .int .i64 v.ballot, .int .i64 v.value]] false)]) [.int .i64 v.txn, .int .i64 v.part, .int .i64 v.promised, .int .i64 v.ballot, .int .i64 v.value] := ⟨_, _, rfl, c3_ _ _ _, _, _, rfl, c3_ _ _ _, _, _, rfl, c3_ _ _ _, _, _, rfl, c3_ _ _ _, _, _, rfl, c3_ _ _ _, rfl⟩
     have o1 : Own (.sl 5 [v.c]) (λm => m = h2.length) (h2 ++ [some (.arr 5 [[.int .i64 v.txn, .int .i64 v.part, .int .i64 v.promised, .int .i64 v.ballot, .int .i64 v.value]] false)]) (.ref h2.length 5 0 1 (some 1)) := by
      simp only [Own]
      exact .inr (.inr ⟨h2.length, 0, some 1, _, false, rfl, rfl, x3_ _ _, by simp, (λc hc => by cases hc; simp), ⟨_, _, rfl, v1, rfl⟩⟩)
     obtain ⟨w, H6, w1, w2, -, w4⟩ := J8_ (bytes := 40) (G := nof) o1 ⟨_, _, x3_ _ _, (λe => by cases e), (λc hc => by cases hc; simp)⟩ (λn off len cap e => by cases e; rfl) (Ext.refl nof _) (v6_ a2) (λ_ _ _ _ _ x => x) (by simp; omega)
     rw [<- c6_ a1] at w1
     have E6 : Ext nof h2 H6 := E5.tr w4
     obtain ⟨zs, z1, z2⟩ := S1_ w2
     have s6 := Own.mono (F' := λm => F m /\ m < h.length) _ (λ_ x => x) (E6.keep _) _ s2
     have c6 : d2_ H6 av' := s3.keep s2 (E6.keep _)
     have z3 : a8_ ((v :: l.drop i).map v3_.c) nof H6 zs := v6_ (l := v :: l.drop i) z2
     obtain ⟨w', H7, x1, x2, -, x4⟩ := J8_ (bytes := 40) (G := nof) s6 c6 (Y5_ s1) (Ext.refl nof _) z3 (λ_ _ _ _ _ x => x) (by simp; omega)
     rw [<- c6_ z1] at x1
     have A1 := λz => (p_n (h := h2) (s := h.length) (by omega) z).trans A0
     simp only [go_sem, reduceEqDiff, reduceAdd, reduceLeDiff, reducePow, reduceDiv, reduceMod, decide_true, k0, k3, k5, r_b, s1, u1, A1, w1, x1]
     refine ⟨d6_ (by omega), ?_, X0.trans (E6.tr x4) (λ_ _ x => x.elim) (λ_ _ x => x.elim)⟩
     rw [hacc]
     simp only [A9_, K_8, L_7]
     refine Own.mono _ (λm hm => ?_) (λ_ _ _ x => x) _ x2
     rcases hm with hm | hm | hm
     ·exact .inl hm.1
     ·exact hm.elim
     ·have := E6.1; exact .inr (by omega)
  ·have ci' : i = l.length := by omega
   have hacc := U9_ l v i hi hj (λhi' => absurd hi' (by omega))
   rw [K_3 (by omega)] at hacc
   simp only at hacc
   have ed : l.drop i = [] := List.drop_eq_nil_of_le (by omega)
   rw [<- ed] at hacc
   simp only [x7_, go_sem, reduceEqDiff, k0, k5, la, decide_eq_false ci]
   obtain ⟨av', s1, s2, s3⟩ := P5_ (k := (i : Int)) ho0 (by omega) (by simp; omega)
   obtain ⟨bv, u1, u2⟩ := b_5 (k := (i : Int)) ho0 (by omega) (by simp; omega)
   rw [L_b] at s2 u2
   have E5 := Ext.b1 (h := h2) (some (.arr 5 [[.int .i64 v.txn, .int .i64 v.part, .int .i64 v.promised, .int .i64 v.ballot, .int .i64 v.value]] false))
   have u5 := Own.mono (F' := λm => F m /\ m < h.length) _ (λ_ x => x) (E5.keep _) _ u2
   obtain ⟨ys, a1, a2⟩ := S1_ u5
   rw [<- M_r] at a2
   have v1 : g2_ v.c (λm => m = h2.length /\ m ≠ h2.length) (h2 ++ [some (.arr 5 [[.int .i64 v.txn, .int .i64 v.part, .int .i64 v.promised, .int .i64 v.ballot, .int .i64 v.value]] false)]) [.int .i64 v.txn, .int .i64 v.part, .int .i64 v.promised, .int .i64 v.ballot, .int .i64 v.value] := ⟨_, _, rfl, c3_ _ _ _, _, _, rfl, c3_ _ _ _, _, _, rfl, c3_ _ _ _, _, _, rfl, c3_ _ _ _, _, _, rfl, c3_ _ _ _, rfl⟩
   have o1 : Own (.sl 5 [v.c]) (λm => m = h2.length) (h2 ++ [some (.arr 5 [[.int .i64 v.txn, .int .i64 v.part, .int .i64 v.promised, .int .i64 v.ballot, .int .i64 v.value]] false)]) (.ref h2.length 5 0 1 (some 1)) := by
    simp only [Own]
    exact .inr (.inr ⟨h2.length, 0, some 1, _, false, rfl, rfl, x3_ _ _, by simp, (λc hc => by cases hc; simp), ⟨_, _, rfl, v1, rfl⟩⟩)
   obtain ⟨w, H6, w1, w2, -, w4⟩ := J8_ (bytes := 40) (G := nof) o1 ⟨_, _, x3_ _ _, (λe => by cases e), (λc hc => by cases hc; simp)⟩ (λn off len cap e => by cases e; rfl) (Ext.refl nof _) (v6_ a2) (λ_ _ _ _ _ x => x) (by simp; omega)
   rw [<- c6_ a1] at w1
   have E6 : Ext nof h2 H6 := E5.tr w4
   obtain ⟨zs, z1, z2⟩ := S1_ w2
   have s6 := Own.mono (F' := λm => F m /\ m < h.length) _ (λ_ x => x) (E6.keep _) _ s2
   have c6 : d2_ H6 av' := s3.keep s2 (E6.keep _)
   have z3 : a8_ ((v :: l.drop i).map v3_.c) nof H6 zs := v6_ (l := v :: l.drop i) z2
   obtain ⟨w', H7, x1, x2, -, x4⟩ := J8_ (bytes := 40) (G := nof) s6 c6 (Y5_ s1) (Ext.refl nof _) z3 (λ_ _ _ _ _ x => x) (by simp; omega)
   rw [<- c6_ z1] at x1
   have A1 := λz => (p_n (h := h2) (s := h.length) (by omega) z).trans A0
   simp only [go_sem, reduceEqDiff, reduceAdd, reduceLeDiff, reducePow, reduceDiv, reduceMod, decide_true, k0, k3, k5, r_b, s1, u1, A1, w1, x1]
   refine ⟨d6_ (by omega), ?_, X0.trans (E6.tr x4) (λ_ _ x => x.elim) (λ_ _ x => x.elim)⟩
   rw [hacc]
   simp only [A9_, K_8, L_7]
   refine Own.mono _ (λm hm => ?_) (λ_ _ _ x => x) _ x2
   rcases hm with hm | hm | hm
   ·exact .inl hm.1
   ·exact hm.elim
   ·have := E6.1; exact .inr (by omega)
def a_0:List d7_->b9_->Option (List d7_×Int)
 | [],_=>none
 | a :: r,c=>if a.group=c.group then some ((a.turned c).1 :: r,(a.turned c).2) else (a_0 r c).map λp=>(a :: p.1,p.2)
theorem i_b:∀(l:List d7_)(c:b9_)(i:Nat)(hi:i<l.length),(∀(j:Nat)(hj:j<l.length),j<i->l[j].group≠c.group)->l[i].group=c.group->a_0 l c=some (l.set i (l[i].turned c).1,(l[i].turned c).2)
 | [],c,i,hi,_,_=>by simp at hi
 | a :: r,c,0,hi,h1,h2=>by simp only[L_5]at h2;simp[a_0,h2]
 | a :: r,c,i+1,hi,h1,h2=>by
  have:=h1 0 (by simp) (by omega)
  simp only[L_5]at this
  simp only[a_0]
  rw[if_neg this,i_b r c i (by simpa using hi) (λj hj hji=>h1 (j+1) (by simpa using hj) (by omega)) (by simpa using h2)]
  simp
theorem c_k:∀(l:List d7_)(c:b9_),(∀(j:Nat)(hj:j<l.length),l[j].group≠c.group)->a_0 l c=none
 | [],c,_=>rfl
 | a :: r,c,h=>by
  have:=h 0 (by simp)
  simp only[L_5]at this
  simp only[a_0]
  rw[if_neg this,c_k r c (λj hj=>h (j+1) (by simpa using hj))]
  rfl
def x1_.applied (x:x1_)(c:b9_):x1_×Int:=
 if c.kind<1\/4<c.kind then (⟨[],[]⟩,13)
 else if c.kind=4 then (⟨x.hards,F9_ x.votes c.vote⟩,0)
 else match a_0 x.hards c with
  | none=>(⟨[],[]⟩,6)
  | some (l,e)=>if e≠0 then (⟨[],[]⟩,e) else (⟨l,x.votes⟩,0)
def e_c (P:Program)(f:FuncId):Prop:=f2_ P f=true/\∀(G:Nat->Prop)(h:a0_)(x:x1_)(c:b9_)(as cs:List AV),RdL G h x.c as->RdL G h c.c cs->x4_.ok x->o9_.ok c->(x4_.enc x).length<=2^33->(o9_.enc c).length<=2^33->
 (∀y∈x.hards,E3_ y.log)->c.log.es.length<=2^32->x.hards.length<=2^32->x.votes.length<=2^32->
 a6_ P f [.agg as,.agg cs] h λr h'=>∃bs,r=.tup [.agg bs,.int .i64 (x.applied c).2]/\g2_ (x.applied c).1.c (λm=>h.length<=m) h' bs/\Ext nof h h'
theorem p_c {x:b9_}{F:Nat->Prop}{h:a0_}{a:List AV}(hh:RdL F h x.c a):∃e o n l s,a=x.cells e o n l s/\Rd F h (b7_ x.log.es) e/\Rd F h (b1_ x.conf.old) o/\Rd F h (b1_ x.conf.new) n/\Rd F h (b1_ x.conf.learners) l/\Rd F h (b3_ x.snap) s:=by
 obtain⟨e,o,n,l,s,rfl,h'⟩:=c_y hh
 exact⟨e,o,n,l,s,rfl,h'⟩
theorem y_b {P:Program}{f fr fc ac tu:FuncId}(hf:Is P f (x0_ fr fc ac tu))(hfr:v_f P fr)(hfc:o_f P fc)(hac:o_k P ac)(htu:y_k P tu):e_c P f:=by
 refine⟨hf.2,λG h x c as cs hx hc xok cok xl cl hlog hce hxh hxv=>a4_ hf.1 (J_y rfl) ?_⟩
 obtain⟨xd,xv,rfl,hd0,hv0⟩:=g_a hx
 obtain⟨e,o,n,l,s,rfl,re,ro,rn,rl,rs⟩:=p_c hc
 show vc P (x0_ fr fc ac tu).code ⟨[(0,.agg [xd,xv]),(1,.agg (c.cells e o n l s))],[],h⟩ (b2_ (x0_ fr fc ac tu).res _)
 simp only[x0_,b9_.cells,go_sem,reduceEqDiff,reduceAdd,hd0.scalar,hv0.scalar,re.scalar,ro.scalar,rn.scalar,rl.scalar,rs.scalar]
 have none':∀(e:Int)(H:a0_)(k:Nat)(y:Option a5_),x.applied c=(⟨[],[]⟩,e)->Ext nof h H->h.length<=k->∃bs,AV.tup [.agg [.nils,.nils],.int .i64 e]=.tup [.agg bs,.int .i64 (x.applied c).2]/\g2_ (x.applied c).1.c (λm=>h.length<=m) (H.set k y) bs/\Ext nof h (H.set k y):=by
  intro e H k y eg ex hk
  rw[eg]
  exact⟨_,rfl,⟨_,_,rfl,Own.nils _,_,_,rfl,Own.nils _,rfl⟩,ex.put hk _⟩
 by_cases c1:c.kind<1
 ·simp only[go_sem,reduceEqDiff,reduceAdd,reduceLeDiff,decide_eq_true c1]
  have eg:x.applied c=(⟨[],[]⟩,13):=by simp only[x1_.applied];rw[if_pos (.inl c1)]
  rw[eg]
  exact⟨_,rfl,⟨_,_,rfl,Own.nils _,_,_,rfl,Own.nils _,rfl⟩,Ext.b3 _ _ _⟩
 by_cases c4:4<c.kind
 ·simp only[go_sem,reduceEqDiff,reduceAdd,reduceLeDiff,decide_eq_false c1,decide_eq_true c4]
  have eg:x.applied c=(⟨[],[]⟩,13):=by simp only[x1_.applied];rw[if_pos (.inr c4)]
  rw[eg]
  exact⟨_,rfl,⟨_,_,rfl,Own.nils _,_,_,rfl,Own.nils _,rfl⟩,Ext.b3 _ _ _⟩
 have ek:¬(c.kind<1\/4<c.kind):=by omega
 simp only[go_sem,reduceEqDiff,reduceAdd,reduceLeDiff,decide_eq_false c1,decide_eq_false c4]
 have X0:=Ext.b3 (h:=h) (some (.arr 2 [[xd,xv]] false)) (some (.arr 17 [c.cells e o n l s] false)) (some (.arr 2 [[.nils,.nils]] false))
 have A0:=v_s h (some (.arr 2 [[xd,xv]] false)) (some (.arr 17 [c.cells e o n l s] false)) (some (.arr 2 [[.nils,.nils]] false))
 have A1:=x_q h (some (.arr 2 [[xd,xv]] false)) (some (.arr 17 [c.cells e o n l s] false)) (some (.arr 2 [[.nils,.nils]] false))
 have A2:=B_k h (some (.arr 2 [[xd,xv]] false)) (some (.arr 17 [c.cells e o n l s] false)) (some (.arr 2 [[.nils,.nils]] false))
 have lH:h.length+3=(h++[some (a5_.arr 2 [[xd,xv]] false)]++[some (a5_.arr 17 [c.cells e o n l s] false)]++[some (a5_.arr 2 [[.nils,.nils]] false)]).length:=by simp
 simp only[b9_.cells]at X0 A0 A1 A2 lH
 have hx0:=hx.up X0
 have hc0:=hc.up X0
 generalize h++[some (a5_.arr 2 [[xd,xv]] false)]++[some (a5_.arr 17 [_] false)]++[some (a5_.arr 2 [[.nils,.nils]] false)]=H0 at *
 refine a1_ ⟨hfr.1,hfr.2 G H0 x _ hx0 xok xl⟩ ?_
 rintro _ H1 ⟨d,v,k,rfl,oD,oV,hk,X1⟩
 have B0:=X1.get A0
 have B1:=X1.get A1
 have B2:=X1.get A2
 simp only[go_sem,reduceEqDiff,reduceAdd,reduceLeDiff,reducePow,reduceDiv,reduceMod,decide_true,B0,B1]
 refine a1_ ⟨hfc.1,hfc.2 G H1 c _ (hc0.up X1) cok cl⟩ ?_
 rintro _ H2 ⟨bs,rfl,oC,X2⟩
 obtain⟨e',o',n',l',s',rfl,oe,oo,on_,ol,os⟩:=c_2 oC
 have B0:=X2.get B0
 have B1:=X2.get B1
 have B2:=X2.get B2
 have l1:=X1.1
 have l2:=X2.1
 have m0:h.length<H2.length:=by omega
 have m1:h.length+1<H2.length:=by omega
 have n01:(h.length=h.length+1)=False:=eq_false (by omega)
 have n10:(h.length+1=h.length)=False:=eq_false (by omega)
 have n02:(h.length=h.length+1+1)=False:=eq_false (by omega)
 have n12:(h.length+1=h.length+1+1)=False:=eq_false (by omega)
 simp only[b9_.cells,go_sem,reduceEqDiff,reduceAdd,reduceLeDiff,reducePow,reduceDiv,reduceMod,decide_true,B0,B1,m0,m1,n01,n10,J_2,oD.scalar,oV.scalar,oe.scalar,oo.scalar,on_.scalar,ol.scalar,os.scalar]
 have E3:Ext nof h ((H2.set h.length (some (.arr 2 [[d,v]] false))).set (h.length+1) (some (.arr 17 [c.cells e' o' n' l' s'] false))):=((((X0.tr X1).tr X2).put (J_4 _) _)).put (by omega) _
 have D0:((H2.set h.length (some (.arr 2 [[d,v]] false))).set (h.length+1) (some (.arr 17 [c.cells e' o' n' l' s'] false)))[h.length]?=_:=(J_x (by omega)).trans (J_0 m0)
 have D1:((H2.set h.length (some (.arr 2 [[d,v]] false))).set (h.length+1) (some (.arr 17 [c.cells e' o' n' l' s'] false)))[h.length+1]?=_:=J_0 (by rw[J_2];exact m1)
 have D2:((H2.set h.length (some (.arr 2 [[d,v]] false))).set (h.length+1) (some (.arr 17 [c.cells e' o' n' l' s'] false)))[h.length+1+1]?=_:=((J_x (by omega)).trans (J_x (by omega))).trans B2
 have K3:∀F:Nat->Prop,(∀m,F m->h.length+3<=m)->v4_ F H2 ((H2.set h.length (some (.arr 2 [[d,v]] false))).set (h.length+1) (some (.arr 17 [c.cells e' o' n' l' s'] false))):=λF hF m hm y hy=>by
  have:=hF m hm
  rw[J_x (by omega),J_x (by omega)];exact hy
 have oD3:Own (d_t x.hards) (λm=>h.length+3<=m/\m<k/\m<H1.length) _ d:=Own.mono _ (λm hm=>by omega) (K3 _ (λm hm=>by omega)) _ (Own.mono _ (λ_ x=>x) (X2.keep _) _ (Own.lt _ _ oD))
 have oV3:Own (A9_ x.votes) (λm=>k<=m/\m<H1.length) _ v:=Own.mono _ (λm hm=>by omega) (K3 _ (λm hm=>by omega)) _ (Own.mono _ (λ_ x=>x) (X2.keep _) _ (Own.lt _ _ oV))
 have oC3:g2_ c.c (λm=>H1.length<=m) _ (c.cells e' o' n' l' s'):=g2_.mono _ (λm hm=>hm) (K3 _ (λm hm=>by omega)) _ oC
 have l3:((H2.set h.length (some (.arr 2 [[d,v]] false))).set (h.length+1) (some (.arr 17 [c.cells e' o' n' l' s'] false))).length=H2.length:=by rw[J_2,J_2]
 simp only[b9_.cells]at E3 D0 D1 D2 K3 oD3 oV3 oC3 l3
 generalize (H2.set h.length (some (a5_.arr 2 [[d,v]] false))).set (h.length+1) (some (.arr 17 [_] false))=H3 at *
 have w0:h.length<H3.length:=by omega
 have w2:h.length+1+1<H3.length:=by omega
 have n20:(h.length+1+1=h.length)=False:=eq_false (by omega)
 by_cases k4:c.kind=4
 ·simp only[go_sem,reduceEqDiff,reduceAdd,reduceLeDiff,decide_eq_true k4,D0,D1]
  refine a1_ ⟨hac.1,hac.2 _ H3 x.votes v c.vote _ oV3 rfl hxv⟩ ?_
  rintro r H4 ⟨oR,X4⟩
  have l4:=X4.1
  have F0:=(X4.2 _ w0 (by omega)).trans D0
  have F2:=(X4.2 _ w2 (by omega)).trans D2
  have w0':h.length<H4.length:=by omega
  have w2':h.length+1+1<H4.length:=by omega
  simp only[go_sem,reduceEqDiff,reduceAdd,reduceLeDiff,F0,F2,w0',w2',n02,J_2,oD3.scalar,oR.scalar,b5_ oR.scalar]
  have eg:x.applied c=(⟨x.hards,F9_ x.votes c.vote⟩,0):=by simp only[x1_.applied];rw[if_neg ek,if_pos k4]
  rw[eg]
  refine⟨_,rfl,⟨_,_,rfl,?_,_,_,rfl,?_,rfl⟩,((E3.trans X4 (λ_ _ x=>x) (λm hm hm'=>by omega)).put (J_4 _) _).put (by omega) _⟩
  ·refine Own.mono _ (λm hm=>by omega) (λm hm y hy=>?_) _ oD3
   have hml:=(J_w.1 hy).1
   rw[J_x (by omega),J_x (by omega),X4.2 m hml (by omega)];exact hy
  ·refine Own.mono _ (λm hm=>by omega) (λm hm y hy=>?_) _ oR
   rw[J_x (by omega),J_x (by omega)];exact hy
 have ld:M5_ d=some (.int .i64 x.hards.length):=by simpa using (Own.rd _ (F':=λ_=>True) (λ_ _=>trivial) _ oD3).len
 simp only[go_sem,reduceEqDiff,decide_eq_false k4,D0,ld]
 refine e8_ (λm L h'=>∃i:Nat,lk 2 L=.ptr h.length 2 0 0/\lk 3 L=.ptr (h.length+1) 17 0 0/\lk 4 L=.ptr (h.length+1+1) 2 0 0/\lk 34 L=.int .i64 x.hards.length/\lk 35 L=.int .i64 i/\h'=H3/\i<=x.hards.length/\m=x.hards.length-i/\∀(j:Nat)(hj:j<x.hards.length),j<i->x.hards[j].group≠c.group) x.hards.length ?_ ?_
 ·exact⟨0,by simp[a3_],by simp[a3_],by simp[a3_],by simp[a3_],by simp[a3_],rfl,by omega,by omega,by omega⟩
 ·rintro m L h2 ⟨i,k2,k3,k4',k34,k35,rfl,hi,rfl,hj⟩
  simp only[M0_,go_sem,k34,k35]
  refine b0_ (λci=>?_) (λci=>?_)
  ·simp at ci
   obtain⟨n,off,row,gg,hs,len,cap,rfl,hn,hix,hrow,hcs',hit,hput⟩:=g_g (j:=i) (d0:=x.hards[i].c) oD3 (by simp[ci])
   obtain⟨he,ho,hnn,hl,hss,rfl,qe,qo,qn,ql,qs⟩:=c_0 hit
   have hpc:n3_ h2 (.ptr n 10 (off+i) 0)=some (x.hards[i].cells he ho hnn hl hss):=by simp[n3_,hrow,hcs']
   have e1:IntKind.i64.wrap (↑i+1)=(i:Int)+1:=a7_ (by omega)
   have hcs2:=hcs'
   simp only[d7_.cells]at hcs2
   by_cases cg:x.hards[i].group=c.group
   ·have hcg:(x.hards[i].group=c.group)=True:=eq_true cg
    have eg:x.applied c=(if (x.hards[i].turned c).2≠0 then (⟨[],[]⟩,(x.hards[i].turned c).2) else (⟨x.hards.set i (x.hards[i].turned c).1,x.votes⟩,0)):=by simp only[x1_.applied];rw[if_neg ek,if_neg k4,i_b _ _ i ci hj cg]
    rw[eg]
    have Z0:=λz=>(p_n (h:=h2) (s:=h.length) w0 z).trans D0
    have Z1:=λz=>(p_n (h:=h2) (s:=h.length+1) (by omega) z).trans D1
    have Z2:=λz=>(p_n (h:=h2) (s:=h.length+1+1) (by omega) z).trans D2
    have hnl:=(J_w.1 hrow).1
    have Zn:=λz=>(p_n (h:=h2) (s:=n) hnl z).trans hrow
    have NR:∀m sz i o,m<h2.length->f0_ h2.length 1 (.ptr m sz i o)=true:=λm sz i o hm=>d6_ hm
    simp only[go_sem,reduceEqDiff,reduceAdd,reduceLeDiff,reducePow,reduceDiv,reduceMod,decide_true,k2,k3,k35,D0,D1,hix,hrow,hcs2,hcg,Z0,Z1,Zn]
    refine⟨NR _ _ _ _ (by omega),NR _ _ _ _ hnl,NR _ _ _ _ (by omega),?_⟩
    have E1:=Ext.b1 (h:=h2) none
    have tH:g2_ x.hards[i].c (λm=>(h.length+3<=m/\m<k/\m<H1.length)/\m≠n) (h2++[none]) (x.hards[i].cells he ho hnn hl hss):=g2_.mono _ (λ_ x=>x) (E1.keep _) _ hit
    have tC:g2_ c.c (λm=>H1.length<=m/\m<h2.length) (h2++[none]) (c.cells e' o' n' l' s'):=g2_.mono _ (λ_ x=>x) (E1.keep _) _ (g2_.lt _ _ oC3)
    refine a1_ ⟨htu.1,htu.2 _ _ (h2++[none]) x.hards[i] c _ _ tH tC (λm hm hm'=>by omega) (hlog _ (K_1 _)) hce⟩ ?_
    rintro _ H4 ⟨rs,rfl,oR,X4⟩
    obtain⟨te,to,tn,tl,ts,rfl,ve,vo,vn,vl,vs⟩:=c_0 oR
    have y4:=X4.1
    have yl:(h2++[none]).length=h2.length+1:=by simp
    have Y0:=X4.get (Z0 none)
    have Y1:=X4.get (Z1 none)
    have Y2:=X4.get (Z2 none)
    have Yn:=X4.get (Zn none)
    have Yl:=X4.get (x3_ h2 none)
    have m2:h2.length<H4.length:=by omega
    have q0:(h2.length=h.length)=False:=eq_false (by omega)
    have q1:(h2.length=h.length+1)=False:=eq_false (by omega)
    have q2:(h2.length=h.length+1+1)=False:=eq_false (by omega)
    have qn:(h2.length=n)=False:=eq_false (by omega)
    have XH:Ext nof h H4:=(E3.tr E1).tr X4
    by_cases ce:(x.hards[i].turned c).2=0
    ·have ce':¬(x.hards[i].turned c).2≠0:=by simpa using ce
     rw[if_neg ce']
     have p0:(n=h.length)=False:=eq_false (by omega)
     have p2:(n=h.length+1+1)=False:=eq_false (by omega)
     have m0':h.length<H4.length:=by omega
     have m2':h.length+1+1<H4.length:=by omega
     have Yn5:(H4.set h2.length (some (.arr 10 [(x.hards[i].turned c).1.cells te to tn tl ts] false)))[n]?=_:=(J_x (by omega)).trans Yn
     have hc10:(x.hards[i].cells he ho hnn hl hss).length=10:=rfl
     have st:=K8_ (x:=.agg ((x.hards[i].turned c).1.cells te to tn tl ts)) Yn5 hcs' rfl rfl rfl (by simp only[d7_.cells];simp only[go_sem,ve.scalar,vo.scalar,vn.scalar,vl.scalar,vs.scalar])
     simp only[d7_.cells]at st
     simp only[d7_.cells,go_sem,reduceEqDiff,reduceAdd,reduceLeDiff,reducePow,reduceDiv,reduceMod,decide_true,Y0,Y1,Y2,Yn,Yl,q0,q1,q2,qn,p0,p2,m2,m2',hcs2,ce,k2,k4',J_2,L_j,ve.scalar,vo.scalar,vn.scalar,vl.scalar,vs.scalar,hix,st,oV3.scalar]
     have hold:∀m,m<h2.length->m≠n->(H4.set h2.length (some (.arr 10 [(x.hards[i].turned c).1.cells te to tn tl ts] false)))[m]?=h2[m]?:=λm hm _=>by
      rw[J_x (by omega),X4.2 m (by omega) (λx=>x),p_n hm]
     have lH5:(H4.set h2.length (some (.arr 10 [(x.hards[i].turned c).1.cells te to tn tl ts] false))).length=H4.length:=J_2
     have oN:g2_ (x.hards[i].turned c).1.c (λm=>h.length+3<=m/\m≠n) (H4.set h2.length (some (.arr 10 [(x.hards[i].turned c).1.cells te to tn tl ts] false))) ((x.hards[i].turned c).1.cells te to tn tl ts):=by
      refine g2_.mono _ (λm hm=>?_) (λm hm y hy=>?_) _ oR
      ·rw[yl]at hm;omega
      ·rw[yl]at hm
       rw[J_x (by omega)];exact hy
     have oF:=hput (λm=>h.length+3<=m) _ _ _ (λm hm=>hm.1) (λm hm y hy=>by rw[hold m (by omega) hm.2];exact hy) (Yn5.trans hrow.symm) oN
     rw[<-List.map_set]at oF
     simp only[d7_.cells]at oF hold lH5
     refine⟨_,rfl,⟨_,_,rfl,?_,_,_,rfl,?_,rfl⟩,?_⟩
     ·exact Own.mono _ (λm hm=>by omega) (λm hm y hy=>by rw[J_x (by omega)];exact hy) _ oF
     ·refine Own.mono _ (λm hm=>by omega) (λm hm y hy=>?_) _ oV3
      rw[J_x (by omega),J_x (by omega),hold m (by omega) (by omega)];exact hy
     ·exact ((XH.put (by omega) _).put (by omega) _).put (by omega) _
    ·have ce':(x.hards[i].turned c).2≠0:=ce
     rw[if_pos ce']
     have m2':h.length+1+1<H4.length:=by omega
     simp only[d7_.cells,go_sem,reduceEqDiff,reduceAdd,reduceLeDiff,reducePow,reduceDiv,reduceMod,decide_true,Y0,Y1,Y2,Yn,Yl,q0,q1,q2,qn,m2,m2',hcs2,decide_eq_false ce,k4',J_2,L_j,ve.scalar,vo.scalar,vn.scalar,vl.scalar,vs.scalar]
     exact⟨_,rfl,⟨_,_,rfl,Own.nils _,_,_,rfl,Own.nils _,rfl⟩,(XH.put (by omega) _).put (by omega) _⟩
   ·have hcg:(x.hards[i].group=c.group)=False:=eq_false cg
    simp only[go_sem,reduceEqDiff,reduceAdd,k2,k3,k4',k34,k35,D0,D1,hix,hrow,hcs2,decide_eq_false cg,e1]
    refine⟨_,by omega,i+1,by simp,by omega,rfl,λj hj' hji=>?_⟩
    by_cases e:j=i
    ·subst e;exact cg
    ·exact hj j hj' (by omega)
  ·simp at ci
   obtain rfl:i=x.hards.length:=by omega
   have eg:x.applied c=(⟨[],[]⟩,6):=by simp only[x1_.applied];rw[if_neg ek,if_neg k4,c_k _ _ (λj hj'=>hj j hj' hj')]
   simp only[go_sem,reduceEqDiff,reduceAdd,reduceLeDiff,k4',D2,w2]
   rw[eg]
   exact⟨_,rfl,⟨_,_,rfl,Own.nils _,_,_,rfl,Own.nils _,rfl⟩,E3.put (by omega) _⟩
end Glb
