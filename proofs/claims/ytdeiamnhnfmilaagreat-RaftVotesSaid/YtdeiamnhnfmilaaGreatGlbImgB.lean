/-
  A library of its own.
-/
import Derived.Test.YtdeiamnhnfmilaaGreatGlbImgA
import Derived.Test.YtdeiamnhnfmilaaGreatGlbCread
import Derived.Test.YtdeiamnhnfmilaaGreatGlbConB
set_option linter.unusedSimpArgs false
set_option linter.unusedVariables false
set_option maxRecDepth 10000
set_option maxHeartbeats 4000000
open Nat (reduceAdd reduceEqDiff reduceLeDiff)
namespace Glb
open Go
theorem b_6 {sz bytes:Nat}{F G:Nat->Prop}{ds es:List (List D)}{h0 h:a0_}{av:AV}{ys:List (List AV)}(ho:Own (.sl sz ds) F h0 av)(hc:d2_ h0 av)
  (hx:Ext nof h0 h) (hy:a8_ es G h ys) (hG:∀m,G m->F m) (hN:∀n off len cap,av=.ref n sz off len cap->¬G n) (hF:F h.length) (hb:(ds.length+es.length)*bytes<=2^46):
  ∃av' h',d3_ h sz bytes av ys=some (av',h')/\Own (.sl sz (ds++es)) F h' av'/\d2_ h' av'/\Ext (λm=>(∃off len cap,av=.ref m sz off len cap)/\F m) h h' /\
   (∀n off len cap,av'=.ref n sz off len cap->(∃off' len' cap',av=.ref n sz off' len' cap')\/h.length<=n):=by
 have hyl:=k1_ hy
 have fresh:∀(hh:a0_) (dd:List (List D)) (es':List (List AV)),F hh.length->a8_ dd F hh es'->
   Own (.sl sz dd) F (c0_ hh sz es').2 (c0_ hh sz es').1/\d2_ (c0_ hh sz es').2 (c0_ hh sz es').1:=by
  intro hh dd es' hl hd
  have hlen:=k1_ hd
  refine⟨?_,⟨es',true,by simp[c0_],(λ_=>rfl),(λc hc=>by cases hc)⟩⟩
  simp only[Own,c0_]
  refine .inr (.inr ⟨hh.length,0,none,es',true,by rw[hlen],hl,by simp,by omega,(λc hc=>by cases hc),?_⟩)
  have:(es'.drop 0).take dd.length=es':=by rw[L_d,K_r (by omega)]
  rw[this]
  refine a8_.mono dd (λm hm=>⟨hm.1,by have:=hm.2;omega⟩) ?_ _ (a8_.lt dd _ hd)
  intro m hm x hx
  rw[J_1 hm.2];exact hx
 simp only[Own]at ho
 rcases ho with⟨rfl,rfl⟩ | ⟨t,c,rfl,rfl⟩ | ⟨n,off,cap,row,g,rfl,hn,hrow,hle,hcl,hd⟩
 · -- nothing yet
  have hy':a8_ es F h ys:=a8_.mono es hG (λ_ _ _ x=>x) _ hy
  obtain⟨a,b⟩:=fresh h es ys hF hy'
  refine⟨_,_,?_,by simpa using a,b,?_⟩
  ·simp only[d3_];rw[if_pos (by rw[hyl];simpa using hb)]
  ·exact⟨Ext.app _ _ _,by intro n off len cap e;simp only[c0_,AV.ref.injEq]at e;right;omega⟩
 ·have hc1:c=true:=hc
  subst hc1
  have hy':a8_ es F h ys:=a8_.mono es hG (λ_ _ _ x=>x) _ hy
  simp only[d3_]
  rw[if_pos ⟨trivial,by rw[hyl];simpa using hb⟩]
  by_cases hy0:ys.length=0
  ·rw[if_pos hy0]
   have hes:es=[]:=J_3 (by omega)
   subst hes
   refine⟨_,_,rfl,?_,rfl,Ext.refl _ _,by intro n off len cap e;cases e⟩
   simp only[Own]
   exact .inr (.inl ⟨t,true,rfl,rfl⟩)
  ·rw[if_neg hy0,if_pos trivial]
   obtain⟨a,b⟩:=fresh h es ys hF hy'
   exact⟨_,_,rfl,by simpa [c0_] using a,b,Ext.app _ _ _,by intro n off len cap e;simp only[AV.ref.injEq]at e;right;omega⟩
 ·obtain⟨row',g',hrow',hcn,hcs⟩:=hc
  rw[hrow]at hrow'
  obtain⟨rfl,rfl⟩:row=row'/\g=g':=by simpa using hrow'
  have hnlt:=(J_w.1 hrow).1
  have hrow1:h[n]?=some (some (.arr sz row g)):=hx.get hrow
  have hnlt1:=(J_w.1 hrow1).1
  have hd1:a8_ ds (λm=>F m/\m≠n) h ((row.drop off).take ds.length):=a8_.mono ds (λm hm=>hm) (hx.keep _) _ hd
  have hy1:a8_ es (λm=>F m/\m≠n) h ys:=a8_.mono es (λm hm=>⟨hG _ hm,by rintro rfl;exact hN _ _ _ _ rfl hm⟩) (λ_ _ _ x=>x) _ hy
  have both:a8_ (ds++es) F h ((row.drop off).take ds.length++ys):=a8_.mono _ (λm hm=>hm.1) (λ_ _ _ x=>x) _ (q3_ hd1 hy1)
  simp only[d3_,hrow1]
  rw[if_pos ⟨trivial,trivial,hle,by rw[hyl];exact hb⟩]
  cases cap with
  | none=>
   obtain rfl:=hcn rfl
   simp only[if_true]
   have both':a8_ (ds++es) F (h.set n none) (row.take ds.length++ys):=by
    have:=q3_ hd1 hy1
    rw[L_d]at this
    exact a8_.mono _ (λm hm=>hm.1) (λm hm x hx=>by rw[J_x (λe=>hm.2 e.symm)];exact hx) _ this
   obtain⟨a,b⟩:=fresh (h.set n none) (ds++es) (row.take ds.length++ys) (by rw[J_2];exact hF) both'
   exact⟨_,_,rfl,a,b,(Ext.set none (λ_=>⟨⟨_,_,_,rfl⟩,hn⟩)).trans (Ext.app _ _ _) (λ_ _ x=>x) (λ_ _ x=>x),by intro n' off len cap e;simp only[AV.ref.injEq,J_2]at e;right;omega⟩
  | some c=>
   have hc1:=hcl c rfl
   have hc2:=hcs c rfl
   cases c with
   | zero=>
    have h0:ds.length=0:=by omega
    have hds:ds=[]:=J_3 h0
    subst hds
    simp only[K_d,if_true]
    by_cases hy0:ys.length=0
    ·rw[if_pos hy0]
     have hes:es=[]:=J_3 (by omega)
     subst hes
     refine⟨_,_,rfl,?_,⟨row,g,hrow1,(λe=>by cases e),(λc hc=>by cases hc;omega)⟩,Ext.refl _ _,λn' off' len' cap' e=>.inl ⟨_,_,_,e⟩⟩
     simp only[Own]
     exact .inr (.inr ⟨n,off,some 0,row,g,rfl,hn,hrow1,by simpa using hle,(λc hc=>by cases hc;simp),by simp[a8_]⟩)
    ·rw[if_neg hy0]
     have hy2:a8_ es F h ys:=a8_.mono es (λm hm=>hm.1) (λ_ _ _ x=>x) _ hy1
     obtain⟨a,b⟩:=fresh h es ys hF hy2
     exact⟨_,_,rfl,by simpa [c0_] using a,b,Ext.app _ _ _,by intro n off len cap e;simp only[AV.ref.injEq]at e;right;omega⟩
   | succ c=>
    simp only
    by_cases hcap:c+1<ds.length+ys.length
    ·rw[if_pos hcap]
     obtain⟨a,b⟩:=fresh h (ds++es) _ hF both
     exact⟨_,_,rfl,a,b,Ext.app _ _ _,by intro n' off' len' cap' e;simp only[AV.ref.injEq]at e;right;omega⟩
    ·rw[if_neg hcap,if_pos (by omega)]
     have hsl:(e1_ row (off+ds.length) ys).length=row.length:=by simp[e1_];omega
     refine⟨_,_,rfl,?_,⟨_,g,by rw[J_0 hnlt1],(λe=>by cases e),(λc' hc'=>by cases hc';rw[hsl];exact hc2)⟩,Ext.set _ (λ_=>⟨⟨_,_,_,rfl⟩,hn⟩),by intro n' off' len' cap' e;simp only[AV.ref.injEq]at e;exact .inl ⟨_,_,_,by rw[<-e.1]⟩⟩
     simp only[Own]
     refine .inr (.inr ⟨n,off,some (c+1),e1_ row (off+ds.length) ys,g,by rw[J_z,hyl],hn,by rw[J_0 hnlt1],by rw[hsl,J_z];omega,
      (λc' hc'=>by cases hc';rw[J_z];omega),?_⟩)
     have e:((e1_ row (off+ds.length) ys).drop off).take (ds++es).length=(row.drop off).take ds.length++ys:=by
      apply K_0
      intro i
      simp only[K_7,K_m,J_z,e1_,K_q,K_i,J_z,K_o]
      rw[show min (off+ds.length) row.length=off+ds.length by omega,show min ds.length (row.length-off)=ds.length by omega]
      by_cases h1:i<ds.length
      ·rw[if_pos (by omega),if_pos (by omega),if_pos (by omega),if_pos (by omega),if_pos h1]
       simp[h1]
      ·by_cases h2:i<ds.length+es.length
       ·rw[if_pos h2,if_pos (by omega),if_neg (by omega),if_neg h1]
        congr 1;omega
       ·rw[if_neg h2,if_neg h1,K_3 (by omega)]
     rw[e]
     refine a8_.mono _ (λm hm=>hm) ?_ _ (q3_ hd1 hy1)
     intro m hm x hx
     rw[J_x (λe=>hm.2 e.symm)];exact hx
theorem Rd.byte_at {F:Nat->Prop}{h:a0_}{l:List Int}{a:AV}(hx:Rd F h (b3_ l) a){i:Nat}(hi:i<l.length):
  ∃p,q9_ 1 a (.int .i64 i)=some p/\o5_ h false 1 p=some (.int .u8 l[i]):=by
 obtain⟨p,cs,hp,hpc,hcs⟩:=hx.index .i64 (i:=i) (d:=[.int .u8 l[i]]) (by omega) (by simp[hi])
 simp only[RdL,Rd]at hcs
 obtain⟨_,_,rfl,rfl,rfl⟩:=hcs
 exact⟨p,hp,by rw[n2_ hpc];exact take_one _ _ _⟩
theorem Rd.bytes_len {F:Nat->Prop}{h:a0_}{l:List Int}{a:AV}(hx:Rd F h (b3_ l) a):M5_ a=some (.int .i64 l.length):=by simpa using hx.len
theorem b_5 {F:Nat->Prop}{sz:Nat}{ds:List (List D)}{h:a0_}{av:AV}(ho:Own (.sl sz ds) F h av){k:Int}(h0:0<=k)(hk:k<=ds.length):
  ∃av',j9_ sz av (some k) none none=some av'/\Own (.sl sz (ds.drop k.toNat)) F h av':=by
 simp only[Own]at ho
 rcases ho with⟨rfl,rfl⟩ | ⟨t,c,rfl,rfl⟩ | ⟨n,off,cap,row,g,rfl,hn,hrow,hle,hcl,hd⟩
 ·have:k=0:=by simpa using (by simp at hk;omega:k=0)
  subst this
  exact⟨.nils,by simp[j9_],Own.nils sz⟩
 ·have:k=0:=by simpa using (by simp at hk;omega:k=0)
  subst this
  refine⟨.vals t (y5_ none 0 0 c) sz [],by simp[j9_],?_⟩
  simp only[List.drop_nil,Own]
  exact .inr (.inl ⟨t,_,rfl,trivial⟩)
 ·have hc2:((cap.getD ds.length:Nat):Int)≥ds.length:=by
   cases cap with
   | none=>simp
   | some c=>have:=hcl c rfl;simp;omega
  simp only[j9_,K_v,L_r]
  rw[if_pos ⟨trivial,h0,by omega,.inl (by omega),by omega,by omega⟩]
  by_cases e0:k=0
  ·subst e0
   rw[if_pos rfl]
   refine⟨_,rfl,?_⟩
   simp only[Int.toNat_zero,L_d,L_b,Own]
   refine .inr (.inr ⟨n,off,_,row,g,rfl,hn,hrow,hle,λc hc=>?_,hd⟩)
   cases cap with
   | none=>simp[g3_]at hc
   | some c'=>have:=hcl c' rfl;simp[g3_]at hc;omega
  ·rw[if_neg e0]
   by_cases e1:k<(ds.length:Int)
   ·refine⟨_,if_pos e1,?_⟩
    simp only[Own,K_o]
    refine .inr (.inr ⟨n,off+k.toNat,g3_ none k.toNat cap,row,g,by rw[show ((ds.length:Int)).toNat-k.toNat=ds.length-k.toNat by omega],hn,hrow,by omega,λc hc=>?_,?_⟩)
    ·cases cap with
     | none=>simp[g3_]at hc
     | some c'=>have:=hcl c' rfl;simp[g3_]at hc;omega
    ·have:=q_x hd k.toNat
     rw[List.drop_take,List.drop_drop]at this
     exact this
   ·refine⟨_,if_neg e1,?_⟩
    have:ds.drop k.toNat=[]:=List.drop_eq_nil_of_le (by omega)
    rw[this]
    simp only[Own]
    exact .inr (.inl ⟨0,false,rfl,trivial⟩)
def E5_ (n:Int):Rdr->Option (List Int)×Rdr
 | none=>(none,none)
 | some l=>if n<0\/(l.length:Int)<n then (none,none) else (some (l.take n.toNat),some (l.drop n.toNat))
theorem s_p (st:Rdr):a2_ st=match E5_ 8 st with
  | (none,s)=>(0,s)
  | (some p,s)=>(C4_ p,s):=by
 cases st with
 | none=>rfl
 | some l=>
  simp only[a2_,E5_]
  by_cases c:l.length<8
  ·rw[if_pos c,if_pos (by omega)]
  ·rw[if_neg c,if_neg (by omega)];rfl
theorem p_h (st:Rdr):e5_ st=(((E5_ (a2_ st).1 (a2_ st).2).1).getD [],(E5_ (a2_ st).1 (a2_ st).2).2):=by
 simp only[e5_]
 generalize a2_ st=x
 obtain⟨n,s⟩:=x
 cases s with
 | none=>rfl
 | some l=>
  simp only[E5_]
  by_cases c:n<0\/(l.length:Int)<n
  ·rw[if_pos c,if_pos c];rfl
  ·rw[if_neg c,if_neg c];rfl
def Rdr.all (st:Rdr):List Int:=st.getD []
def M6_ (F:Nat->Prop)(h:a0_)(q:Nat)(st:Rdr):Prop:=
 (∃a,h[q]?=some (some (.arr 2 [[a,.bool st.isNone]] false))/\Own (b3_ st.all) F h a)/\c2_ st.all/\st.all.length<=2^40
theorem M6_.keep {F:Nat->Prop}{h h':a0_}{q:Nat}{st:Rdr}(hr:M6_ F h q st) (hq:h'[q]?=h[q]?) (hk:v4_ F h h'):M6_ F h' q st:=by
 obtain⟨⟨a,h1,h2⟩,h3,h4⟩:=hr
 exact⟨⟨a,hq.trans h1,Own.mono _ (λ_ x=>x) hk _ h2⟩,h3,h4⟩
theorem M6_.lt {F:Nat->Prop}{h:a0_}{q:Nat}{st:Rdr}(hr:M6_ F h q st):q<h.length:=(J_w.1 hr.1.choose_spec.1).1
theorem M6_.up {F:Nat->Prop}{h h':a0_}{q:Nat}{st:Rdr}(hr:M6_ F h q st)(e:Ext nof h h'):M6_ F h' q st:=hr.keep (e.2 _ hr.lt (λx=>x)) (e.keep F)
abbrev only (q:Nat):Nat->Prop:=λm=>m=q
theorem Ext.setOnly {h:a0_}(q:Nat)(x:Option a5_):Ext (only q) h (h.set q x):=Ext.set x (λ_=>rfl)
theorem g_e {d:D}{F:Nat->Prop}{h:a0_}{a:AV}(ho:Own d F h a){q:Nat}(hq:¬F q)(x:Option a5_):Own d F (h.set q x) a:=
 Own.mono _ (λm hm=>hm) (λm hm y hy=>by rw[J_x (by rintro rfl;exact hq hm)];exact hy) _ ho
def B_w (P:Program)(f:FuncId):Prop:=f2_ P f=true/\∀(F:Nat->Prop)(h:a0_)(q:Nat)(st:Rdr),M6_ F h q st->a6_ P f [.ptr q 2 0 0] h λ_ h'=>M6_ F h' q none/\Ext (only q) h h'
def x_2 (P:Program)(f:FuncId):Prop:=f2_ P f=true/\∀(F:Nat->Prop)(h:a0_)(q:Nat)(st:Rdr)(n:Int),M6_ F h q st->¬F q->
 a6_ P f [.ptr q 2 0 0,.int .i64 n] h λr h'=>M6_ F h' q (E5_ n st).2/\Ext (only q) h h'/\∃p,r=.tup [p,.bool (E5_ n st).1.isSome]/\Own (b3_ ((E5_ n st).1.getD [])) F h' p
def r_c (P:Program)(f:FuncId):Prop:=f2_ P f=true/\∀(F:Nat->Prop)(h:a0_)(q:Nat)(st:Rdr),M6_ F h q st->¬F q->
 a6_ P f [.ptr q 2 0 0] h λr h'=>r=.int .i64 (a2_ st).1/\M6_ F h' q (a2_ st).2/\Ext (only q) h h'
def q_4 (P:Program)(f:FuncId):Prop:=f2_ P f=true/\∀(F:Nat->Prop)(h:a0_)(q:Nat)(st:Rdr),M6_ F h q st->¬F q->
 a6_ P f [.ptr q 2 0 0] h λr h'=>Own (b3_ (e5_ st).1) F h' r/\M6_ F h' q (e5_ st).2/\Ext (only q) h h'
def B_t (P:Program)(f:FuncId):Prop:=f2_ P f=true/\∀(F:Nat->Prop)(h:a0_)(q:Nat)(st:Rdr),M6_ F h q st->¬F q->
 a6_ P f [.ptr q 2 0 0] h λr h'=>Own (b1_ (l0_ a2_ st).1) (λm=>h.length<=m) h' r/\M6_ F h' q (l0_ a2_ st).2/\Ext (only q) h h'
theorem t_6 {P:Program}{f:FuncId}(hf:Is P f m1_):B_w P f:=by
 refine⟨hf.2,λF h q st hr=>a4_ hf.1 (J_y rfl) ?_⟩
 show vc P m1_.code ⟨[(0,.ptr q 2 0 0)],[],h⟩ (b2_ m1_.res _)
 have hlt:=hr.lt
 obtain⟨⟨a,h1,h2⟩,h3,h4⟩:=hr
 simp only[m1_,go_sem,reduceEqDiff,reduceAdd,reduceLeDiff,h1,hlt,L_j]
 exact⟨⟨⟨.nils,J_0 hlt,Own.nils 1⟩,by simp[Rdr.all,c2_],by simp[Rdr.all]⟩,Ext.setOnly _ _⟩
theorem z_n {P:Program}{f g:FuncId}(hf:Is P f (f4_ g))(hg:B_w P g):x_2 P f:=by
 refine⟨hf.2,λF h q st n hr hq=>a4_ hf.1 (J_y rfl) ?_⟩
 show vc P (f4_ g).code ⟨[(0,.ptr q 2 0 0),(1,.int .i64 n)],[],h⟩ (b2_ (f4_ g).res _)
 have hlt:=hr.lt
 have hr2:=hr
 obtain⟨⟨a,h1,h2⟩,h3,h4⟩:=hr
 have bad:(E5_ n st)=(none,none)->∀h',M6_ F h' q none/\Ext (only q) h h'->M6_ F h' q (E5_ n st).2/\Ext (only q) h h'/\∃p,AV.tup [.nils,.bool false]=.tup [p,.bool (E5_ n st).1.isSome]/\Own (b3_ ((E5_ n st).1.getD [])) F h' p:=by
  intro e h' hh
  rw[e]
  exact⟨hh.1,hh.2,.nils,rfl,Own.nils 1⟩
 cases st with
 | none=>
  simp only[f4_,go_sem,reduceEqDiff,reduceAdd,h1,M_d]
  refine a1_ ⟨hg.1,hg.2 F h q none hr2⟩ ?_
  rintro _ h' hh
  simp only[go_sem,reduceEqDiff]
  exact bad rfl h' hh
 | some l=>
  have ll:=(Own.rd _ (F':=λ_=>True) (λ_ _=>trivial) _ h2).bytes_len
  simp only[Rdr.all,K_v]at ll h2 h3 h4
  by_cases c1:n<0
  ·simp only[f4_,go_sem,reduceEqDiff,reduceAdd,h1,L_p,decide_eq_true c1]
   refine a1_ ⟨hg.1,hg.2 F h q _ hr2⟩ ?_
   rintro _ h' hh
   simp only[go_sem,reduceEqDiff]
   exact bad (by simp only[E5_];rw[if_pos (.inl c1)]) h' hh
  by_cases c2:(l.length:Int)<n
  ·simp only[f4_,go_sem,reduceEqDiff,reduceAdd,h1,L_p,decide_eq_false c1,ll,decide_eq_true c2]
   refine a1_ ⟨hg.1,hg.2 F h q _ hr2⟩ ?_
   rintro _ h' hh
   simp only[go_sem,reduceEqDiff]
   exact bad (by simp only[E5_];rw[if_pos (.inr c2)]) h' hh
  have h2':Own (.sl 1 (l.map λn=>[.int .u8 n])) F h a:=h2
  obtain⟨p,s1,s2,s3⟩:=P5_ h2' (k:=n) (by omega) (by simp;omega)
  obtain⟨t,s4,s5⟩:=b_5 h2' (k:=n) (by omega) (by simp;omega)
  have e:E5_ n (some l)=(some (l.take n.toNat),some (l.drop n.toNat)):=by simp only[E5_];rw[if_neg (by omega)]
  rw[e]
  simp only[f4_,go_sem,reduceEqDiff,reduceAdd,reduceLeDiff,h1,L_p,decide_eq_false c1,ll,decide_eq_false c2,r_b,s1,s4,s5.scalar,b5_ s5.scalar]
  refine⟨⟨⟨t,?_,?_⟩,?_,?_⟩,Ext.setOnly _ _,p,rfl,?_⟩
  ·exact J_0 hlt
  ·refine g_e ?_ hq _
   simp only[Rdr.all,K_v,b3_,M_r];exact s5
  ·exact h3.drop _
  ·simp only[Rdr.all,K_v,K_o];omega
  ·refine g_e ?_ hq _
   simp only[K_v,b3_,L_7];exact s2
theorem C_g (a b:Int):V2_ .or (.int .u64 a) (.int .u64 b)=some (.int .u64 (IntKind.u64.wrap (BitVec.ofInt 64 a ||| BitVec.ofInt 64 b).toNat)):=Eq.trans rfl rfl
theorem z_t (a b:Int):V2_ .shl (.int .u64 a) (.int .u64 b)=if b<0 then none else some (.int .u64 (IntKind.u64.wrap (a*2^(min b.toNat 64)))):=Eq.trans rfl rfl
theorem C_h {u x:Int}(hu:0<=u)(hu2:u<72057594037927936)(hx:0<=x/\x<256):IntKind.u64.wrap (BitVec.ofInt 64 (u*256) ||| BitVec.ofInt 64 x).toNat=u*256+x:=by
 obtain⟨m,rfl⟩:=L_2 hu
 obtain⟨k,rfl⟩:=L_2 hx.1
 have e1:(BitVec.ofInt 64 (((m:Nat):Int)*256)).toNat=m <<< 8:=by
  rw[BitVec.toNat_ofInt,Nat.shiftLeft_eq];omega
 have e2:(BitVec.ofInt 64 ((k:Nat):Int)).toNat=k:=by
  rw[BitVec.toNat_ofInt];omega
 rw[BitVec.toNat_or,e1,e2,<-Nat.shiftLeft_add_eq_or_of_lt (by omega) m,Nat.shiftLeft_eq,b_1]
 omega
theorem h_6 {l:List Int}{i:Nat}(hi:i<l.length):n_h (l.take (i+1))=n_h (l.take i)*256+l[i]:=by
 rw[K_f hi];simp only[n_h,List.foldl_append,M_g,List.foldl_nil]
theorem z_k:∀(n:Nat)(l:List Int),l.length=n->c2_ l->0<=n_h l/\n_h l<256^n:=by
 intro n
 induction n with
 | zero=>intro l h _;have:=J_3 h;subst this;simp[n_h]
 | succ n ih=>
  intro l h hb
  have hn:n<l.length:=by omega
  have:=h_6 hn
  rw[K_r (by omega)]at this
  rw[this]
  obtain⟨h1,h2⟩:=ih (l.take n) (by simp;omega) (hb.take n)
  have hx:=hb l[n] (K_1 _)
  rw[Int.pow_succ]
  omega
theorem C_e:∀i:Nat,i<8->(256:Int)^i<=72057594037927936:=by decide
theorem l_v {P:Program}{f g:FuncId}(hf:Is P f (o0_ g))(hg:x_2 P g):r_c P f:=by
 refine⟨hf.2,λF h q st hr hq=>a4_ hf.1 (J_y rfl) ?_⟩
 show vc P (o0_ g).code ⟨[(0,.ptr q 2 0 0)],[],h⟩ (b2_ (o0_ g).res _)
 rw[s_p]
 have hb:c2_ ((E5_ 8 st).1.getD [])/\((E5_ 8 st).1.isSome=true->((E5_ 8 st).1.getD []).length=8):=by
  have h3:=hr.2.1
  cases st with
  | none=>simp[E5_,c2_]
  | some l=>
   simp only[E5_]
   split
   ·simp[c2_]
   ·exact⟨c2_.take h3 8,by simp;omega⟩
 simp only[o0_,go_sem,reduceEqDiff]
 refine a1_ ⟨hg.1,hg.2 F h q st 8 hr hq⟩ ?_
 rintro _ h1 ⟨r1,x1,p,rfl,po⟩
 generalize E5_ 8 st=T at *
 obtain⟨o,s⟩:=T
 cases o with
 | none=>
  simp only[go_sem,reduceEqDiff,Option.isSome_none]
  exact⟨r1,x1⟩
 | some l=>
  simp only[K_v,Option.isSome_some,forall_const]at hb po
  obtain⟨hb1,hb2⟩:=hb
  have pr:=Own.rd _ (F':=λ_=>True) (λ_ _=>trivial) _ po
  simp only[go_sem,reduceEqDiff,Option.isSome_some,pr.bytes_len]
  refine e8_ (λm L h'=>∃i:Nat,lk 5 L=.int .u64 (n_h (l.take i))/\lk 15 L=p/\lk 16 L=.int .i64 l.length/\lk 17 L=.int .i64 i/\h1=h'/\i<=l.length/\m=l.length-i) l.length ?_ ?_
  ·exact⟨0,by simp[a3_,n_h],by simp[a3_],by simp[a3_],by simp[a3_],rfl,by omega,by omega⟩
  ·rintro m L h' ⟨i,k5,k15,k16,k17,rfl,hi,rfl⟩
   simp only[B1_,go_sem,k16,k17]
   refine b0_ (λci=>?_) (λci=>?_)
   ·simp at ci
    obtain⟨y,hy,hv⟩:=pr.byte_at ci
    have e1:IntKind.i64.wrap (↑i+1)=(i:Int)+1:=a7_ (by omega)
    have vb:=z_k i (l.take i) (by simp;omega) (hb1.take i)
    have vb2:n_h (l.take i)<72057594037927936:=by
     have:=C_e i (by omega)
     omega
    have hx:=hb1 l[i] (K_1 _)
    have e2:IntKind.u64.wrap (n_h (l.take i)*2^(min (8:Int).toNat 64))=n_h (l.take i)*256:=by
     rw[b_1,show (2:Int)^(min (8:Int).toNat 64)=256 from rfl];omega
    have e3:IntKind.u64.wrap l[i]=l[i]:=by rw[b_1];omega
    have n8:¬(8:Int)<0:=by omega
    simp only[go_sem,reduceEqDiff,k5,k15,k16,k17,hy,hv,z_t,if_neg n8,e2,e3,C_g,C_h vb.1 vb2 hx,e1]
    exact⟨_,by omega,i+1,by rw[h_6 ci],by simp,ci,rfl⟩
   ·simp at ci
    obtain rfl:i=l.length:=by omega
    rw[K_y]at k5
    simp only[go_sem,reduceEqDiff,k5]
    exact⟨rfl,r1,x1⟩
theorem l_w {P:Program}{f g t:FuncId}(hf:Is P f (m3_ g t))(hg:r_c P g)(ht:x_2 P t):q_4 P f:=by
 refine⟨hf.2,λF h q st hr hq=>a4_ hf.1 (J_y rfl) ?_⟩
 show vc P (m3_ g t).code ⟨[(0,.ptr q 2 0 0)],[],h⟩ (b2_ (m3_ g t).res _)
 rw[p_h]
 simp only[m3_,go_sem,reduceEqDiff]
 refine a1_ ⟨hg.1,hg.2 F h q st hr hq⟩ ?_
 rintro _ h1 ⟨rfl,r1,x1⟩
 simp only[go_sem,reduceEqDiff]
 refine a1_ ⟨ht.1,ht.2 F h1 q _ _ r1 hq⟩ ?_
 rintro _ h2 ⟨r2,x2,p,rfl,po⟩
 simp only[go_sem,reduceEqDiff]
 exact⟨po,r2,x1.trans x2 (λ_ _ x=>x) (λ_ _ x=>x)⟩
theorem M6_.mono {F F':Nat->Prop}{h:a0_}{q:Nat}{st:Rdr}(hr:M6_ F h q st)(hF:∀m,F m->F' m):M6_ F' h q st:=by
 obtain⟨⟨a,h1,h2⟩,h3,h4⟩:=hr
 exact⟨⟨a,h1,Own.mono _ hF (v4_.lt _ _) _ h2⟩,h3,h4⟩
theorem M6_.under {F:Nat->Prop}{h:a0_}{q:Nat}{st:Rdr}(hr:M6_ F h q st):M6_ (λm=>F m/\m<h.length) h q st:=by
 obtain⟨⟨a,h1,h2⟩,h3,h4⟩:=hr
 exact⟨⟨a,h1,Own.lt _ _ h2⟩,h3,h4⟩
theorem z_x {i N:Nat}{xs:List Int}{v:Int}(hx:xs.length=i)(hi:i<N):
  ((xs.map λn=>[AV.int .i64 n])++List.replicate (N-i) [AV.int .i64 0]).set i [.int .i64 v]=((xs++[v]).map λn=>[AV.int .i64 n])++List.replicate (N-(i+1)) [AV.int .i64 0]:=by
 rw[show N-i=(N-(i+1))+1 by omega,List.replicate_succ,K_n _ _ (by simp[hx])]
 simp[hx]
theorem p_b {l:List Int}{n:Nat}(h:8<=l.length):g4_ a2_ (n+1) (some l)=(C4_ (l.take 8) :: (g4_ a2_ n (some (l.drop 8))).1,(g4_ a2_ n (some (l.drop 8))).2):=by
 simp only[g4_,a2_];rw[if_neg (by omega)]
theorem l_u {P:Program}{f g t:FuncId}(hf:Is P f (m2_ g t))(hg:r_c P g)(ht:B_w P t):B_t P f:=by
 refine⟨hf.2,λF h q st hr hq=>a4_ hf.1 (J_y rfl) ?_⟩
 show vc P (m2_ g t).code ⟨[(0,.ptr q 2 0 0)],[],h⟩ (b2_ (m2_ g t).res _)
 simp only[m2_,go_sem,reduceEqDiff]
 refine a1_ ⟨hg.1,hg.2 F h q st hr hq⟩ ?_
 rintro _ h1 ⟨rfl,r1,x1⟩
 have r1':=r1
 have hlt:=r1.lt
 obtain⟨⟨a,a1,a2⟩,a3,a4⟩:=r1
 have bad:l0_ a2_ st=([],none)->∀h',M6_ F h' q none/\Ext (only q) h1 h'->Own (b1_ (l0_ a2_ st).1) (λm=>h.length<=m) h' .nils/\M6_ F h' q (l0_ a2_ st).2/\Ext (only q) h h':=by
  intro e h' hh
  rw[e]
  exact⟨Own.nils 1,hh.1,x1.trans hh.2 (λ_ _ x=>x) (λ_ _ x=>x)⟩
 cases hs:(a2_ st) with
 | mk n s=>
 rw[hs]at r1' a1 a2 a3 a4
 simp only at r1' a1 a2 a3 a4
 cases s with
 | none=>
  simp only[go_sem,reduceEqDiff,reduceAdd,a1,M_d]
  refine a1_ ⟨ht.1,ht.2 F _ q none r1'⟩ ?_
  rintro _ h' hh
  simp only[go_sem,reduceEqDiff]
  exact bad (by simp only[l0_,e_i,hs]) h' hh
 | some l=>
  simp only[Rdr.all,K_v,L_p]at a1 a2 a3 a4
  have ll:=(Own.rd _ (F':=λ_=>True) (λ_ _=>trivial) _ a2).bytes_len
  have e8:IntKind.i64.wrap ((l.length:Int).tdiv 8)=((l.length / 8:Nat):Int):=by
   have:(l.length:Int).tdiv 8=((l.length / 8:Nat):Int):=by rw[L_4 (by omega)];omega
   rw[this,a7_ (by omega)]
  have n8:¬(8:Int)=0:=by omega
  by_cases c1:n<0
  ·simp only[go_sem,reduceEqDiff,reduceAdd,a1,decide_eq_true c1]
   refine a1_ ⟨ht.1,ht.2 F _ q _ r1'⟩ ?_
   rintro _ h' hh
   simp only[go_sem,reduceEqDiff]
   exact bad (by simp only[l0_,e_i,hs];rw[if_pos (.inl c1)]) h' hh
  by_cases c2:((l.length / 8:Nat):Int)<n
  ·simp only[go_sem,reduceEqDiff,reduceAdd,a1,decide_eq_false c1,ll,A_h,if_neg n8,e8,decide_eq_true c2]
   refine a1_ ⟨ht.1,ht.2 F _ q _ r1'⟩ ?_
   rintro _ h' hh
   simp only[go_sem,reduceEqDiff]
   exact bad (by simp only[l0_,e_i,hs];rw[if_pos (.inr c2)]) h' hh
  have em:l0_ a2_ st=g4_ a2_ n.toNat (some l):=by simp only[l0_,e_i,hs];rw[if_neg (by omega)]
  rw[em]
  simp only[go_sem,reduceEqDiff,reduceAdd,a1,decide_eq_false c1,ll,A_h,if_neg n8,e8,decide_eq_false c2,t_t,n_4 (show 0<=n by omega) (L_e n) (show n*(8:Nat)<=2^46 by omega)]
  obtain⟨N,rfl⟩:=L_2 (show 0<=n by omega)
  have la:M5_ (.ref h1.length 1 0 N (some N))=some (.int .i64 N):=rfl
  have q1:q<h1.length:=hlt
  have U:=(M6_.under r1').up (Ext.b1 (some (.arr 1 (List.replicate ((N:Nat):Int).toNat [.int .i64 0]) false)))
  have hl1:=x1.1
  simp only[go_sem,L_b]
  simp only[go_sem,la]
  simp only[L_b]at U
  refine e8_ (λm L h'=>∃(i:Nat)(xs:List Int)(l':List Int),lk 0 L=.ptr q 2 0 0/\lk 4 L=.ref h1.length 1 0 N (some N)/\lk 31 L=.int .i64 N/\lk 32 L=.int .i64 i /\
    h'[h1.length]?=some (some (.arr 1 ((xs.map λn=>[.int .i64 n])++List.replicate (N-i) [.int .i64 0]) false))/\M6_ (λm=>F m/\m<h1.length) h' q (some l')/\Ext (only q) h1 h' /\
    xs.length=i/\i<=N/\m=N-i/\8*(N-i)<=l'.length/\g4_ a2_ N (some l)=(xs++(g4_ a2_ (N-i) (some l')).1,(g4_ a2_ (N-i) (some l')).2)) N ?_ ?_
  ·exact⟨0,[],l,by simp[a3_,c9_],by simp[a3_],by simp[a3_],by simp[a3_],by simp[x3_],U,Ext.app _ _ _,rfl,by omega,by omega,by omega,by simp⟩
  ·rintro m L h2 ⟨i,xs,l',k0,k4,k31,k32,hrow,hR,hE,hx,hi,rfl,h8,hq2⟩
   simp only[z4_,go_sem,k31,k32]
   refine b0_ (λci=>?_) (λci=>?_)
   ·simp at ci
    have e1:IntKind.i64.wrap (↑i+1)=(i:Int)+1:=a7_ (by omega)
    simp only[go_sem,reduceEqDiff,k0,k4,k32]
    refine a1_ ⟨hg.1,hg.2 _ h2 q _ hR (λhm=>hq hm.1)⟩ ?_
    rintro _ h3 ⟨rfl,r3,x3⟩
    have l8:¬l'.length<8:=by omega
    have ev:a2_ (some l')=(C4_ (l'.take 8),some (l'.drop 8)):=by simp only[a2_];rw[if_neg l8]
    rw[ev]at r3 ⊢
    have hl2:=hE.1
    have hlt2:=(J_w.1 hrow).1
    have hrow3:h3[h1.length]?=_:=(x3.2 _ hlt2 (by simp only[only];omega)).trans hrow
    have hlt3:=(J_w.1 hrow3).1
    have ix:q9_ 1 (.ref h1.length 1 0 N (some N)) (.int .i64 i)=some (.ptr h1.length 1 (0+i) 0):=by
     simp only[q9_];rw[if_pos ⟨trivial,by omega,by omega⟩];simp
    have st2:=K8_ (x:=.int .i64 (C4_ (l'.take 8))) (cs':=[.int .i64 (C4_ (l'.take 8))]) (j:=0+i) hrow3 (cs:=[.int .i64 0]) (by rw[M_f,K_a (by simp[hx])];simp only[K_p,hx,Nat.sub_self];rw[L_l,if_pos (by omega)]) rfl rfl rfl rfl
    simp only[go_sem,reduceEqDiff,k0,k4,k31,k32,ix,st2,e1]
    refine⟨_,by omega,i+1,xs++[C4_ (l'.take 8)],l'.drop 8,by simp,?_,?_,?_,by simp[hx],ci,rfl,by simp;omega,?_⟩
    ·rw[if_pos hlt3,M_f,z_x hx ci]
    ·exact r3.keep (J_x (by omega)) (λm hm y hy=>by rw[J_x (by have:=hm.2;omega)];exact hy)
    ·exact (hE.trans x3 (λ_ _ x=>x) (λ_ _ x=>x)).trans (Ext.setOnly h1.length _) (λ_ _ x=>x) (λm hm hn=>by simp only[only]at hn;omega)
    ·rw[hq2,show N-i=(N-(i+1))+1 by omega,p_b (by omega)]
     simp
   ·simp at ci
    obtain rfl:i=N:=by omega
    simp only[Nat.sub_self,g4_,K_2]at hq2
    rw[hq2]
    simp only[go_sem,reduceEqDiff,k4]
    refine⟨?_,hR.mono (λ_ hm=>hm.1),x1.trans hE (λ_ _ x=>x) (λ_ _ x=>x)⟩
    simp only[b1_,Own,K_p]
    refine .inr (.inr ⟨h1.length,0,some i,_,_,by rw[hx],hl1,hrow,by simp[hx],(λc hc=>by cases hc;omega),?_⟩)
    simp only[Nat.sub_self,List.replicate_zero,K_2,L_d]
    rw[K_r (by simp)]
    exact H7_ .i64 _ _ _
def Rdr.end_:Rdr->Int
 | none=>4
 | some l=>if 0<l.length then 2 else 0
theorem S0_ {P:Program}{f:FuncId}(hf:Is P f f5_){F:Nat->Prop}{h:a0_}{q:Nat}{st:Rdr}(hr:M6_ F h q st):a6_ P f [.ptr q 2 0 0] h λr h'=>r=.int .i64 st.all.length/\h'=h:=by
 refine a4_ hf.1 (J_y rfl) ?_
 show vc P f5_.code ⟨[(0,.ptr q 2 0 0)],[],h⟩ (b2_ f5_.res _)
 obtain⟨⟨a,h1,h2⟩,h3,h4⟩:=hr
 have ll:=(Own.rd _ (F':=λ_=>True) (λ_ _=>trivial) _ h2).bytes_len
 simp only[f5_,go_sem,reduceEqDiff,h1,ll]
theorem C0_ {P:Program}{f:FuncId}(hf:Is P f g9_){F:Nat->Prop}{h:a0_}{q:Nat}{st:Rdr}(hr:M6_ F h q st):a6_ P f [.ptr q 2 0 0] h λr h'=>r=.bool st.isNone/\h'=h:=by
 refine a4_ hf.1 (J_y rfl) ?_
 show vc P g9_.code ⟨[(0,.ptr q 2 0 0)],[],h⟩ (b2_ g9_.res _)
 obtain⟨⟨a,h1,h2⟩,h3,h4⟩:=hr
 simp only[g9_,go_sem,reduceEqDiff,reduceAdd,h1]
theorem f_b {P:Program}{f:FuncId}(hf:Is P f e4_){F:Nat->Prop}{h:a0_}{q:Nat}{st:Rdr}(hr:M6_ F h q st):a6_ P f [.ptr q 2 0 0] h λr h'=>r=.int .i64 st.end_/\h'=h:=by
 refine a4_ hf.1 (J_y rfl) ?_
 show vc P e4_.code ⟨[(0,.ptr q 2 0 0)],[],h⟩ (b2_ e4_.res _)
 obtain⟨⟨a,h1,h2⟩,h3,h4⟩:=hr
 have ll:=(Own.rd _ (F':=λ_=>True) (λ_ _=>trivial) _ h2).bytes_len
 cases st with
 | none=>
  simp only[e4_,go_sem,reduceEqDiff,reduceAdd,h1,M_d]
  exact rfl
 | some l=>
  simp only[Rdr.all,K_v]at ll
  by_cases c:(0:Int)<l.length
  ·simp only[e4_,go_sem,reduceEqDiff,reduceAdd,h1,L_p,ll,decide_eq_true c]
   simp only[Rdr.end_];rw[if_pos (by omega)]
  ·simp only[e4_,go_sem,reduceEqDiff,reduceAdd,h1,L_p,ll,decide_eq_false c]
   simp only[Rdr.end_];rw[if_neg (by omega)]
def L5_ (P:Program)(f:FuncId):Prop:=
 f2_ P f=true/\∀(F:Nat->Prop)(h:a0_)(l:List Int)(a:AV),Rd F h (b3_ l) a->l.length<=2^40->a6_ P f [a] h λr h'=>Own (b3_ l) (λm=>h.length<=m) h' r/\Ext nof h h'
theorem k_v {P:Program}{f:FuncId}(hf:Is P f d4_)(hk:c_c P f):L5_ P f:=by
 refine⟨hf.2,λF h l a ha hl=>?_⟩
 by_cases h0:l=[]
 ·subst h0
  intro G w vs g hv
  obtain⟨v,rfl,hV⟩:=s_w hv
  have hz:v=.slice none 0 0\/∃p c,v=.slice (some p) 0 c:=by
   simp only[b3_,K_9,Rd,E4_]at ha
   obtain⟨es,he,rfl⟩:=ha
   rcases he with⟨rfl,_⟩ | ⟨t,c,rfl⟩ | ⟨n,off,len,cap,row,gr,rfl,_,hrow,hle,hcl,hes⟩
   ·cases hV;exact .inl rfl
   ·generalize hee:([]:List (List AV))=es at hV
    cases hV with
    | valsNil=>exact .inl rfl
    | vals=>subst hee;exact .inr ⟨_,_,rfl⟩
   ·have h1:len=0:=by
     have:=congrArg List.length hes
     simp at this;omega
    subst h1
    cases hV with
    | refNil=>exact .inl rfl
    | ref=>exact .inr ⟨_,_,rfl⟩
  rcases hz with rfl | ⟨p,c,rfl⟩
  ·have:a6_ P f [.nils] h λr h'=>Own (b3_ []) (λm=>h.length<=m) h' r/\Ext nof h h':=by
    refine a4_ hf.1 (J_y rfl) ?_
    show vc P d4_.code ⟨[(0,.nils)],[],h⟩ (b2_ d4_.res _)
    have an:Y9_ false .nils=some (.bool true):=rfl
    simp only[d4_,go_sem,reduceEqDiff,W1_,an]
    exact⟨Own.nils 1,Ext.refl _ _⟩
   exact this G w _ g (n_s .nils)
  ·refine (hk.zero p c w).mono ?_
   rintro e w' ⟨a',c',rfl,hsp,hr,hs⟩
   obtain⟨g',s'⟩:=g.stay hr hs
   refine⟨_,.vals 0 false 1 [],h,G,rfl,⟨?_,Ext.refl _ _⟩,g',?_,s'⟩
   ·simp only[b3_,K_9,Own];exact .inr (.inl ⟨0,false,rfl,trivial⟩)
   ·exact V.vals (G:=G) (w:=w') 0 false 1 [] a' c' (λ_ _=>undef) (L_f _) (λe=>by cases e) (λ_=>hsp) (λhne=>absurd rfl hne) (λe he=>by simp at he) (λi j c hj=>by simp[l1_]at hj) (λi j c hj=>by simp[l1_]at hj)
 ·refine a4_ hf.1 (J_y rfl) ?_
  show vc P d4_.code ⟨[(0,a)],[],h⟩ (b2_ d4_.res _)
  have an:Y9_ false a=some (.bool false):=by
   have hpos:0<l.length:=List.length_pos_iff.2 h0
   have hl':=ha.bytes_len
   simp only[b3_,Rd]at ha
   obtain⟨es,he,hes⟩:=ha
   have hlen:=x9_ hes
   rw[K_p]at hlen
   rcases he with⟨rfl,rfl⟩ | ⟨t,c,rfl⟩ | ⟨n,off,len,cap,row,gr,rfl,_,hrow,hle,hcl,rfl⟩
   ·simp at hlen;omega
   ·simp only[Y9_,F0_,e_w,if_true];rw[if_pos (by omega)];rfl
   ·simp only[K_i,K_o]at hlen
    simp only[Y9_,F0_,e_w,if_true];rw[if_pos (by omega)];rfl
  obtain⟨ys,hys,hyr⟩:=(ha.up (Ext.b1 (some (.arr 1 [] false)))).elems
  obtain⟨o,h',hap,ho',hc',he'⟩:=G6_ (lo:=h.length) (sz:=1) (bytes:=1) (ds:=[]) (h0:=h++[some (.arr 1 [] false)]) (h:=h++[some (.arr 1 [] false)]) (av:=.ref h.length 1 0 0 (some 0))
   (by simp only[Own];exact .inr (.inr ⟨_,0,some 0,[],false,rfl,J_4 _,x3_ _ _,by simp,(λc hc=>by cases hc;simp),by simp[a8_]⟩))
   ⟨[],false,x3_ _ _,(λh=>by cases h),λc hc=>by cases hc;simp⟩ (Ext.refl nof _) (N0_ hyr) (by simp) (by simp;omega)
  have ha2:=c6_ hys 1 (.ref h.length 1 0 0 (some 0))
  rw[hap]at ha2
  simp only[d4_,go_sem,reduceEqDiff,W1_,an,ha2]
  exact⟨by simpa [b3_] using ho',(Ext.b1 _).then he' (λm hm hm'=>by omega)⟩
def q_v (P:Program)(f:FuncId):Prop:=f2_ P f=true/\∀(G:Nat->Prop)(h:a0_)(l:List Int)(b:AV),Rd G h (b3_ l) b->c2_ l->l.length<=2^40->
 a6_ P f [b] h λr h'=>∃q,r=.ptr q 2 0 0/\h.length<=q/\M6_ (λm=>h.length<=m/\m<q) h' q (some l)/\Ext nof h h'
theorem i_2 {P:Program}{f g:FuncId}(hf:Is P f (D7_ g))(hg:L5_ P g):q_v P f:=by
 refine⟨hf.2,λG h l b hb h1 h2=>a4_ hf.1 (J_y rfl) ?_⟩
 show vc P (D7_ g).code ⟨[(0,b)],[],h⟩ (b2_ (D7_ g).res _)
 simp only[D7_,go_sem,reduceEqDiff]
 refine a1_ ⟨hg.1,hg.2 G h l b hb h2⟩ ?_
 rintro r H ⟨ro,rx⟩
 simp only[go_sem,reduceEqDiff,reduceAdd,reduceLeDiff,ro.scalar,b5_ ro.scalar]
 refine⟨H.length,rfl,rx.1,⟨⟨r,x3_ _ _,?_⟩,h1,h2⟩,rx.tr (Ext.b1 _)⟩
 exact Own.mono _ (λm hm=>hm) ((Ext.b1 _).keep _) _ (Own.lt _ _ ro)
end Glb
