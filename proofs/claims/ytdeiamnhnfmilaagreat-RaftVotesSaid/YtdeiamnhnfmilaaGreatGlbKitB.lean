/-
  A library of its own.
-/
import Derived.Test.YtdeiamnhnfmilaaGreatGlbKitA
import Derived.Test.YtdeiamnhnfmilaaGreatGlbCpack
import Derived.Test.YtdeiamnhnfmilaaGreatGlbLibE
set_option linter.unusedSimpArgs false
set_option linter.unusedVariables false
set_option maxRecDepth 10000
set_option maxHeartbeats 4000000
open Nat (reduceAdd reduceDiv reduceEqDiff reduceLeDiff reduceMod reducePow)
namespace Glb
open Go
theorem W4_ {sz bytes:Nat}{F:Nat->Prop}{ds es:List (List D)}{h0 h:a0_}{av:AV}{ys:List (List AV)}(ho:Own (.sl sz ds) F h0 av)(hc:d2_ h0 av)
  (hx:Ext nof h0 h) (hy:a8_ es (λm=>h0.length<=m) h ys) (hF:∀m,h0.length<=m->F m) (hb:(ds.length+es.length)*bytes<=2^46):
  ∃av' h',d3_ h sz bytes av ys=some (av',h')/\Own (.sl sz (ds++es)) F h' av'/\d2_ h' av'/\Ext F h h':=by
 have hyl:=k1_ hy
 have fresh:∀(hh:a0_) (dd:List (List D)) (es':List (List AV)),F hh.length->a8_ dd F hh es'->
   Own (.sl sz dd) F (c0_ hh sz es').2 (c0_ hh sz es').1/\d2_ (c0_ hh sz es').2 (c0_ hh sz es').1:=by
  intro hh dd es' hl hd
  have hlen:=k1_ hd
  refine⟨?_,⟨es',true,by simp[c0_],(λ_=>rfl),(λc hc=>by cases hc)⟩⟩
  simp only[Own,c0_]
  refine .inr (.inr ⟨hh.length,0,none,es',true,by rw[hlen],hl,by simp,by omega,(λc hc=>by cases hc),?_⟩)
  have:(es'.drop 0).take dd.length=es':=by rw[L_d,K_r (by omega)]
  rw[this]
  refine a8_.mono dd (λm hm=>⟨hm.1,by have:=hm.2;omega⟩) ?_ _ (a8_.lt dd _ hd)
  intro m hm x hx
  rw[J_1 hm.2];exact hx
 simp only[Own]at ho
 rcases ho with⟨rfl,rfl⟩ | ⟨t,c,rfl,rfl⟩ | ⟨n,off,cap,row,g,rfl,hn,hrow,hle,hcl,hd⟩
 · -- nothing yet
  have hy':a8_ es F h ys:=a8_.mono es (λm hm=>hF _ hm) (λ_ _ _ x=>x) _ hy
  obtain⟨a,b⟩:=fresh h es ys (hF _ hx.1) hy'
  refine⟨_,_,?_,by simpa using a,b,?_⟩
  ·simp only[d3_];rw[if_pos (by rw[hyl];simpa using hb)]
  ·exact Ext.app _ _ _
 ·have hc1:c=true:=hc
  subst hc1
  have hy':a8_ es F h ys:=a8_.mono es (λm hm=>hF _ hm) (λ_ _ _ x=>x) _ hy
  simp only[d3_]
  rw[if_pos ⟨trivial,by rw[hyl];simpa using hb⟩]
  by_cases hy0:ys.length=0
  ·rw[if_pos hy0]
   have hes:es=[]:=J_3 (by omega)
   subst hes
   refine⟨_,_,rfl,?_,rfl,Ext.refl _ _⟩
   simp only[Own]
   exact .inr (.inl ⟨t,true,rfl,rfl⟩)
  ·rw[if_neg hy0,if_pos trivial]
   obtain⟨a,b⟩:=fresh h es ys (hF _ hx.1) hy'
   exact⟨_,_,rfl,by simpa [c0_] using a,b,Ext.app _ _ _⟩
 ·obtain⟨row',g',hrow',hcn,hcs⟩:=hc
  rw[hrow]at hrow'
  obtain⟨rfl,rfl⟩:row=row'/\g=g':=by simpa using hrow'
  have hnlt:=(J_w.1 hrow).1
  have hrow1:h[n]?=some (some (.arr sz row g)):=hx.get hrow
  have hnlt1:=(J_w.1 hrow1).1
  have hd1:a8_ ds (λm=>F m/\m≠n) h ((row.drop off).take ds.length):=a8_.mono ds (λm hm=>hm) (hx.keep _) _ hd
  have hy1:a8_ es (λm=>F m/\m≠n) h ys:=a8_.mono es (λm hm=>⟨hF _ hm,by omega⟩) (λ_ _ _ x=>x) _ hy
  have both:a8_ (ds++es) F h ((row.drop off).take ds.length++ys):=a8_.mono _ (λm hm=>hm.1) (λ_ _ _ x=>x) _ (q3_ hd1 hy1)
  simp only[d3_,hrow1]
  rw[if_pos ⟨trivial,trivial,hle,by rw[hyl];exact hb⟩]
  cases cap with
  | none=>
   obtain rfl:=hcn rfl
   simp only[if_true]
   have both':a8_ (ds++es) F (h.set n none) (row.take ds.length++ys):=by
    have:=q3_ hd1 hy1
    rw[L_d]at this
    exact a8_.mono _ (λm hm=>hm.1) (λm hm x hx=>by rw[J_x (λe=>hm.2 e.symm)];exact hx) _ this
   obtain⟨a,b⟩:=fresh (h.set n none) (ds++es) (row.take ds.length++ys) (by rw[J_2];exact hF _ hx.1) both'
   exact⟨_,_,rfl,a,b,(Ext.set none (λ_=>hn)).trans (Ext.app F _ _) (λ_ _ x=>x) (λ_ _ x=>x)⟩
  | some c=>
   have hc1:=hcl c rfl
   have hc2:=hcs c rfl
   cases c with
   | zero=>
    have h0:ds.length=0:=by omega
    have hds:ds=[]:=J_3 h0
    subst hds
    simp only[K_d,if_true]
    by_cases hy0:ys.length=0
    ·rw[if_pos hy0]
     have hes:es=[]:=J_3 (by omega)
     subst hes
     refine⟨_,_,rfl,?_,⟨row,g,hrow1,(λe=>by cases e),(λc hc=>by cases hc;omega)⟩,Ext.refl _ _⟩
     simp only[Own]
     exact .inr (.inr ⟨n,off,some 0,row,g,rfl,hn,hrow1,by simpa using hle,(λc hc=>by cases hc;simp),by simp[a8_]⟩)
    ·rw[if_neg hy0]
     have hy2:a8_ es F h ys:=a8_.mono es (λm hm=>hm.1) (λ_ _ _ x=>x) _ hy1
     obtain⟨a,b⟩:=fresh h es ys (hF _ hx.1) hy2
     exact⟨_,_,rfl,by simpa [c0_] using a,b,Ext.app _ _ _⟩
   | succ c=>
    simp only
    by_cases hcap:c+1<ds.length+ys.length
    ·rw[if_pos hcap]
     obtain⟨a,b⟩:=fresh h (ds++es) _ (hF _ hx.1) both
     exact⟨_,_,rfl,a,b,Ext.app _ _ _⟩
    ·rw[if_neg hcap,if_pos (by omega)]
     have hsl:(e1_ row (off+ds.length) ys).length=row.length:=by simp[e1_];omega
     refine⟨_,_,rfl,?_,⟨_,g,by rw[J_0 hnlt1],(λe=>by cases e),(λc' hc'=>by cases hc';rw[hsl];exact hc2)⟩,Ext.set _ (λ_=>hn)⟩
     simp only[Own]
     refine .inr (.inr ⟨n,off,some (c+1),e1_ row (off+ds.length) ys,g,by rw[J_z,hyl],hn,by rw[J_0 hnlt1],by rw[hsl,J_z];omega,
      (λc' hc'=>by cases hc';rw[J_z];omega),?_⟩)
     have e:((e1_ row (off+ds.length) ys).drop off).take (ds++es).length=(row.drop off).take ds.length++ys:=by
      apply K_0
      intro i
      simp only[K_7,K_m,J_z,e1_,K_q,K_i,J_z,K_o]
      rw[show min (off+ds.length) row.length=off+ds.length by omega,show min ds.length (row.length-off)=ds.length by omega]
      by_cases h1:i<ds.length
      ·rw[if_pos (by omega),if_pos (by omega),if_pos (by omega),if_pos (by omega),if_pos h1]
       simp[h1]
      ·by_cases h2:i<ds.length+es.length
       ·rw[if_pos h2,if_pos (by omega),if_neg (by omega),if_neg h1]
        congr 1;omega
       ·rw[if_neg h2,if_neg h1,K_3 (by omega)]
     rw[e]
     refine a8_.mono _ (λm hm=>hm) ?_ _ (q3_ hd1 hy1)
     intro m hm x hx
     rw[J_x (λe=>hm.2 e.symm)];exact hx
def A1_ (v:Int)(k:Nat):Int:=IntKind.u8.wrap ((IntKind.u64.wrap v).fdiv (2^(8*(7-k))))
def num (v:Int):List Int:=[A1_ v 0,A1_ v 1,A1_ v 2,A1_ v 3,A1_ v 4,A1_ v 5,A1_ v 6,A1_ v 7]
theorem c7_ (v:Int):(num v).length=8:=rfl
theorem A_q (v:Int)(j:Nat)(hj:j<8):(num v)[j]?=some (A1_ v j):=by
 match j,hj with
 | 0,_=>rfl
 | 1,_=>rfl
 | 2,_=>rfl
 | 3,_=>rfl
 | 4,_=>rfl
 | 5,_=>rfl
 | 6,_=>rfl
 | 7,_=>rfl
theorem V4_ {α:Type}{l:List α}{j:Nat}{x:α} (h:l[j]?=some x):l.take (j+1)=l.take j++[x]:=by
 rw[List.take_add_one,h];rfl
def c_b (P:Program)(f:FuncId):Prop:=
 f2_ P f=true/\∀(lo:Nat)(h:a0_)(l:List Int)(b:AV)(v:Int),Own (b3_ l) (λm=>lo<=m) h b->d2_ h b->lo<=h.length->l.length<=2^45->
  a6_ P f [b,.int .i64 v] h λr h'=>Own (b3_ (l++num v)) (λm=>lo<=m) h' r/\d2_ h' r/\Ext (λm=>lo<=m) h h'
theorem z_s (a b:Int):V2_ .shr (.int .u64 a) (.int .i64 b)=j_m .shr .u64 a b:=Eq.trans rfl rfl
theorem W6_ {P:Program}{f:FuncId}(hf:Is P f w7_):c_b P f:=by
 refine⟨hf.2,λlo h l b v hb hc hlo hl=>a4_ hf.1 (J_y rfl) ?_⟩
 show vc P w7_.code ⟨[(0,b),(1,.int .i64 v)],[],h⟩ (b2_ w7_.res _)
 simp only[w7_,go_sem]
 refine e8_ (λm L h'=>∃(j:Nat)(o:AV),lk 0 L=o/\lk 1 L=.int .i64 v/\lk 5 L=.int .i64 (7-(j:Int))/\j<=8/\m=8-j /\
  Own (b3_ (l++(num v).take j)) (λm=>lo<=m) h' o/\d2_ h' o/\Ext (λm=>lo<=m) h h') 8 ?_ ?_
 ·exact⟨0,b,by simp[a3_,c9_],by simp[a3_,c9_],by simp[a3_],by omega,by omega,by simpa using hb,hc,Ext.refl _ _⟩
 ·rintro m L h' ⟨j,o,h0,h1,h5,hj,rfl,ho,hc',he⟩
  simp only[L9_,go_sem,h5]
  refine b0_ (λci=>?_) (λci=>?_)
  ·simp at ci
   have e1:IntKind.i64.wrap (8*(7-(j:Int)))=((8*(7-j):Nat):Int):=by rw[a7_ (by omega)];omega
   have e2:IntKind.i64.wrap (7-(j:Int)-1)=7-((j+1:Nat):Int):=by rw[a7_ (by omega)];omega
   have e3:j_m .shr .u64 (IntKind.u64.wrap v) ((8*(7-j):Nat):Int)=some (.int .u64 ((IntKind.u64.wrap v).fdiv (2^(8*(7-j))))):=by
    simp only[j_m]
    rw[if_neg (by omega),L_b,M_b (by simp[IntKind.bits];omega)]
   have e4:IntKind.u8.wrap ((IntKind.u64.wrap v).fdiv (2^(8*(7-j))))=A1_ v j:=rfl
   have hln:(l++(num v).take j).length=l.length+j:=by simp[c7_];omega
   obtain⟨o',h2,ha,ho',hc2,he'⟩:=G6_ (bytes:=1) (es:=[[.int .u8 (A1_ v j)]]) (h:=h'++[some (.arr 1 [[.int .u8 (A1_ v j)]] false)]) ho hc' (Ext.app _ _ _) (ys:=[[.int .u8 (A1_ v j)]])
    (by simp[a8_,g2_,Own]) (K_e hlo he.1) (by rw[K_p,hln];simp;omega)
   simp only[go_sem,reduceEqDiff,reduceAdd,h0,h1,h5,e1,e2,z_s,e3,e4,k_o,c6_ (l4_ h' 1 [[.int .u8 (A1_ v j)]] false (some 1) (len:=1) rfl),ha]
   refine⟨_,?_,j+1,o',rfl,rfl,by omega,rfl,?_,hc2,?_⟩
   ·omega
   ·rw[V4_ (A_q v j (by omega)),<-K_h,b3_,K_8];exact ho'
   ·exact (he.trans (Ext.app nof h' _) (λ_ _ x=>x) (λ_ _ x=>x.elim)).trans he' (λ_ _ x=>x) (λm hm hm'=>hm')
  ·simp at ci
   simp only[go_sem,reduceEqDiff,h0]
   obtain rfl:j=8:=by omega
   exact⟨ho,hc',he⟩
def D_w (h:a0_)(sz bytes:Nat)(zero:List AV):AV->AV->Option (AV×a0_)
 | .int _ l,.int _ c=>if 0<=l/\l<=c/\c*bytes<=2^46 then some (.ref h.length sz 0 l.toNat (some c.toNat),h++[some (.arr sz (List.replicate c.toNat zero) false)]) else none
 | _,_=>none
theorem t_t (g:Opd->AV)(h:a0_)(sz bytes:Nat)(zero:List AV)(l c:Opd):hev g h (.mks sz bytes zero l c)=D_w h sz bytes zero (g l) (g c):=by
 simp only[hev,f7_,D_w]
 generalize g l=x
 generalize g c=y
 cases x<;>cases y<;>simp only
 rename_i k l k' c
 by_cases q:0<=l/\l<=c/\c*(bytes:Int)<=2^46
 ·rw[if_pos q,if_pos q]
 ·rw[if_neg q,if_neg q]
theorem n_4 {h:a0_}{sz bytes:Nat}{zero:List AV}{k k':IntKind}{l c:Int}(h0:0<=l)(h1:l<=c)(h2:c*bytes<=2^46):
  D_w h sz bytes zero (.int k l) (.int k' c)=some (.ref h.length sz 0 l.toNat (some c.toNat),h++[some (.arr sz (List.replicate c.toNat zero) false)]):=by
 simp only[D_w];rw[if_pos ⟨h0,h1,h2⟩]
theorem s_v {sz:Nat}(h:a0_)(c:Nat)(zero:List AV):Own (.sl sz []) (λm=>h.length<=m) (h++[some (.arr sz (List.replicate c zero) false)]) (.ref h.length sz 0 0 (some c)) /\
  d2_ (h++[some (.arr sz (List.replicate c zero) false)]) (.ref h.length sz 0 0 (some c)):=by
 constructor
 ·simp only[Own]
  exact .inr (.inr ⟨h.length,0,some c,List.replicate c zero,false,rfl,J_4 _,x3_ _ _,by simp,(λd hd=>by cases hd;simp),by simp[a8_]⟩)
 ·exact⟨_,false,x3_ _ _,(λhc=>by cases hc),(λd hd=>by cases hd;simp)⟩
theorem N0_ {n:IntKind}{F G:Nat->Prop}{h h':a0_}:∀{l:List Int} {ys:List (List AV)},E4_ F h (l.map λx=>[.int n x]) ys->a8_ (l.map λx=>[.int n x]) G h' ys:=by
 intro l
 induction l with
 | nil=>intro ys hh;simpa [E4_,a8_] using hh
 | cons x l ih=>
  intro ys hh
  simp only[K_t,E4_]at hh
  obtain⟨e,r,rfl,h1,h2⟩:=hh
  simp only[RdL,Rd]at h1
  obtain⟨_,_,rfl,rfl,rfl⟩:=h1
  simp only[K_t,a8_]
  exact⟨_,_,rfl,⟨_,_,rfl,by simp only[Own],rfl⟩,ih h2⟩
def n_9 (P:Program)(f:FuncId):Prop:=
 f2_ P f=true/\∀(F:Nat->Prop)(h:a0_)(l:List Int)(b:AV)(n:Int),Rd F h (b3_ l) b->l.length<=2^42->0<=n/\n<=2^42->
  a6_ P f [b,.int .i64 n] h λr h'=>Own (b3_ l) (λm=>h.length<=m) h' r/\d2_ h' r/\Ext nof h h'
theorem f_4 {P:Program}{f:FuncId}(hf:Is P f D6_):n_9 P f:=by
 refine⟨hf.2,λF h l b n hb hl hn=>a4_ hf.1 (J_y rfl) ?_⟩
 show vc P D6_.code ⟨[(0,b),(1,.int .i64 n)],[],h⟩ (b2_ D6_.res _)
 have lb:=hb.len
 simp only[K_p]at lb
 have e1:IntKind.i64.wrap ((l.length:Int)+n)=(l.length:Int)+n:=a7_ (by omega)
 have hm:=n_4 (h:=h) (sz:=1) (bytes:=1) (zero:=[.int .u8 0]) (k:=.i64) (k':=.i64) (l:=0) (c:=(l.length:Int)+n) (L_e 0) (by omega) (by omega)
 have oe:=s_v (sz:=1) h ((l.length:Int)+n).toNat [.int .u8 0]
 obtain⟨ys,hys,hyr⟩:=(hb.up (Ext.b1 (some (.arr 1 (List.replicate ((l.length:Int)+n).toNat [.int .u8 0]) false)))).elems
 obtain⟨r,h2,ha,hr,hc,he⟩:=G6_ (bytes:=1) oe.1 oe.2 (Ext.refl nof _) (N0_ hyr) (by simp) (by simp;omega)
 have ha':=c6_ hys 1 (.ref h.length 1 0 0 (some ((l.length:Int)+n).toNat))
 rw[ha]at ha'
 simp only[D6_,go_sem,reduceEqDiff,lb,e1,t_t,hm,Int.toNat_zero,ha']
 exact⟨hr,hc,(Ext.b1 _).then he (λm hm hm'=>by omega)⟩
def f_y (P:Program)(f:FuncId):Prop:=
 f2_ P f=true/\∀(F:Nat->Prop)(h:a0_)(l p:List Int)(b a:AV),Rd F h (b3_ l) b->Rd F h (b3_ p) a->l.length<=2^41->p.length<=2^41->
  a6_ P f [b,a] h λr h'=>Own (b3_ (l++num p.length++p)) (λm=>h.length<=m) h' r/\d2_ h' r/\Ext nof h h'
theorem a_2 {P:Program}{f fr fn:FuncId}(hf:Is P f (D9_ fr fn))(hr:n_9 P fr)(hn:c_b P fn):f_y P f:=by
 refine⟨hf.2,λF h l p b a hb ha hl hp=>a4_ hf.1 (J_y rfl) ?_⟩
 show vc P (D9_ fr fn).code ⟨[(0,b),(1,a)],[],h⟩ (b2_ (D9_ fr fn).res _)
 have la:=ha.len
 simp only[K_p]at la
 have e1:IntKind.i64.wrap (8+(p.length:Int))=8+(p.length:Int):=a7_ (by omega)
 simp only[D9_,go_sem,reduceEqDiff,la,e1]
 refine a1_ ⟨hr.1,hr.2 F _ l _ _ hb (by omega) (by omega)⟩ ?_
 rintro r h1 ⟨ro,rc,x1⟩
 simp only[go_sem,reduceEqDiff,la]
 refine a1_ ⟨hn.1,hn.2 h.length _ l _ _ ro rc x1.1 (by omega)⟩ ?_
 rintro s h2 ⟨so,sc,x2⟩
 have x12:=x1.then x2 (λm hm hm'=>by omega)
 obtain⟨ys,hys,hyr⟩:=(ha.up x12).elems
 obtain⟨t,h3,ht,to,tc,x3⟩:=G6_ (bytes:=1) so sc (Ext.refl nof _) (N0_ hyr) x12.1 (by simp[c7_];omega)
 have ha':=c6_ hys 1 s
 rw[ht]at ha'
 simp only[go_sem,reduceEqDiff,ha']
 refine⟨?_,tc,x12.then x3 (λm hm hm'=>by omega)⟩
 rw[b3_,K_8];exact to
def nums:List Int->List Int
 | []=>[]
 | x :: r=>num x++nums r
theorem g_i:∀(a b:List Int),nums (a++b)=nums a++nums b
 | [],b=>rfl
 | x :: r,b=>by simp only[List.cons_append,nums,g_i r b,K_h]
theorem f3_:∀(a:List Int),(nums a).length=8*a.length
 | []=>rfl
 | x :: r=>by simp only[nums,J_z,c7_,f3_ r,List.length_cons];omega
def y_o (P:Program)(f:FuncId):Prop:=
 f2_ P f=true/\∀(F:Nat->Prop)(h:a0_)(l p:List Int)(b a:AV),Rd F h (b3_ l) b->Rd F h (b1_ p) a->l.length<=2^38->p.length<=2^38->
  a6_ P f [b,a] h λr h'=>Own (b3_ (l++num p.length++nums p)) (λm=>h.length<=m) h' r/\d2_ h' r/\Ext nof h h'
theorem i_3 {P:Program}{f fr fn:FuncId}(hf:Is P f (D8_ fr fn))(hr:n_9 P fr)(hn:c_b P fn):y_o P f:=by
 refine⟨hf.2,λF h l p b a hb ha hl hp=>a4_ hf.1 (J_y rfl) ?_⟩
 show vc P (D8_ fr fn).code ⟨[(0,b),(1,a)],[],h⟩ (b2_ (D8_ fr fn).res _)
 have la:=ha.len
 simp only[K_p]at la
 have e0:IntKind.i64.wrap (8*(p.length:Int))=8*(p.length:Int):=a7_ (by omega)
 have e1:IntKind.i64.wrap (8+8*(p.length:Int))=8+8*(p.length:Int):=a7_ (by omega)
 simp only[D8_,go_sem,reduceEqDiff,la,e0,e1]
 refine a1_ ⟨hr.1,hr.2 F _ l _ _ hb (by omega) (by omega)⟩ ?_
 rintro r h1 ⟨ro,rc,x1⟩
 simp only[go_sem,reduceEqDiff,la]
 refine a1_ ⟨hn.1,hn.2 h.length _ l _ _ ro rc x1.1 (by omega)⟩ ?_
 rintro s h2 ⟨so,sc,x2⟩
 have x12:=x1.then x2 (λm hm hm'=>by omega)
 simp only[go_sem,reduceEqDiff,la]
 refine e8_ (λm L h'=>∃(i:Nat)(o:AV),lk 17 L=a/\lk 18 L=.int .i64 p.length/\lk 5 L=o/\lk 19 L=.int .i64 i/\i<=p.length/\m=p.length-i /\
  Own (b3_ (l++num p.length++nums (p.take i))) (λm=>h.length<=m) h' o/\d2_ h' o/\Ext nof h h') p.length ?_ ?_
 ·exact⟨0,s,by simp[a3_],by simp[a3_],by simp[a3_],by simp[a3_],by omega,by omega,by simpa [nums] using so,sc,x12⟩
 ·rintro m L h' ⟨i,o,h17,h18,h5,h19,hi,rfl,ho,hc,he⟩
  simp only[R1_,go_sem,h18,h19]
  refine b0_ (λci=>?_) (λci=>?_)
  ·simp at ci
   obtain⟨q,cs,hq,hqc,hcs⟩:=(ha.up he).index .i64 (i:=i) (d:=[.int .i64 p[i]]) (by omega) (by simp[ci])
   simp only[RdL,Rd]at hcs
   obtain⟨_,_,rfl,rfl,rfl⟩:=hcs
   have e2:IntKind.i64.wrap ((i:Int)+1)=(i:Int)+1:=a7_ (by omega)
   simp only[go_sem,reduceEqDiff,h17,h5,h19,hq,n2_ hqc]
   refine a1_ ⟨hn.1,hn.2 h.length _ (l++num p.length++nums (p.take i)) _ p[i] ho hc he.1 (by simp[c7_,f3_];omega)⟩ ?_
   rintro u h3 ⟨uo,uc,x3⟩
   simp only[go_sem,reduceEqDiff,h17,h18,h5,h19,e2]
   refine⟨_,?_,i+1,u,rfl,rfl,ci,rfl,?_,uc,he.then x3 (λm hm hm'=>by omega)⟩
   ·omega
   ·rw[V4_ (x:=p[i]) (by simp[ci]),g_i];simpa [nums] using uo
  ·simp at ci
   simp only[go_sem,reduceEqDiff,h5]
   obtain rfl:i=p.length:=by omega
   rw[K_y]at ho
   exact⟨ho,hc,he⟩
theorem y_s (x:Int):IntKind.u8.wrap x=x % 256:=by
 simp[IntKind.wrap,IntKind.bits,IntKind.signed]
theorem b_1 (x:Int):IntKind.u64.wrap x=x % 18446744073709551616:=by
 simp[IntKind.wrap,IntKind.bits,IntKind.signed]
theorem q_f (v:Int)(k:Nat)(hk:k<=7):A1_ v (7-k)=(IntKind.u64.wrap v / 256^k) % 256:=by
 rw[A1_,y_s,Int.fdiv_eq_ediv_of_nonneg _ (Int.le_of_lt (Int.pow_pos (by decide))),show 7-(7-k)=k by omega,Int.pow_mul]
 rfl
def B_u (P:Program)(f:FuncId):Prop:=
 f2_ P f=true/\∀(F:Nat->Prop)(h:a0_)(l:List Int)(b:AV)(v:Int),Rd F h (b3_ l) b->l.length<=2^42->
  a6_ P f [b,.int .i64 v] h λr h'=>Own (b3_ (l++num v)) (λm=>h.length<=m) h' r/\d2_ h' r/\Ext nof h h'
structure e3_ where
 old:List Int
 new:List Int
 learners:List Int
 deriving DecidableEq
def e3_.c (x:e3_):List D:=[b1_ x.old,b1_ x.new,b1_ x.learners]
def e3_.bytes (x:e3_):List Int:=num x.old.length++nums x.old++(num x.new.length++nums x.new)++(num x.learners.length++nums x.learners)
def O4_ (P:Program)(f:FuncId):Prop:=
 f2_ P f=true/\∀(F:Nat->Prop)(h:a0_)(l:List Int)(b:AV)(x:e3_)(a:List AV),Rd F h (b3_ l) b->RdL F h x.c a->l.length<=2^33->x.old.length<=2^33->x.new.length<=2^33->x.learners.length<=2^33->
  a6_ P f [b,.agg a] h λr h'=>Own (b3_ (l++x.bytes)) (λm=>h.length<=m) h' r/\d2_ h' r/\Ext nof h h'
theorem b_x {P:Program}{f g:FuncId}(hf:Is P f (s4_ g))(hg:y_o P g):O4_ P f:=by
 refine⟨hf.2,λF h l b x a hb ha hl h1 h2 h3=>a4_ hf.1 (J_y rfl) ?_⟩
 show vc P (s4_ g).code ⟨[(0,b),(1,.agg a)],[],h⟩ (b2_ (s4_ g).res _)
 simp only[e3_.c,RdL]at ha
 obtain⟨o,_,rfl,ho,n,_,rfl,hn,e,_,rfl,he,rfl⟩:=ha
 simp only[s4_,go_sem,reduceEqDiff,reduceAdd,ho.scalar,hn.scalar,he.scalar]
 have A0:=x3_ h (some (.arr 3 [[o,n,e]] false))
 have ho':=ho.up (Ext.b1 (some (.arr 3 [[o,n,e]] false)))
 have hn':=hn.up (Ext.b1 (some (.arr 3 [[o,n,e]] false)))
 have he':=he.up (Ext.b1 (some (.arr 3 [[o,n,e]] false)))
 have hb':=hb.up (Ext.b1 (some (.arr 3 [[o,n,e]] false)))
 refine a1_ ⟨hg.1,hg.2 F _ l x.old _ _ hb' ho' (by omega) (by omega)⟩ ?_
 rintro r1 g1 ⟨r1o,r1c,x1⟩
 have A1:=x1.get A0
 simp only[go_sem,reduceEqDiff,reducePow,reduceDiv,reduceMod,decide_true,A1]
 refine a1_ ⟨hg.1,hg.2 (λ_=>True) _ _ x.new _ _ (Own.rd _ (λ_ _=>trivial) _ r1o) (Rd.mono (λ_ _=>trivial) (v4_.lt _ _) _ _ (hn'.up x1)) (by simp[c7_,f3_];omega) (by omega)⟩ ?_
 rintro r2 g2 ⟨r2o,r2c,x2⟩
 have A2:=x2.get A1
 simp only[go_sem,reduceEqDiff,reducePow,reduceDiv,reduceMod,decide_true,A2]
 refine a1_ ⟨hg.1,hg.2 (λ_=>True) _ _ x.learners _ _ (Own.rd _ (λ_ _=>trivial) _ r2o) (Rd.mono (λ_ _=>trivial) (v4_.lt _ _) _ _ ((he'.up x1).up x2)) (by simp[c7_,f3_];omega) (by omega)⟩ ?_
 rintro r3 g3 ⟨r3o,r3c,x3⟩
 simp only[go_sem,reduceEqDiff,reducePow,reduceDiv,reduceMod,decide_true,x3.get A2]
 have xx:=(((Ext.b1 _).tr x1).tr x2).tr x3
 refine⟨?_,r3c,xx⟩
 have l12:=((Ext.b1 _).tr x1).tr x2
 have:=Own.mono (F':=λm=>h.length<=m) _ (λm hm=>K_e l12.1 hm) (λ_ _ _ x=>x) _ r3o
 simpa [e3_.bytes] using this
def V1_ (P:Program)(f:FuncId):Prop:=
 f2_ P f=true/\∀(F:Nat->Prop)(h:a0_)(x:e3_)(a:List AV),RdL F h x.c a->x.old.length<=2^33->x.new.length<=2^33->x.learners.length<=2^33->
  a6_ P f [.agg a] h λr h'=>Own (b3_ x.bytes) (λm=>h.length<=m) h' r/\d2_ h' r/\Ext nof h h'
theorem b_y {P:Program}{f g:FuncId}(hf:Is P f (s6_ g))(hg:O4_ P g):V1_ P f:=by
 refine⟨hf.2,λF h x a ha h1 h2 h3=>a4_ hf.1 (J_y rfl) ?_⟩
 show vc P (s6_ g).code ⟨[(0,.agg a)],[],h⟩ (b2_ (s6_ g).res _)
 have ha':=ha
 simp only[e3_.c,RdL]at ha
 obtain⟨o,_,rfl,ho,n,_,rfl,hn,e,_,rfl,he,rfl⟩:=ha
 simp only[s6_,go_sem,reduceEqDiff,reduceAdd,reduceLeDiff,ho.scalar,hn.scalar,he.scalar]
 refine a1_ ⟨hg.1,hg.2 F _ [] _ x _ (Rd.nils 1) (ha'.up (Ext.b1 _)) (by simp) h1 h2 h3⟩ ?_
 rintro r h2 ⟨ro,rc,x1⟩
 simp only[go_sem,reduceEqDiff]
 rw[List.nil_append]at ro
 exact⟨Own.mono _ (λm hm=>by simp at hm;omega) (λ_ _ _ x=>x) _ ro,rc,(Ext.b1 _).tr x1⟩
theorem J7_ {x:e3_}{F:Nat->Prop}{h:a0_}{a:List AV}(hh:RdL F h x.c a):∃o n e,a=[o,n,e]/\Rd F h (b1_ x.old) o/\Rd F h (b1_ x.new) n/\Rd F h (b1_ x.learners) e:=by
 simp only[e3_.c,RdL]at hh
 obtain⟨o,_,rfl,ho,n,_,rfl,hn,e,_,rfl,he,rfl⟩:=hh
 exact⟨o,n,e,rfl,ho,hn,he⟩
def e_a (P:Program)(f:FuncId):Prop:=
 f2_ P f=true/\∀(F:Nat->Prop)(h:a0_)(x:e3_)(a:List AV)(items:Int),RdL F h x.c a->
  a6_ P f [.agg a,.int .i64 items] h λr h'=>∃b,r=.bool b/\h'=h/\(b=false->(x.old.length:Int)<=items/\(x.new.length:Int)<=items/\(x.learners.length:Int)<=items)
theorem q_6 {P:Program}{f:FuncId}(hf:Is P f n0_):e_a P f:=by
 refine⟨hf.2,λF h x a items ha=>(a6_.trunc (K:=λr h'=>Ext nof h h'/\∃b,r=.bool b/\(b=false->(x.old.length:Int)<=items/\(x.new.length:Int)<=items/\(x.learners.length:Int)<=items))
  (K':=λr=>∃b,r=.bool b/\(b=false->(x.old.length:Int)<=items/\(x.new.length:Int)<=items/\(x.learners.length:Int)<=items)) (a4_ hf.1 (J_y rfl) ?_)
  (λr h' hk=>⟨hk.1,by obtain⟨b,rfl,_⟩:=hk.2;exact t9_ _ _,hk.2⟩)).mono λr h' hk=>let⟨b,h1,h2⟩:=hk.2;⟨b,h1,hk.1,h2⟩⟩
 show vc P n0_.code ⟨[(0,.agg a),(1,.int .i64 items)],[],h⟩ (b2_ n0_.res _)
 obtain⟨o,n,e,rfl,ho,hn,he⟩:=J7_ ha
 have lo:=ho.len
 have ln:=hn.len
 have le:=he.len
 simp only[K_p]at lo ln le
 simp only[n0_,go_sem,reduceEqDiff,reduceAdd,ho.scalar,hn.scalar,he.scalar,lo]
 by_cases c1:items<(x.old.length:Int)
 ·simp only[go_sem,reduceEqDiff,decide_eq_true c1]
  exact⟨Ext.b1 _,_,rfl,λe=>by cases e⟩
 ·simp only[go_sem,reduceEqDiff,reduceAdd,decide_eq_false c1,ln]
  by_cases c2:items<(x.new.length:Int)
  ·simp only[go_sem,reduceEqDiff,decide_eq_true c2]
   exact⟨Ext.b1 _,_,rfl,λe=>by cases e⟩
  ·simp only[go_sem,reduceEqDiff,reduceAdd,decide_eq_false c2,le]
   exact⟨Ext.b1 _,_,rfl,λe=>⟨by omega,by omega,by simpa using e⟩⟩
structure d7_ where
 group:Int
 term:Int
 vote:Int
 log:Log
 conf:e3_
 snap:List Int
 deriving DecidableEq
def d7_.c (x:d7_):List D:=[.int .i64 x.group,.int .i64 x.term,.int .i64 x.vote,.int .i64 x.log.base,.int .i64 x.log.bterm,b7_ x.log.es,b1_ x.conf.old,b1_ x.conf.new,b1_ x.conf.learners,b3_ x.snap]
def d7_.cells (x:d7_)(e o n l s:AV):List AV:=[.int .i64 x.group,.int .i64 x.term,.int .i64 x.vote,.int .i64 x.log.base,.int .i64 x.log.bterm,e,o,n,l,s]
theorem R8_ {x:d7_}{F:Nat->Prop}{h:a0_}{a:List AV}(hh:RdL F h x.c a):∃e o n l s,a=x.cells e o n l s/\Rd F h (b7_ x.log.es) e/\Rd F h (b1_ x.conf.old) o/\Rd F h (b1_ x.conf.new) n/\Rd F h (b1_ x.conf.learners) l/\Rd F h (b3_ x.snap) s:=by
 simp only[d7_.c,R9_]at hh
 obtain⟨_,rfl,_,rfl,_,rfl,_,rfl,_,rfl,hh⟩:=hh
 simp only[RdL]at hh
 obtain⟨e,_,rfl,he,o,_,rfl,ho,n,_,rfl,hn,l,_,rfl,hl,s,_,rfl,hs,rfl⟩:=hh
 exact⟨e,o,n,l,s,rfl,he,ho,hn,hl,hs⟩
theorem g_5 {x:e3_}{F:Nat->Prop}{h:a0_}{o n l:AV}(ho:Rd F h (b1_ x.old) o)(hn:Rd F h (b1_ x.new) n)(hl:Rd F h (b1_ x.learners) l):RdL F h x.c [o,n,l]:=by
 simp only[e3_.c,RdL]
 exact⟨o,_,rfl,ho,n,_,rfl,hn,l,_,rfl,hl,rfl⟩
def d7_.small (x:d7_)(items bytes:Int):Prop:=(x.log.es.length<=items.toNat/\∀e∈x.log.es,e.data.length<=bytes.toNat)/\((x.conf.old.length:Int)<=items/\(x.conf.new.length:Int)<=items/\(x.conf.learners.length:Int)<=items)/\(x.snap.length:Int)<=bytes
def k_w (P:Program)(f:FuncId):Prop:=
 f2_ P f=true/\∀(F:Nat->Prop)(h:a0_)(x:d7_)(a:List AV)(items bytes:Int),RdL F h x.c a->0<=items/\items<=2^40->0<=bytes/\bytes<=2^40->
  a6_ P f [.agg a,.int .i64 items,.int .i64 bytes] h λr h'=>∃b,r=.bool b/\h'=h/\(b=false->x.small items bytes)
theorem q_5 {P:Program}{f g k:FuncId}(hf:Is P f (m9_ g k))(hg:G2_ P g)(hk:e_a P k):k_w P f:=by
 refine⟨hf.2,λF h x a items bytes ha hi hb=>(a6_.trunc (K:=λr h'=>Ext nof h h'/\∃b,r=.bool b/\(b=false->x.small items bytes)) (K':=λr=>∃b,r=.bool b/\(b=false->x.small items bytes)) (a4_ hf.1 (J_y rfl) ?_)
  (λr h' hk=>⟨hk.1,by obtain⟨b,rfl,_⟩:=hk.2;exact t9_ _ _,hk.2⟩)).mono λr h' hk=>let⟨b,h1,h2⟩:=hk.2;⟨b,h1,hk.1,h2⟩⟩
 show vc P (m9_ g k).code ⟨[(0,.agg a),(1,.int .i64 items),(2,.int .i64 bytes)],[],h⟩ (b2_ (m9_ g k).res _)
 obtain⟨e,o,n,l,s,rfl,he,ho,hn,hl,hs⟩:=R8_ ha
 have ls:=hs.len
 simp only[K_p]at ls
 simp only[m9_,d7_.cells,go_sem,reduceEqDiff,reduceAdd,he.scalar,ho.scalar,hn.scalar,hl.scalar,hs.scalar]
 refine a1_ ⟨hg.1,hg.2 F _ x.log.es _ items bytes (he.up (Ext.b1 _)) hi hb⟩ ?_
 rintro _ _ ⟨b1,rfl,rfl,hb1⟩
 cases b1
 ·simp only[go_sem,reduceEqDiff,reduceAdd,reduceLeDiff]
  refine a1_ ⟨hk.1,hk.2 F _ x.conf _ items ((g_5 ho hn hl).up (Ext.b1 _))⟩ ?_
  rintro _ _ ⟨b2,rfl,rfl,hb2⟩
  cases b2
  ·simp only[go_sem,reduceEqDiff,reduceAdd,ls]
   exact⟨Ext.b1 _,_,rfl,λe=>⟨hb1 rfl,hb2 rfl,by simpa using e⟩⟩
  ·simp only[go_sem,reduceEqDiff]
   exact⟨Ext.b1 _,_,rfl,λe=>by cases e⟩
 ·simp only[go_sem,reduceEqDiff]
  exact⟨Ext.b1 _,_,rfl,λe=>by cases e⟩
mutual
theorem G3_ (k:Nat):∀d:D,d.av.upto k=true
 | .int i n=>by simp only[D.av,AV.upto]
 | .bool b=>by simp only[D.av,AV.upto]
 | .str s=>by simp only[D.av,AV.upto]
 | .sl sz es=>by simp only[D.av,AV.upto,h_9 k es,L_f,decide_true,Bool.or_true,Bool.and_self]
theorem n_i (k:Nat):∀l:List D,AV.uptoL k (D.avL l)=true
 | []=>by simp only[D.avL,AV.uptoL]
 | d :: r=>by simp only[D.avL,AV.uptoL,G3_ k d,n_i k r,Bool.and_self]
theorem h_9 (k:Nat):∀l:List (List D),AV.uptoLL k (D.avLL l)=true
 | []=>by simp only[D.avLL,AV.uptoLL]
 | d :: r=>by simp only[D.avLL,AV.uptoLL,n_i k d,h_9 k r,Bool.and_self]
end
def k0_ (l:List Int):AV:=(b3_ l).av
def g1_ (l:List Int):AV:=(b1_ l).av
def i5_ (l:List e0_):AV:=(b7_ l).av
theorem w1_ (l:List Int):(k0_ l).scalar=true:=j7_ _
theorem r0_ (l:List Int):(g1_ l).scalar=true:=j7_ _
theorem k4_ (l:List e0_):(i5_ l).scalar=true:=j7_ _
theorem k_d (l:List Int):(k0_ l).cells?=some [k0_ l]:=b5_ (j7_ _)
theorem m_q (l:List Int):(g1_ l).cells?=some [g1_ l]:=b5_ (j7_ _)
theorem e_u (l:List e0_):(i5_ l).cells?=some [i5_ l]:=b5_ (j7_ _)
theorem g6_ (F:Nat->Prop)(h:a0_)(l:List Int):Rd F h (b3_ l) (k0_ l):=s_i _ _ _
theorem w_o (F:Nat->Prop)(h:a0_)(l:List Int):Rd F h (b1_ l) (g1_ l):=s_i _ _ _
theorem l_k (F:Nat->Prop)(h:a0_)(l:List e0_):Rd F h (b7_ l) (i5_ l):=s_i _ _ _
theorem p_t (l:List Int):M5_ (k0_ l)=some (.int .i64 l.length):=by simpa using (g6_ nof [] l).len
theorem t_a (l:List Int):M5_ (g1_ l)=some (.int .i64 l.length):=by simpa using (w_o nof [] l).len
theorem j_i (l:List e0_):M5_ (i5_ l)=some (.int .i64 l.length):=by simpa using (l_k nof [] l).len
attribute [go_sem] w1_ r0_ k4_ k_d m_q e_u p_t t_a j_i
def Log.v (l:Log):List AV:=D.avL l.c
def e3_.v (x:e3_):List AV:=D.avL x.c
def d7_.v (x:d7_):List AV:=D.avL x.c
theorem Log.v_eq (l:Log):l.v=[.int .i64 l.base,.int .i64 l.bterm,i5_ l.es]:=by simp only[Log.v,Log.c,D.avL,D.av];rfl
theorem e3_.v_eq (x:e3_):x.v=[g1_ x.old,g1_ x.new,g1_ x.learners]:=by simp only[e3_.v,e3_.c,D.avL];rfl
theorem d7_.v_eq (x:d7_):x.v=[.int .i64 x.group,.int .i64 x.term,.int .i64 x.vote,.int .i64 x.log.base,.int .i64 x.log.bterm,i5_ x.log.es,g1_ x.conf.old,g1_ x.conf.new,g1_ x.conf.learners,k0_ x.snap]:=by
 simp only[d7_.v,d7_.c,D.avL,D.av];rfl
theorem f_9 (F:Nat->Prop)(h:a0_)(l:Log):RdL F h l.c l.v:=e_8 _ _ _
theorem W3_ (F:Nat->Prop)(h:a0_)(x:e3_):RdL F h x.c x.v:=e_8 _ _ _
theorem n_l (F:Nat->Prop)(h:a0_)(x:d7_):RdL F h x.c x.v:=e_8 _ _ _
theorem j4_ {P:Program}{f:FuncId}{avs:List AV}{r:AV}{h:a0_}{K:AV->a0_->Prop}(hi:f2_ P f=true)(hc:a6_ P f avs h λr' h'=>r'=r/\h'=h)(hk:K r h):c_e P f avs h K:=
 a1_ ⟨hi,hc⟩ λ_ _ ⟨e1,e2⟩=>by subst e1;subst e2;exact hk
def B_2 (P:Program)(f:FuncId)(avs:List AV)(r:AV):Prop:=∀h,a6_ P f avs h λr' h'=>r'=r/\h'=h
theorem B_2.use {P:Program}{f:FuncId}{avs:List AV}{r:AV}{h:a0_}{K:AV->a0_->Prop}(hi:f2_ P f=true)(hc:B_2 P f avs r)(hk:K r h):c_e P f avs h K:=
 a1_ ⟨hi,hc h⟩ λ_ _ ⟨e1,e2⟩=>by subst e1;subst e2;exact hk
theorem y_e {P:Program}{f:FuncId}{avs:List AV}{d:D}(hc:∀h,a6_ P f avs h λr h'=>Own d (λm=>h.length<=m) h' r/\Ext nof h h'):B_2 P f avs d.av:=
 λh=>(hc h).freeze λ_ _ hk=>⟨hk.2,_,Frz.d (Own.fz d (λ_ x=>x) _ hk.1),rfl⟩
def e3_.few (x:e3_)(n:Nat):Prop:=x.old.length<=n/\x.new.length<=n/\x.learners.length<=n
def d7_.few (x:d7_):Prop:=i0_ x.log.es/\x.conf.few (2^40)/\x.snap.length<=2^40
theorem y_f {x:Log}{F:Nat->Prop}{h:a0_}{e:AV}(he:Rd F h (b7_ x.es) e):RdL F h x.c [.int .i64 x.base,.int .i64 x.bterm,e]:=by
 simp only[Log.c,R9_]
 refine⟨_,rfl,_,rfl,?_⟩
 simp only[RdL]
 exact⟨e,_,rfl,he,rfl⟩
end Glb
