/-
  A library of its own.
-/
import Derived.Test.YtdeiamnhnfmilaaGreatGlbQuoA
import Derived.Test.YtdeiamnhnfmilaaGreatGlbMorA
import Derived.Test.YtdeiamnhnfmilaaGreatGlbCimage
set_option linter.unusedSimpArgs false
set_option linter.unusedVariables false
set_option maxRecDepth 10000
set_option maxHeartbeats 8000000
open Nat (reduceAdd reduceDiv reduceEqDiff reduceLeDiff reduceMod reducePow reduceSub)
namespace Glb
open Go
abbrev Rdr:=Option (List Int)
def n_h (l:List Int):Int:=l.foldl (λv x=>v*256+x) 0
def C4_ (l:List Int):Int:=IntKind.i64.wrap (n_h l)
def e2_ (n:Int):Prop:=-9223372036854775808<=n/\n<=9223372036854775807
def c2_ (l:List Int):Prop:=∀x∈l,0<=x/\x<256
theorem c2_.take {l:List Int}(h:c2_ l)(n:Nat):c2_ (l.take n):=λx hx=>h x (L_g hx)
theorem c2_.drop {l:List Int}(h:c2_ l)(n:Nat):c2_ (l.drop n):=λx hx=>h x (K_z hx)
theorem R6_ (x:Int):IntKind.i64.wrap x=(x+9223372036854775808) % 18446744073709551616-9223372036854775808:=by
 simp only[IntKind.wrap,IntKind.bits,IntKind.signed]
 simp
 split<;>omega
theorem A0_ (v:Int)(k:Nat)(hk:k<=7):A1_ v (7-k)=(v % 18446744073709551616) / 256^k % 256:=by
 rw[q_f v k hk,b_1]
theorem s_y (v:Int):num v=[(v % 18446744073709551616) / 72057594037927936 % 256,(v % 18446744073709551616) / 281474976710656 % 256,(v % 18446744073709551616) / 1099511627776 % 256,(v % 18446744073709551616) / 4294967296 % 256,
  (v % 18446744073709551616) / 16777216 % 256,(v % 18446744073709551616) / 65536 % 256,(v % 18446744073709551616) / 256 % 256,(v % 18446744073709551616) % 256]:=by
 have h0:=A0_ v 0 (by omega)
 have h1:=A0_ v 1 (by omega)
 have h2:=A0_ v 2 (by omega)
 have h3:=A0_ v 3 (by omega)
 have h4:=A0_ v 4 (by omega)
 have h5:=A0_ v 5 (by omega)
 have h6:=A0_ v 6 (by omega)
 have h7:=A0_ v 7 (by omega)
 simp only[reduceSub,Int.reducePow]at h0 h1 h2 h3 h4 h5 h6 h7
 simp only[num,h0,h1,h2,h3,h4,h5,h6,h7,Int.ediv_one]
theorem c_5 (v:Int):c2_ (num v):=by
 rw[s_y]
 intro x hx
 simp only[List.mem_cons,List.not_mem_nil,or_false]at hx
 rcases hx with rfl | rfl | rfl | rfl | rfl | rfl | rfl | rfl<;>omega
theorem e_2 (a b c d e f g h:Int):n_h [a,b,c,d,e,f,g,h]=a*72057594037927936+b*281474976710656+c*1099511627776+d*4294967296+e*16777216+f*65536+g*256+h:=by
 simp only[n_h,M_g,List.foldl_nil];omega
theorem c_h {v:Int}(h:e2_ v):C4_ (num v)=v:=by
 rw[s_y,C4_,e_2,R6_]
 obtain⟨h1,h2⟩:=h
 have:v % 18446744073709551616=(if v<0 then v+18446744073709551616 else v):=by split<;>omega
 generalize v % 18446744073709551616=u at *
 split at this<;>omega
theorem c_4 {l:List Int}(h:l.length=8)(hb:c2_ l):num (C4_ l)=l/\e2_ (C4_ l):=by
 match l,h with
 | [a,b,c,d,e,f,g,k],_=>
  have ha:=hb a (by simp)
  have hb':=hb b (by simp)
  have hc:=hb c (by simp)
  have hd:=hb d (by simp)
  have he:=hb e (by simp)
  have hf:=hb f (by simp)
  have hg:=hb g (by simp)
  have hk:=hb k (by simp)
  have hu:(C4_ [a,b,c,d,e,f,g,k]) % 18446744073709551616=a*72057594037927936+b*281474976710656+c*1099511627776+d*4294967296+e*16777216+f*65536+g*256+k:=by
   rw[C4_,e_2,R6_];omega
  refine⟨?_,by rw[C4_,R6_];constructor<;>omega⟩
  rw[s_y,hu]
  simp only[List.cons.injEq,and_true]
  refine⟨by omega,by omega,by omega,by omega,by omega,by omega,by omega,by omega⟩
structure H4_ (T:Type) where
 enc:T->List Int
 dec:Rdr->T×Rdr
 ok:T->Prop
 bad:(dec none).2=none
 big:∀x,8<=(enc x).length
 bytes:∀x,ok x->c2_ (enc x)
 back:∀x r,ok x->dec (some (enc x++r))=(x,some r)
 only:∀l x r,c2_ l->dec (some l)=(x,some r)->l=enc x++r/\ok x
 ext:∀l x r t,dec (some l)=(x,some r)->dec (some (l++t))=(x,some (r++t))
theorem c2_.app {a b:List Int}(h:c2_ a)(h':c2_ b):c2_ (a++b):=λx hx=>(K_6.1 hx).elim (h x) (h' x)
theorem c2_.right {a b:List Int}(h:c2_ (a++b)):c2_ b:=λx hx=>h x (K_6.2 (.inr hx))
def a2_:Rdr->Int×Rdr
 | none=>(0,none)
 | some l=>if l.length<8 then (0,none) else (C4_ (l.take 8),some (l.drop 8))
def d_g:H4_ Int where
 enc:=num
 dec:=a2_
 ok:=e2_
 bad:=rfl
 big _:=by simp[c7_]
 bytes v _:=c_5 v
 back v r h:=by
  simp only[a2_,J_z,c7_]
  rw[if_neg (by omega),List.take_left' (c7_ v),List.drop_left' (c7_ v),c_h h]
 only l x r hb h:=by
  simp only[a2_]at h
  split at h
  ·simp at h
  ·rename_i hl
   simp only[Prod.mk.injEq,Option.some.injEq]at h
   obtain⟨rfl,rfl⟩:=h
   obtain⟨h1,h2⟩:=c_4 (l:=l.take 8) (by simp;omega) (hb.take 8)
   exact⟨by rw[h1,L_a],h2⟩
 ext l x r t h:=by
  simp only[a2_]at h ⊢
  split at h
  ·simp at h
  ·rename_i hl
   simp only[Prod.mk.injEq,Option.some.injEq]at h
   obtain⟨rfl,rfl⟩:=h
   rw[if_neg (by simp;omega),L_o (by omega),L_n (by omega)]
def e5_ (r:Rdr):List Int×Rdr:=
 match a2_ r with
 | (_,none)=>([],none)
 | (n,some l)=>if n<0\/(l.length:Int)<n then ([],none) else (l.take n.toNat,some (l.drop n.toNat))
theorem f_a {l a r:List Int}(h:e5_ (some l)=(a,some r)):8<=l.length/\∃n:Nat,C4_ (l.take 8)=n/\n<=l.length-8/\a=(l.drop 8).take n/\r=(l.drop 8).drop n:=by
 simp only[e5_,a2_]at h
 split at h
 ·cases h
 ·rename_i n l' heq
  split at heq
  ·cases heq
  ·rename_i hl
   simp only[Prod.mk.injEq,Option.some.injEq]at heq
   obtain⟨rfl,rfl⟩:=heq
   split at h
   ·cases h
   ·rename_i hn
    simp only[Prod.mk.injEq,Option.some.injEq]at h
    simp only[K_o]at hn
    exact⟨by omega,(C4_ (l.take 8)).toNat,by omega,by omega,h.1.symm,h.2.symm⟩
theorem n_o {l:List Int}{n:Nat}(h8:8<=l.length)(hv:C4_ (l.take 8)=n)(hn:n<=l.length-8):e5_ (some l)=((l.drop 8).take n,some ((l.drop 8).drop n)):=by
 simp only[e5_,a2_]
 rw[if_neg (by omega)]
 simp only[hv]
 rw[if_neg (by simp;omega)]
 simp
def C_9 (p:List Int):Prop:=p.length<=9223372036854775807/\c2_ p
theorem j_x {n:Nat}(h:n<=9223372036854775807):e2_ (n:Int):=by constructor<;>omega
def k_g:H4_ (List Int) where
 enc p:=num p.length++p
 dec:=e5_
 ok:=C_9
 bad:=rfl
 big p:=by simp[c7_]
 bytes p h:=(c_5 _).app h.2
 back p r h:=by
  have e8:(num p.length).length=8:=c7_ _
  rw[n_o (n:=p.length) (by simp[e8]) (by rw[K_h,List.take_left' e8,c_h (j_x h.1)]) (by simp[e8])]
  rw[K_h,List.drop_left' e8,List.take_left' rfl,List.drop_left' rfl]
 only l x r hb h:=by
  obtain⟨h8,n,hv,hn,rfl,rfl⟩:=f_a h
  obtain⟨h1,h2⟩:=c_4 (l:=l.take 8) (by simp;omega) (hb.take 8)
  have hlen:((l.drop 8).take n).length=n:=by simp;omega
  rw[hv]at h1 h2
  refine⟨?_,by rw[hlen];exact (by have:=h2.2;omega),(hb.drop 8).take n⟩
  rw[hlen,h1,K_h,L_a,L_a]
 ext l x r t h:=by
  obtain⟨h8,n,hv,hn,rfl,rfl⟩:=f_a h
  rw[n_o (n:=n) (by simp;omega) (by rw[L_o h8];exact hv) (by simp;omega)]
  rw[L_n h8,L_o (by simp;omega),L_n (by simp;omega)]
def u1_ {A B:Type}(a:H4_ A)(b:H4_ B):H4_ (A×B) where
 enc x:=a.enc x.1++b.enc x.2
 dec r:=(((a.dec r).1,(b.dec (a.dec r).2).1),(b.dec (a.dec r).2).2)
 ok x:=a.ok x.1/\b.ok x.2
 bad:=by simp only[a.bad,b.bad]
 big x:=by have:=a.big x.1;simp;omega
 bytes x h:=(a.bytes _ h.1).app (b.bytes _ h.2)
 back x r h:=by
  rw[K_h,a.back x.1 _ h.1,b.back x.2 _ h.2]
 only l x r hb h:=by
  obtain⟨x1,x2⟩:=x
  cases hd:a.dec (some l) with
  | mk y s=>
   rw[hd]at h
   cases s with
   | none=>simp only[b.bad,Prod.mk.injEq,reduceCtorEq,and_false]at h
   | some m=>
    obtain⟨e1,o1⟩:=a.only l y m hb hd
    simp only[Prod.mk.injEq]at h
    obtain⟨⟨rfl,h2⟩,h3⟩:=h
    have hbm:c2_ m:=c2_.right (e1▸hb)
    obtain⟨e2,o2⟩:=b.only m x2 r hbm (Prod.ext h2 h3)
    exact⟨by rw[e1,e2,K_h],o1,o2⟩
 ext l x r t h:=by
  obtain⟨x1,x2⟩:=x
  cases hd:a.dec (some l) with
  | mk y s=>
   rw[hd]at h
   cases s with
   | none=>simp only[b.bad,Prod.mk.injEq,reduceCtorEq,and_false]at h
   | some m=>
    simp only[Prod.mk.injEq]at h
    obtain⟨⟨rfl,h2⟩,h3⟩:=h
    rw[a.ext l _ m t hd,b.ext m x2 r t (Prod.ext h2 h3)]
def l_8 {A B:Type}(a:H4_ A)(f:A->B)(g:B->A)(fg:∀b,f (g b)=b)(gf:∀x,g (f x)=x):H4_ B where
 enc x:=a.enc (g x)
 dec r:=(f (a.dec r).1,(a.dec r).2)
 ok x:=a.ok (g x)
 bad:=a.bad
 big x:=a.big _
 bytes x h:=a.bytes _ h
 back x r h:=by rw[a.back _ _ h];simp only[fg]
 only l x r hb h:=by
  simp only[Prod.mk.injEq]at h
  obtain⟨rfl,h2⟩:=h
  rw[gf]
  exact a.only l _ r hb (Prod.ext rfl h2)
 ext l x r t h:=by
  simp only[Prod.mk.injEq]at h
  obtain⟨rfl,h2⟩:=h
  rw[a.ext l _ r t (Prod.ext rfl h2)]
def g4_ {T:Type}(f:Rdr->T×Rdr):Nat->Rdr->List T×Rdr
 | 0,r=>([],r)
 | n+1,r=>match f r with
  | (_,none)=>([],none)
  | (x,some l)=>((x :: (g4_ f n (some l)).1),(g4_ f n (some l)).2)
def e_i (r:Rdr):Int×Rdr:=
 match a2_ r with
 | (_,none)=>(0,none)
 | (n,some l)=>if n<0\/(l.length / 8:Nat)<n then (0,none) else (n,some l)
def l0_ {T:Type}(f:Rdr->T×Rdr)(r:Rdr):List T×Rdr:=match e_i r with
 | (_,none)=>([],none)
 | (n,some l)=>g4_ f n.toNat (some l)
theorem e_9 {l r:List Int}{n:Int}(h:e_i (some l)=(n,some r)):8<=l.length/\C4_ (l.take 8)=n/\0<=n/\n<=((l.length-8) / 8:Nat)/\r=l.drop 8:=by
 simp only[e_i,a2_]at h
 split at h
 ·cases h
 ·rename_i n l' heq
  split at heq
  ·cases heq
  ·rename_i hl
   simp only[Prod.mk.injEq,Option.some.injEq]at heq
   obtain⟨rfl,rfl⟩:=heq
   split at h
   ·cases h
   ·rename_i hn
    simp only[Prod.mk.injEq,Option.some.injEq]at h
    simp only[K_o]at hn
    obtain⟨rfl,rfl⟩:=h
    exact⟨by omega,rfl,by omega,by omega,rfl⟩
theorem n_n {l:List Int}{n:Int}(h8:8<=l.length)(hv:C4_ (l.take 8)=n)(h0:0<=n) (hn:n<=((l.length-8) / 8:Nat)):e_i (some l)=(n,some (l.drop 8)):=by
 simp only[e_i,a2_]
 rw[if_neg (by omega)]
 simp only[hv]
 rw[if_neg (by simp only[K_o];omega)]
theorem Y3_ {T:Type}(c:H4_ T):∀xs:List T,8*xs.length<=(xs.flatMap c.enc).length
 | []=>by simp
 | x :: r=>by have h1:=Y3_ c r;have h2:=c.big x;simp only[L_6,J_z,List.length_cons];omega
theorem e_6 {T:Type}(c:H4_ T):∀(xs:List T)(r:List Int),(∀x∈xs,c.ok x)->g4_ c.dec xs.length (some (xs.flatMap c.enc++r))=(xs,some r)
 | [],r,_=>rfl
 | x :: xs,r,h=>by
  simp only[List.length_cons,g4_,L_6,K_h]
  rw[c.back x _ (h x (by simp))]
  simp only[e_6 c xs r (λy hy=>h y (by simp[hy]))]
theorem e_5 {T:Type}(c:H4_ T):∀(n:Nat)(l:List Int)(xs:List T)(r:List Int),c2_ l->g4_ c.dec n (some l)=(xs,some r)->l=xs.flatMap c.enc++r/\xs.length=n/\∀x∈xs,c.ok x
 | 0,l,xs,r,_,h=>by simp only[g4_,Prod.mk.injEq,Option.some.injEq]at h;obtain⟨rfl,rfl⟩:=h;simp
 | n+1,l,xs,r,hb,h=>by
  simp only[g4_]at h
  split at h
  ·cases h
  ·rename_i x m hd
   simp only[Prod.mk.injEq]at h
   obtain⟨rfl,h2⟩:=h
   obtain⟨e1,o1⟩:=c.only l x m hb hd
   obtain⟨e2,l2,o2⟩:=e_5 c n m _ r (c2_.right (e1▸hb)) (Prod.ext rfl h2)
   refine⟨by rw[L_6,K_h,<-e2];exact e1,by simp[l2],λy hy=>?_⟩
   rcases List.mem_cons.1 hy with rfl | hy
   ·exact o1
   ·exact o2 y hy
theorem i_u {T:Type}(c:H4_ T):∀(n:Nat)(l:List Int)(xs:List T)(r t:List Int),g4_ c.dec n (some l)=(xs,some r)->g4_ c.dec n (some (l++t))=(xs,some (r++t))
 | 0,l,xs,r,t,h=>by simp only[g4_,Prod.mk.injEq,Option.some.injEq]at h ⊢;obtain⟨rfl,rfl⟩:=h;simp
 | n+1,l,xs,r,t,h=>by
  simp only[g4_]at h ⊢
  split at h
  ·cases h
  ·rename_i x m hd
   simp only[Prod.mk.injEq]at h
   obtain⟨rfl,h2⟩:=h
   rw[c.ext l x m t hd]
   simp only[i_u c n m _ r t (Prod.ext rfl h2)]
def g_l {T:Type}(c:H4_ T):H4_ (List T) where
 enc xs:=num xs.length++xs.flatMap c.enc
 dec:=l0_ c.dec
 ok xs:=xs.length<=9223372036854775807/\∀x∈xs,c.ok x
 bad:=rfl
 big xs:=by simp[c7_]
 bytes xs h:=(c_5 _).app λb hb=>by
  obtain⟨x,h1,h2⟩:=List.mem_flatMap.1 hb
  exact c.bytes x (h.2 x h1) b h2
 back xs r h:=by
  have e8:(num xs.length).length=8:=c7_ _
  have fb:=Y3_ c xs
  simp only[l0_]
  rw[n_n (n:=xs.length) (by simp[e8]) (by rw[K_h,List.take_left' e8,c_h (j_x h.1)]) (by omega) (by simp only[J_z,e8];omega)]
  rw[K_h,List.drop_left' e8]
  simpa using e_6 c xs r h.2
 only l xs r hb h:=by
  simp only[l0_]at h
  split at h
  ·cases h
  ·rename_i n m hm
   obtain⟨h8,hv,h0,hn,rfl⟩:=e_9 hm
   obtain⟨e1,e2,o⟩:=e_5 c _ _ _ _ (hb.drop 8) h
   obtain⟨h1,h2⟩:=c_4 (l:=l.take 8) (by simp;omega) (hb.take 8)
   rw[hv]at h1 h2
   have en:(xs.length:Int)=n:=by omega
   refine⟨by rw[en,h1,K_h,<-e1,L_a],by have:=h2.2;omega,o⟩
 ext l xs r t h:=by
  simp only[l0_]at h ⊢
  split at h
  ·cases h
  ·rename_i n m hm
   obtain⟨h8,hv,h0,hn,rfl⟩:=e_9 hm
   rw[n_n (n:=n) (by simp;omega) (by rw[L_o h8];exact hv) h0 (by simp;omega)]
   simp only
   rw[L_n h8]
   exact i_u c _ _ _ _ t h
theorem j_a:∀l:List Int,nums l=l.flatMap num
 | []=>rfl
 | x :: r=>by simp only[nums,L_6,j_a r]
structure v3_ where
 txn:Int
 part:Int
 promised:Int
 ballot:Int
 value:Int
 deriving DecidableEq
structure b9_ where
 kind:Int
 group:Int
 term:Int
 voted:Int
 from_:Int
 log:Log
 conf:e3_
 snap:List Int
 vote:v3_
 deriving DecidableEq
structure x1_ where
 hards:List d7_
 votes:List v3_
 deriving DecidableEq
def v3_.c (v:v3_):List D:=[.int .i64 v.txn,.int .i64 v.part,.int .i64 v.promised,.int .i64 v.ballot,.int .i64 v.value]
def d_t (l:List d7_):D:=.sl 10 (l.map d7_.c)
def A9_ (l:List v3_):D:=.sl 5 (l.map v3_.c)
def b9_.c (x:b9_):List D:=[.int .i64 x.kind,.int .i64 x.group,.int .i64 x.term,.int .i64 x.voted,.int .i64 x.from_,.int .i64 x.log.base,.int .i64 x.log.bterm,b7_ x.log.es,b1_ x.conf.old,b1_ x.conf.new,b1_ x.conf.learners,b3_ x.snap,
 .int .i64 x.vote.txn,.int .i64 x.vote.part,.int .i64 x.vote.promised,.int .i64 x.vote.ballot,.int .i64 x.vote.value]
def F6_ (l:List b9_):D:=.sl 17 (l.map b9_.c)
def x1_.c (x:x1_):List D:=[d_t x.hards,A9_ x.votes]
def v7_:H4_ e0_:=l_8 (u1_ d_g (u1_ d_g k_g)) (λp=>⟨p.1,p.2.1,p.2.2⟩) (λe=>(e.term,e.kind,e.data)) (λ_=>rfl) (λ_=>rfl)
def C6_:H4_ Log:=l_8 (u1_ d_g (u1_ d_g (g_l v7_))) (λp=>⟨p.1,p.2.1,p.2.2⟩) (λe=>(e.base,e.bterm,e.es)) (λ_=>rfl) (λ_=>rfl)
def p_z:H4_ (List Int):=g_l d_g
def j3_:H4_ e3_:=l_8 (u1_ p_z (u1_ p_z p_z)) (λp=>⟨p.1,p.2.1,p.2.2⟩) (λe=>(e.old,e.new,e.learners)) (λ_=>rfl) (λ_=>rfl)
def v9_:H4_ v3_:=l_8 (u1_ d_g (u1_ d_g (u1_ d_g (u1_ d_g d_g)))) (λp=>⟨p.1,p.2.1,p.2.2.1,p.2.2.2.1,p.2.2.2.2⟩) (λe=>(e.txn,e.part,e.promised,e.ballot,e.value)) (λ_=>rfl) (λ_=>rfl)
def D0_:H4_ d7_:=l_8 (u1_ d_g (u1_ d_g (u1_ d_g (u1_ C6_ (u1_ j3_ k_g))))) (λp=>⟨p.1,p.2.1,p.2.2.1,p.2.2.2.1,p.2.2.2.2.1,p.2.2.2.2.2⟩) (λe=>(e.group,e.term,e.vote,e.log,e.conf,e.snap)) (λ_=>rfl) (λ_=>rfl)
def o9_:H4_ b9_:=l_8 (u1_ d_g (u1_ d_g (u1_ d_g (u1_ d_g (u1_ d_g (u1_ C6_ (u1_ j3_ (u1_ k_g v9_))))))))
 (λp=>⟨p.1,p.2.1,p.2.2.1,p.2.2.2.1,p.2.2.2.2.1,p.2.2.2.2.2.1,p.2.2.2.2.2.2.1,p.2.2.2.2.2.2.2.1,p.2.2.2.2.2.2.2.2⟩) (λe=>(e.kind,e.group,e.term,e.voted,e.from_,e.log,e.conf,e.snap,e.vote)) (λ_=>rfl) (λ_=>rfl)
def x4_:H4_ x1_:=l_8 (u1_ (g_l D0_) (g_l v9_)) (λp=>⟨p.1,p.2⟩) (λe=>(e.hards,e.votes)) (λ_=>rfl) (λ_=>rfl)
theorem f_j (e:e0_):v7_.enc e=num e.term++num e.kind++(num e.data.length++e.data):=by simp only[v7_,l_8,u1_,d_g,k_g,K_h]
theorem g_j (x:Log):C6_.enc x=num x.base++num x.bterm++(num x.es.length++x.es.flatMap v7_.enc):=by simp only[C6_,l_8,u1_,d_g,g_l,K_h]
theorem t_p (l:List Int):p_z.enc l=num l.length++nums l:=by simp only[p_z,g_l,j_a];rfl
theorem d_v (x:e3_):j3_.enc x=x.bytes:=by simp only[j3_,l_8,u1_,t_p,e3_.bytes,K_h]
theorem c_g (v:v3_):v9_.enc v=nums [v.txn,v.part,v.promised,v.ballot,v.value]:=by simp only[v9_,l_8,u1_,d_g,nums,K_2]
theorem j_y (x:d7_):D0_.enc x=nums [x.group,x.term,x.vote]++C6_.enc x.log++x.conf.bytes++(num x.snap.length++x.snap):=by
 simp only[<-d_v,D0_,l_8,u1_,d_g,k_g,nums,K_2,K_h]
theorem d_w (x:b9_):o9_.enc x=nums [x.kind,x.group,x.term,x.voted,x.from_]++C6_.enc x.log++x.conf.bytes++(num x.snap.length++x.snap)++v9_.enc x.vote:=by
 simp only[<-d_v,o9_,l_8,u1_,d_g,k_g,nums,K_2,K_h]
theorem p_0 (x:x1_):x4_.enc x=(num x.hards.length++x.hards.flatMap D0_.enc)++(num x.votes.length++x.votes.flatMap v9_.enc):=by
 simp only[x4_,l_8,u1_,g_l]
def e_z {T:Type}(P:Program)(f:FuncId)(c:T->List D)(e:T->List Int):Prop:=
 f2_ P f=true/\∀(F G:Nat->Prop)(h:a0_)(l:List Int)(b:AV)(x:T)(as:List AV),Rd F h (b3_ l) b->RdL G h (c x) as->(l++e x).length<=2^33->a6_ P f [b,.agg as] h λr h'=>r=k0_ (l++e x)/\h'=h
def B_3 (P:Program)(f:FuncId):Prop:=
 f2_ P f=true/\∀(F:Nat->Prop)(h:a0_)(l:List Int)(b:AV)(v:Int),Rd F h (b3_ l) b->l.length<=2^42->a6_ P f [b,.int .i64 v] h λr h'=>r=k0_ (l++num v)/\h'=h
def v_m (P:Program)(f:FuncId):Prop:=
 f2_ P f=true/\∀(F G:Nat->Prop)(h:a0_)(l p:List Int)(b a:AV),Rd F h (b3_ l) b->Rd G h (b3_ p) a->l.length<=2^41->p.length<=2^41->a6_ P f [b,a] h λr h'=>r=k0_ (l++(num p.length++p))/\h'=h
def d_2 (P:Program)(f:FuncId):Prop:=
 f2_ P f=true/\∀(F G:Nat->Prop)(h:a0_)(l vs:List Int)(b a:AV),Rd F h (b3_ l) b->Rd G h (b1_ vs) a->vs≠[]->(l++nums vs).length<=2^33->a6_ P f [b,a] h λr h'=>r=k0_ (l++nums vs)/\h'=h
theorem Rd.any {F:Nat->Prop}{h:a0_}{d:D}{a:AV}(hh:Rd F h d a):Rd (λ_=>True) h d a:=Rd.mono (λ_ _=>trivial) (v4_.lt _ _) _ _ hh
theorem RdL.any {F:Nat->Prop}{h:a0_}{d:List D}{a:List AV}(hh:RdL F h d a):RdL (λ_=>True) h d a:=RdL.mono (λ_ _=>trivial) (v4_.lt _ _) _ _ hh
theorem B_u.p {P:Program}{f:FuncId}(hc:B_u P f):B_3 P f:=⟨hc.1,λF h l b v hb hl=>(hc.2 F h l b v hb hl).freeze λ_ _ hk=>⟨hk.2.2,_,Frz.d (Own.fz (b3_ _) (λ_ x=>x) _ hk.1),rfl⟩⟩
theorem f_y.p {P:Program}{f:FuncId}(hc:f_y P f):v_m P f:=⟨hc.1,λF G h l p b a hb ha hl hp=>(hc.2 (λ_=>True) h l p b a hb.any ha.any hl hp).freeze λ_ _ hk=>⟨hk.2.2,_,Frz.d (Own.fz (b3_ _) (λ_ x=>x) _ hk.1),by rw[K_h];rfl⟩⟩
theorem O4_.p {P:Program}{f:FuncId}(hc:O4_ P f):e_z P f e3_.c e3_.bytes:=⟨hc.1,λF G h l b x as hb ha hl=>by
 have h8:∀v:List Int,(nums v).length=8*v.length:=f3_
 have q:l.length<=2^33/\x.old.length<=2^33/\x.new.length<=2^33/\x.learners.length<=2^33\/True:=.inr trivial
 exact (hc.2 (λ_=>True) h l b x as hb.any ha.any (by simp only[e3_.bytes,J_z,h8]at hl;omega) (by simp only[e3_.bytes,J_z,h8]at hl;omega) (by simp only[e3_.bytes,J_z,h8]at hl;omega) (by simp only[e3_.bytes,J_z,h8]at hl;omega)).freeze λ_ _ hk=>⟨hk.2.2,_,Frz.d (Own.fz (b3_ _) (λ_ x=>x) _ hk.1),rfl⟩⟩
theorem p_l {P:Program}{f r n:FuncId}(hf:Is P f (I7_ r n))(hr:n_9 P r)(hn:c_b P n):B_u P f:=by
 refine⟨hf.2,λF h l b v hb hl=>a4_ hf.1 (J_y rfl) ?_⟩
 show vc P (I7_ r n).code ⟨[(0,b),(1,.int .i64 v)],[],h⟩ (b2_ (I7_ r n).res _)
 simp only[I7_,go_sem,reduceEqDiff]
 refine a1_ ⟨hr.1,hr.2 F h l b 8 hb hl (by omega)⟩ ?_
 rintro a h1 ⟨o1,c1,x1⟩
 simp only[go_sem,reduceEqDiff]
 refine a1_ ⟨hn.1,hn.2 h.length h1 l a v o1 c1 x1.1 (by omega)⟩ ?_
 rintro a2 h2 ⟨o2,c2,x2⟩
 simp only[go_sem,reduceEqDiff]
 exact⟨o2,c2,x1.then x2 (λm hm hm'=>by omega)⟩
theorem C_y {P:Program}{f g:FuncId}(hf:Is P f (z6_ g))(hg:B_3 P g):d_2 P f:=by
 refine⟨hf.2,λF G h l vs b a hb ha hne hl=>a4_ hf.1 (J_y rfl) ?_⟩
 show vc P (z6_ g).code ⟨[(0,b),(1,a)],[],h⟩ (b2_ (z6_ g).res _)
 have la:=ha.ints_len
 have hn8:=f3_
 simp only[J_z,hn8]at hl
 simp only[z6_,go_sem,reduceEqDiff,la]
 refine e8_ (λm L h'=>∃(i:Nat)(o:AV),lk 0 L=o/\lk 7 L=a/\lk 8 L=.int .i64 vs.length/\lk 9 L=.int .i64 i/\Rd (λ_=>True) h (b3_ (l++nums (vs.take i))) o/\(0<i->o=k0_ (l++nums (vs.take i)))/\h=h'/\i<=vs.length/\m=vs.length-i) vs.length ?_ ?_
 ·exact⟨0,b,by simp[a3_,c9_],by simp[a3_],by simp[a3_],by simp[a3_],by simpa [nums] using hb.any,by simp,rfl,by omega,by omega⟩
 ·rintro m L h' ⟨i,o,k0,k7,k8,k9,ho,hq,rfl,hi,rfl⟩
  simp only[O0_,go_sem,k8,k9]
  refine b0_ (λci=>?_) (λci=>?_)
  ·simp at ci
   obtain⟨p,hp,hv⟩:=ha.int_at ci
   have e1:IntKind.i64.wrap (↑i+1)=(i:Int)+1:=a7_ (by omega)
   have e2:nums (vs.take (i+1))=nums (vs.take i)++num vs[i]:=by rw[K_f ci,g_i];simp[nums]
   simp only[go_sem,reduceEqDiff,k0,k7,k9,hp,hv]
   refine j4_ hg.1 (hg.2 _ h _ o vs[i] ho (by simp only[J_z,hn8,K_i];omega)) ?_
   simp only[go_sem,reduceEqDiff,k0,k7,k8,k9,e1]
   refine⟨_,by omega,i+1,_,rfl,by simp,?_,λ_=>by rw[e2,K_h],ci,rfl⟩
   rw[e2,<-K_h];exact g6_ _ _ _
  ·simp at ci
   obtain rfl:i=vs.length:=by omega
   rw[K_y]at hq
   simp only[go_sem,reduceEqDiff,k0]
   exact hq (List.length_pos_iff.2 hne)
theorem RdL.scalars {F:Nat->Prop}{h:a0_}:∀{ds:List D}{l:List AV},RdL F h ds l->l.all AV.scalar=true
 | [],l,hh=>by simp only[RdL]at hh;subst hh;rfl
 | d :: ds,l,hh=>by simp only[RdL]at hh;obtain⟨a,r,rfl,h1,h2⟩:=hh;simp[h1.scalar,h2.scalars]
theorem J6_ {z cs:List AV}(h:z.length=cs.length):setMany z 0 cs=cs:=c_o cs [] z h
def B_1 {T:Type}(P:Program)(f:FuncId)(sz:Nat)(c:T->List D)(e:T->List Int):Prop:=
 f2_ P f=true/\∀(put:FuncId),e_z P put c e->∀(F G:Nat->Prop)(h:a0_)(l:List Int)(b:AV)(xs:List T)(a:AV),Rd F h (b3_ l) b->Rd G h (.sl sz (xs.map c)) a->xs.length<=2^40->(l++(num xs.length++xs.flatMap e)).length<=2^33->
  a6_ P f [b,a,.clo put [] []] h λr h'=>r=k0_ (l++(num xs.length++xs.flatMap e))/\h'=h
theorem i_y {P:Program}{f g:FuncId}{e:e0_->List Int}(hf:Is P f (f9_ g))(hg:B_3 P g)(hc:∀x:e0_,x.c.length=3:=λ_=>rfl):B_1 P f 3 e0_.c e:=by
 refine⟨hf.2,λput hp F G h l b xs a hb ha hx4 hl=>obs (G3_ _ _) (a4_ hf.1 (J_y rfl) ?_)⟩
 show vc P (f9_ g).code ⟨[(0,b),(1,a),(2,.clo put [] [])],[],h⟩ (b2_ (f9_ g).res _)
 have la:M5_ a=some (.int .i64 xs.length):=by simpa using ha.len
 simp only[f9_,go_sem,reduceEqDiff,la]
 refine j4_ hg.1 (hg.2 _ h _ b _ hb (by simp only[J_z]at hl;omega)) ?_
 simp only[go_sem,reduceEqDiff,la]
 refine e8_ (λm L h'=>∃(i:Nat),lk 0 L=k0_ (l++(num xs.length++(xs.take i).flatMap e))/\lk 2 L=.clo put [] []/\lk 13 L=a/\lk 14 L=.int .i64 xs.length/\lk 15 L=.int .i64 i/\Ext nof h h'/\i<=xs.length/\m=xs.length-i) xs.length ?_ ?_
 ·exact⟨0,by simp[a3_],by simp[a3_,c9_],by simp[a3_],by simp[a3_],by simp[a3_],Ext.refl _ _,by omega,by omega⟩
 ·rintro m L h2 ⟨i,k0,k2,k13,k14,k15,hE,hi,rfl⟩
  simp only[q7_,go_sem,k14,k15]
  refine b0_ (λci=>?_) (λci=>?_)
  ·simp at ci
   obtain⟨p,cs,hp1,hp2,hcs⟩:=(ha.up hE).index .i64 (i:=i) (d:=xs[i].c) (by omega) (by simp[ci])
   have hcl:cs.length=3:=by rw[Q0_ hcs,hc]
   have ld:=n2_ hp2 true 3
   rw[V5_,hcl,if_pos (J_4 _),K_r (by omega)]at ld
   have sm:∀z:List AV,z.length=3->setMany z 0 cs=cs:=λz hz=>J6_ (by omega)
   have tk:cs.take 3=cs:=K_r (by omega)
   have e1:IntKind.i64.wrap (↑i+1)=(i:Int)+1:=a7_ (by omega)
   have hx:=hcs.scalars
   simp only[go_sem,reduceEqDiff,reduceAdd,reduceLeDiff,k0,k2,k13,k15,hp1,ld,hcl,hx,sm,tk]
   have fl:(xs.take (i+1)).flatMap e=(xs.take i).flatMap e++e xs[i]:=by
    rw[K_f ci,M_h,L_6,List.flatMap_nil,K_2]
   have ll:(l++(num xs.length++(xs.take i).flatMap e)++e xs[i]).length<=2^33:=by
    have e3:xs=xs.take (i+1)++xs.drop (i+1):=(L_a _ _).symm
    have e4:xs.flatMap e=(xs.take (i+1)).flatMap e++(xs.drop (i+1)).flatMap e:=by rw[<-M_h,L_a]
    rw[e4,fl]at hl
    simp only[J_z]at hl ⊢
    omega
   refine j4_ hp.1 (hp.2 nof G _ _ _ xs[i] _ (g6_ _ _ _) (hcs.up (Ext.b1 _)) ll) ?_
   simp only[go_sem,reduceEqDiff,k0,k2,k13,k14,k15,e1]
   refine⟨_,by omega,i+1,by rw[fl];simp only[K_h],by simp,hE.tr (Ext.b1 _),ci,rfl⟩
  ·simp at ci
   obtain rfl:i=xs.length:=by omega
   rw[K_y]at k0
   simp only[go_sem,reduceEqDiff,k0]
   exact hE
theorem l_q {P:Program}{f g:FuncId}{e:d7_->List Int}(hf:Is P f (h0_ g))(hg:B_3 P g)(hc:∀x:d7_,x.c.length=10:=λ_=>rfl):B_1 P f 10 d7_.c e:=by
 refine⟨hf.2,λput hp F G h l b xs a hb ha hx4 hl=>obs (G3_ _ _) (a4_ hf.1 (J_y rfl) ?_)⟩
 show vc P (h0_ g).code ⟨[(0,b),(1,a),(2,.clo put [] [])],[],h⟩ (b2_ (h0_ g).res _)
 have la:M5_ a=some (.int .i64 xs.length):=by simpa using ha.len
 simp only[h0_,go_sem,reduceEqDiff,la]
 refine j4_ hg.1 (hg.2 _ h _ b _ hb (by simp only[J_z]at hl;omega)) ?_
 simp only[go_sem,reduceEqDiff,la]
 refine e8_ (λm L h'=>∃(i:Nat),lk 0 L=k0_ (l++(num xs.length++(xs.take i).flatMap e))/\lk 2 L=.clo put [] []/\lk 13 L=a/\lk 14 L=.int .i64 xs.length/\lk 15 L=.int .i64 i/\Ext nof h h'/\i<=xs.length/\m=xs.length-i) xs.length ?_ ?_
 ·exact⟨0,by simp[a3_],by simp[a3_,c9_],by simp[a3_],by simp[a3_],by simp[a3_],Ext.refl _ _,by omega,by omega⟩
 ·rintro m L h2 ⟨i,k0,k2,k13,k14,k15,hE,hi,rfl⟩
  simp only[s2_,go_sem,k14,k15]
  refine b0_ (λci=>?_) (λci=>?_)
  ·simp at ci
   obtain⟨p,cs,hp1,hp2,hcs⟩:=(ha.up hE).index .i64 (i:=i) (d:=xs[i].c) (by omega) (by simp[ci])
   have hcl:cs.length=10:=by rw[Q0_ hcs,hc]
   have ld:=n2_ hp2 true 10
   rw[V5_,hcl,if_pos (J_4 _),K_r (by omega)]at ld
   have sm:∀z:List AV,z.length=10->setMany z 0 cs=cs:=λz hz=>J6_ (by omega)
   have tk:cs.take 10=cs:=K_r (by omega)
   have e1:IntKind.i64.wrap (↑i+1)=(i:Int)+1:=a7_ (by omega)
   have hx:=hcs.scalars
   simp only[go_sem,reduceEqDiff,reduceAdd,reduceLeDiff,k0,k2,k13,k15,hp1,ld,hcl,hx,sm,tk]
   have fl:(xs.take (i+1)).flatMap e=(xs.take i).flatMap e++e xs[i]:=by
    rw[K_f ci,M_h,L_6,List.flatMap_nil,K_2]
   have ll:(l++(num xs.length++(xs.take i).flatMap e)++e xs[i]).length<=2^33:=by
    have e3:xs=xs.take (i+1)++xs.drop (i+1):=(L_a _ _).symm
    have e4:xs.flatMap e=(xs.take (i+1)).flatMap e++(xs.drop (i+1)).flatMap e:=by rw[<-M_h,L_a]
    rw[e4,fl]at hl
    simp only[J_z]at hl ⊢
    omega
   refine j4_ hp.1 (hp.2 nof G _ _ _ xs[i] _ (g6_ _ _ _) (hcs.up (Ext.b1 _)) ll) ?_
   simp only[go_sem,reduceEqDiff,k0,k2,k13,k14,k15,e1]
   refine⟨_,by omega,i+1,by rw[fl];simp only[K_h],by simp,hE.tr (Ext.b1 _),ci,rfl⟩
  ·simp at ci
   obtain rfl:i=xs.length:=by omega
   rw[K_y]at k0
   simp only[go_sem,reduceEqDiff,k0]
   exact hE
theorem l_p {P:Program}{f g:FuncId}{e:v3_->List Int}(hf:Is P f (e6_ g))(hg:B_3 P g)(hc:∀x:v3_,x.c.length=5:=λ_=>rfl):B_1 P f 5 v3_.c e:=by
 refine⟨hf.2,λput hp F G h l b xs a hb ha hx4 hl=>obs (G3_ _ _) (a4_ hf.1 (J_y rfl) ?_)⟩
 show vc P (e6_ g).code ⟨[(0,b),(1,a),(2,.clo put [] [])],[],h⟩ (b2_ (e6_ g).res _)
 have la:M5_ a=some (.int .i64 xs.length):=by simpa using ha.len
 simp only[e6_,go_sem,reduceEqDiff,la]
 refine j4_ hg.1 (hg.2 _ h _ b _ hb (by simp only[J_z]at hl;omega)) ?_
 simp only[go_sem,reduceEqDiff,la]
 refine e8_ (λm L h'=>∃(i:Nat),lk 0 L=k0_ (l++(num xs.length++(xs.take i).flatMap e))/\lk 2 L=.clo put [] []/\lk 13 L=a/\lk 14 L=.int .i64 xs.length/\lk 15 L=.int .i64 i/\Ext nof h h'/\i<=xs.length/\m=xs.length-i) xs.length ?_ ?_
 ·exact⟨0,by simp[a3_],by simp[a3_,c9_],by simp[a3_],by simp[a3_],by simp[a3_],Ext.refl _ _,by omega,by omega⟩
 ·rintro m L h2 ⟨i,k0,k2,k13,k14,k15,hE,hi,rfl⟩
  simp only[o1_,go_sem,k14,k15]
  refine b0_ (λci=>?_) (λci=>?_)
  ·simp at ci
   obtain⟨p,cs,hp1,hp2,hcs⟩:=(ha.up hE).index .i64 (i:=i) (d:=xs[i].c) (by omega) (by simp[ci])
   have hcl:cs.length=5:=by rw[Q0_ hcs,hc]
   have ld:=n2_ hp2 true 5
   rw[V5_,hcl,if_pos (J_4 _),K_r (by omega)]at ld
   have sm:∀z:List AV,z.length=5->setMany z 0 cs=cs:=λz hz=>J6_ (by omega)
   have tk:cs.take 5=cs:=K_r (by omega)
   have e1:IntKind.i64.wrap (↑i+1)=(i:Int)+1:=a7_ (by omega)
   have hx:=hcs.scalars
   simp only[go_sem,reduceEqDiff,reduceAdd,reduceLeDiff,k0,k2,k13,k15,hp1,ld,hcl,hx,sm,tk]
   have fl:(xs.take (i+1)).flatMap e=(xs.take i).flatMap e++e xs[i]:=by
    rw[K_f ci,M_h,L_6,List.flatMap_nil,K_2]
   have ll:(l++(num xs.length++(xs.take i).flatMap e)++e xs[i]).length<=2^33:=by
    have e3:xs=xs.take (i+1)++xs.drop (i+1):=(L_a _ _).symm
    have e4:xs.flatMap e=(xs.take (i+1)).flatMap e++(xs.drop (i+1)).flatMap e:=by rw[<-M_h,L_a]
    rw[e4,fl]at hl
    simp only[J_z]at hl ⊢
    omega
   refine j4_ hp.1 (hp.2 nof G _ _ _ xs[i] _ (g6_ _ _ _) (hcs.up (Ext.b1 _)) ll) ?_
   simp only[go_sem,reduceEqDiff,k0,k2,k13,k14,k15,e1]
   refine⟨_,by omega,i+1,by rw[fl];simp only[K_h],by simp,hE.tr (Ext.b1 _),ci,rfl⟩
  ·simp at ci
   obtain rfl:i=xs.length:=by omega
   rw[K_y]at k0
   simp only[go_sem,reduceEqDiff,k0]
   exact hE
theorem n_m {e:e0_}{F:Nat->Prop}{h:a0_}{a:List AV}(hh:RdL F h e.c a):∃d,a=[.int .i64 e.term,.int .i64 e.kind,d]/\Rd F h (b3_ e.data) d:=by
 simp only[e0_.c,R9_]at hh
 obtain⟨_,rfl,_,rfl,hh⟩:=hh
 simp only[RdL]at hh
 obtain⟨d,_,rfl,h1,rfl⟩:=hh
 exact⟨d,rfl,h1⟩
theorem C_d {x:Log}{F:Nat->Prop}{h:a0_}{a:List AV}(hh:RdL F h x.c a):∃d,a=[.int .i64 x.base,.int .i64 x.bterm,d]/\Rd F h (b7_ x.es) d:=by
 simp only[Log.c,R9_]at hh
 obtain⟨_,rfl,_,rfl,hh⟩:=hh
 simp only[RdL]at hh
 obtain⟨d,_,rfl,h1,rfl⟩:=hh
 exact⟨d,rfl,h1⟩
theorem s_f {x:v3_}{F:Nat->Prop}{h:a0_}{a:List AV}(hh:RdL F h x.c a):a=[.int .i64 x.txn,.int .i64 x.part,.int .i64 x.promised,.int .i64 x.ballot,.int .i64 x.value]:=by
 simp only[v3_.c,R9_]at hh
 obtain⟨_,rfl,_,rfl,_,rfl,_,rfl,_,rfl,hh⟩:=hh
 simp only[RdL]at hh
 rw[hh]
theorem c_y {x:b9_}{F:Nat->Prop}{h:a0_}{a:List AV}(hh:RdL F h x.c a):∃e o n l s,a=[.int .i64 x.kind,.int .i64 x.group,.int .i64 x.term,.int .i64 x.voted,.int .i64 x.from_,.int .i64 x.log.base,.int .i64 x.log.bterm,e,o,n,l,s,
  .int .i64 x.vote.txn,.int .i64 x.vote.part,.int .i64 x.vote.promised,.int .i64 x.vote.ballot,.int .i64 x.vote.value]/\Rd F h (b7_ x.log.es) e/\Rd F h (b1_ x.conf.old) o/\Rd F h (b1_ x.conf.new) n/\Rd F h (b1_ x.conf.learners) l/\Rd F h (b3_ x.snap) s:=by
 simp only[b9_.c,R9_]at hh
 obtain⟨_,rfl,_,rfl,_,rfl,_,rfl,_,rfl,_,rfl,_,rfl,hh⟩:=hh
 simp only[RdL]at hh
 obtain⟨e,_,rfl,h1,o,_,rfl,h2,n,_,rfl,h3,l,_,rfl,h4,s,_,rfl,h5,_,_,rfl,h6,_,_,rfl,h7,_,_,rfl,h8,_,_,rfl,h9,_,_,rfl,h10,rfl⟩:=hh
 simp only[Rd]at h6 h7 h8 h9 h10
 subst h6 h7 h8 h9 h10
 exact⟨e,o,n,l,s,rfl,h1,h2,h3,h4,h5⟩
theorem g_a {x:x1_}{F:Nat->Prop}{h:a0_}{a:List AV}(hh:RdL F h x.c a):∃d v,a=[d,v]/\Rd F h (d_t x.hards) d/\Rd F h (A9_ x.votes) v:=by
 simp only[x1_.c,RdL]at hh
 obtain⟨d,_,rfl,h1,v,_,rfl,h2,rfl⟩:=hh
 exact⟨d,v,rfl,h1,h2⟩
theorem V8_ {H:a0_}{l:List Int}{g:Bool}{n k:Nat}(hn:n=l.length) (hb:H[k]?=some (some (.arr 1 (l.map λn=>[.int .i64 n]) g))):Rd (λ_=>True) H (b1_ l) (.ref k 1 0 n (some n)):=by
 subst hn
 simp only[b1_,Rd]
 exact⟨_,.inr (.inr ⟨k,0,l.length,_,_,g,rfl,trivial,hb,by simp,(λc hc=>by cases hc;omega),rfl⟩),by rw[L_d,K_r (by simp)];exact a8_.rd (F:=λ_=>True) _ (λ_ x=>x) _ (H7_ .i64 _ _ l)⟩
theorem l_r {P:Program}{f g k:FuncId}(hf:Is P f (q0_ g k))(hg:d_2 P g)(hk:v_m P k):e_z P f e0_.c v7_.enc:=by
 refine⟨hf.2,λF G h l b x as hb ha hl=>obs (G3_ _ _) (a4_ hf.1 (J_y rfl) ?_)⟩
 show vc P (q0_ g k).code ⟨[(0,b),(1,.agg as)],[],h⟩ (b2_ (q0_ g k).res _)
 obtain⟨d,rfl,hd⟩:=n_m ha
 have hn8:=f3_
 rw[f_j]at hl ⊢
 simp only[J_z,c7_]at hl
 simp only[q0_,go_sem,reduceEqDiff,reduceAdd,reducePow,reduceDiv,reduceMod,decide_true,hd.scalar]
 refine j4_ hg.1 (hg.2 _ (λ_=>True) _ l [x.term,x.kind] b _ (hb.up (Ext.b2 _ _)) (V8_ rfl (O1_ _ _ _)) (by simp) (by simp only[J_z,hn8,List.length_cons,K_d];omega)) ?_
 simp only[go_sem,reduceEqDiff,reducePow,reduceDiv,reduceMod,decide_true]
 refine j4_ hk.1 (hk.2 nof G _ _ x.data _ d (g6_ _ _ _) (hd.up (Ext.b2 _ _)) (by simp only[J_z,hn8,List.length_cons,K_d];omega) (by omega)) ?_
 simp only[go_sem,reduceEqDiff,reducePow,reduceDiv,reduceMod,decide_true]
 exact⟨by simp only[nums,K_2,K_h],Ext.b2 _ _⟩
theorem s_r {P:Program}{f g k p:FuncId}(hf:Is P f (u8_ g k p))(hg:d_2 P g)(hk:B_1 P k 3 e0_.c v7_.enc)(hp:e_z P p e0_.c v7_.enc):e_z P f Log.c C6_.enc:=by
 refine⟨hf.2,λF G h l b x as hb ha hl=>obs (G3_ _ _) (a4_ hf.1 (J_y rfl) ?_)⟩
 show vc P (u8_ g k p).code ⟨[(0,b),(1,.agg as)],[],h⟩ (b2_ (u8_ g k p).res _)
 obtain⟨d,rfl,hd⟩:=C_d ha
 have hn8:=f3_
 have hfb:=Y3_ v7_ x.es
 rw[g_j]at hl ⊢
 simp only[J_z,c7_]at hl
 simp only[u8_,go_sem,reduceEqDiff,reduceAdd,reducePow,reduceDiv,reduceMod,decide_true,hd.scalar]
 refine j4_ hg.1 (hg.2 _ (λ_=>True) _ l [x.base,x.bterm] b _ (hb.up (Ext.b2 _ _)) (V8_ rfl (O1_ _ _ _)) (by simp) (by simp only[J_z,hn8,List.length_cons,K_d];omega)) ?_
 simp only[go_sem,reduceEqDiff,reducePow,reduceDiv,reduceMod,decide_true]
 refine j4_ hk.1 (hk.2 p hp nof G _ _ _ x.es d (g6_ _ _ _) (hd.up (Ext.b2 _ _)) (by omega) (by simp only[J_z,hn8,c7_,List.length_cons,K_d];omega)) ?_
 simp only[go_sem,reduceEqDiff,reducePow,reduceDiv,reduceMod,decide_true]
 exact⟨by simp only[nums,K_2,K_h],Ext.b2 _ _⟩
theorem p_i {P:Program}{f g:FuncId}(hf:Is P f (s1_ g))(hg:d_2 P g):e_z P f v3_.c v9_.enc:=by
 refine⟨hf.2,λF G h l b x as hb ha hl=>obs (G3_ _ _) (a4_ hf.1 (J_y rfl) ?_)⟩
 show vc P (s1_ g).code ⟨[(0,b),(1,.agg as)],[],h⟩ (b2_ (s1_ g).res _)
 obtain rfl:=s_f ha
 rw[c_g]at hl ⊢
 simp only[s1_,go_sem,reduceEqDiff,reduceAdd]
 refine j4_ hg.1 (hg.2 _ (λ_=>True) _ l [x.txn,x.part,x.promised,x.ballot,x.value] b _ (hb.up (Ext.b2 _ _)) (V8_ rfl (O1_ _ _ _)) (by simp) hl) ?_
 simp only[go_sem,reduceEqDiff]
 exact Ext.b2 _ _
theorem p_j {P:Program}{f g lo co k:FuncId}(hf:Is P f (s3_ g lo co k))(hg:d_2 P g)(hlo:e_z P lo Log.c C6_.enc)(hco:e_z P co e3_.c e3_.bytes)(hk:v_m P k):e_z P f d7_.c D0_.enc:=by
 refine⟨hf.2,λF G h l b x as hb ha hl=>obs (G3_ _ _) (a4_ hf.1 (J_y rfl) ?_)⟩
 show vc P (s3_ g lo co k).code ⟨[(0,b),(1,.agg as)],[],h⟩ (b2_ (s3_ g lo co k).res _)
 obtain⟨e,o,n,d,s,rfl,he,ho,hn,hd,hs⟩:=R8_ ha
 have hn8:=f3_
 rw[j_y]at hl ⊢
 simp only[J_z,hn8,c7_,List.length_cons,K_d]at hl
 simp only[s3_,d7_.cells,go_sem,reduceEqDiff,reduceAdd,reduceLeDiff,reducePow,reduceDiv,reduceMod,decide_true,he.scalar,ho.scalar,hn.scalar,hd.scalar,hs.scalar]
 refine j4_ hg.1 (hg.2 _ (λ_=>True) _ l [x.group,x.term,x.vote] b _ (hb.up (Ext.b2 _ _)) (V8_ rfl (O1_ _ _ _)) (by simp) (by simp only[J_z,hn8,List.length_cons,K_d];omega)) ?_
 simp only[go_sem,reduceEqDiff,reduceAdd,reduceLeDiff,reducePow,reduceDiv,reduceMod,decide_true]
 refine j4_ hlo.1 (hlo.2 nof G _ _ _ x.log _ (g6_ _ _ _) ((y_f he).up (Ext.b2 _ _)) (by simp only[J_z,hn8,List.length_cons,K_d];omega)) ?_
 simp only[go_sem,reduceEqDiff,reduceAdd,reduceLeDiff,reducePow,reduceDiv,reduceMod,decide_true]
 refine j4_ hco.1 (hco.2 nof G _ _ _ x.conf _ (g6_ _ _ _) ((g_5 ho hn hd).up (Ext.b2 _ _)) (by simp only[J_z,hn8,List.length_cons,K_d];omega)) ?_
 simp only[go_sem,reduceEqDiff,reduceAdd,reduceLeDiff,reducePow,reduceDiv,reduceMod,decide_true]
 refine j4_ hk.1 (hk.2 nof G _ _ x.snap _ s (g6_ _ _ _) (hs.up (Ext.b2 _ _)) (by simp only[J_z,hn8,List.length_cons,K_d];omega) (by omega)) ?_
 simp only[go_sem,reduceEqDiff,reduceAdd,reduceLeDiff,reducePow,reduceDiv,reduceMod,decide_true]
 exact⟨by simp only[K_h],Ext.b2 _ _⟩
theorem y_x {x:v3_}{F:Nat->Prop}{h:a0_}:RdL F h x.c [.int .i64 x.txn,.int .i64 x.part,.int .i64 x.promised,.int .i64 x.ballot,.int .i64 x.value]:=by
 simp only[v3_.c,RdL,Rd];exact⟨_,_,rfl,rfl,_,_,rfl,rfl,_,_,rfl,rfl,_,_,rfl,rfl,_,_,rfl,rfl,rfl⟩
theorem i_z {P:Program}{f g lo co k vo:FuncId}(hf:Is P f (o2_ g lo co k vo))(hg:d_2 P g)(hlo:e_z P lo Log.c C6_.enc)(hco:e_z P co e3_.c e3_.bytes)(hk:v_m P k)(hv:e_z P vo v3_.c v9_.enc):e_z P f b9_.c o9_.enc:=by
 refine⟨hf.2,λF G h l b x as hb ha hl=>obs (G3_ _ _) (a4_ hf.1 (J_y rfl) ?_)⟩
 show vc P (o2_ g lo co k vo).code ⟨[(0,b),(1,.agg as)],[],h⟩ (b2_ (o2_ g lo co k vo).res _)
 obtain⟨e,o,n,d,s,rfl,he,ho,hn,hd,hs⟩:=c_y ha
 have hn8:=f3_
 rw[d_w]at hl ⊢
 have hve:=c_g x.vote
 simp only[J_z,hn8,c7_,List.length_cons,K_d]at hl
 simp only[o2_,go_sem,reduceEqDiff,reduceAdd,reduceLeDiff,reducePow,reduceDiv,reduceMod,decide_true,he.scalar,ho.scalar,hn.scalar,hd.scalar,hs.scalar]
 refine j4_ hg.1 (hg.2 _ (λ_=>True) _ l [x.kind,x.group,x.term,x.voted,x.from_] b _ (hb.up (Ext.b2 _ _)) (V8_ rfl (O1_ _ _ _)) (by simp) (by simp only[J_z,hn8,List.length_cons,K_d];omega)) ?_
 simp only[go_sem,reduceEqDiff,reduceAdd,reduceLeDiff,reducePow,reduceDiv,reduceMod,decide_true]
 refine j4_ hlo.1 (hlo.2 nof G _ _ _ x.log _ (g6_ _ _ _) ((y_f he).up (Ext.b2 _ _)) (by simp only[J_z,hn8,List.length_cons,K_d];omega)) ?_
 simp only[go_sem,reduceEqDiff,reduceAdd,reduceLeDiff,reducePow,reduceDiv,reduceMod,decide_true]
 refine j4_ hco.1 (hco.2 nof G _ _ _ x.conf _ (g6_ _ _ _) ((g_5 ho hn hd).up (Ext.b2 _ _)) (by simp only[J_z,hn8,List.length_cons,K_d];omega)) ?_
 simp only[go_sem,reduceEqDiff,reduceAdd,reduceLeDiff,reducePow,reduceDiv,reduceMod,decide_true]
 refine j4_ hk.1 (hk.2 nof G _ _ x.snap _ s (g6_ _ _ _) (hs.up (Ext.b2 _ _)) (by simp only[J_z,hn8,List.length_cons,K_d];omega) (by omega)) ?_
 simp only[go_sem,reduceEqDiff,reduceAdd,reduceLeDiff,reducePow,reduceDiv,reduceMod,decide_true]
 refine j4_ hv.1 (hv.2 nof nof _ _ _ x.vote _ (g6_ _ _ _) y_x (by simp only[J_z,hn8,c7_,List.length_cons,K_d];omega)) ?_
 simp only[go_sem,reduceEqDiff,reduceAdd,reduceLeDiff,reducePow,reduceDiv,reduceMod,decide_true]
 exact⟨by simp only[K_h],Ext.b2 _ _⟩
def m_4 (P:Program)(f:FuncId):Prop:=f2_ P f=true/\∀(G:Nat->Prop)(h:a0_)(x:x1_)(as:List AV),RdL G h x.c as->(x4_.enc x).length<=2^33->a6_ P f [.agg as] h λr h'=>r=k0_ (x4_.enc x)/\h'=h
theorem D_g {P:Program}{f lh ph lv pv:FuncId}(hf:Is P f (E0_ lh ph lv pv))(hlh:B_1 P lh 10 d7_.c D0_.enc)(hph:e_z P ph d7_.c D0_.enc)(hlv:B_1 P lv 5 v3_.c v9_.enc)(hpv:e_z P pv v3_.c v9_.enc):m_4 P f:=by
 refine⟨hf.2,λG h x as ha hl=>obs (G3_ _ _) (a4_ hf.1 (J_y rfl) ?_)⟩
 show vc P (E0_ lh ph lv pv).code ⟨[(0,.agg as)],[],h⟩ (b2_ (E0_ lh ph lv pv).res _)
 obtain⟨d,v,rfl,hd,hv⟩:=g_a ha
 have f1:=Y3_ D0_ x.hards
 have f2:=Y3_ v9_ x.votes
 rw[p_0]at hl ⊢
 simp only[J_z,c7_]at hl
 simp only[E0_,go_sem,reduceEqDiff,reduceAdd,hd.scalar,hv.scalar]
 refine j4_ hlh.1 (hlh.2 ph hph nof G _ [] _ x.hards d (Rd.nils 1) (hd.up (Ext.b1 _)) (by omega) (by simp only[List.nil_append,J_z,c7_];omega)) ?_
 simp only[go_sem,reduceEqDiff,reducePow,reduceDiv,reduceMod,decide_true]
 refine j4_ hlv.1 (hlv.2 pv hpv nof G _ _ _ x.votes v (g6_ _ _ _) (hv.up (Ext.b1 _)) (by omega) (by simp only[J_z,c7_];omega)) ?_
 simp only[go_sem,reduceEqDiff,reducePow,reduceDiv,reduceMod,decide_true]
 exact Ext.b1 _
end Glb
