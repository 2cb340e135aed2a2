/-
  A library of its own.
-/
import Derived.Test.YtdeiamnhnfmilaaGreatGlbFitA
import Derived.Test.YtdeiamnhnfmilaaGreatGlbFlow
import Derived.Test.YtdeiamnhnfmilaaGreatGlbImgA
set_option linter.unusedSimpArgs false
set_option linter.unusedVariables false
namespace Glb
open Go
def w_1:List Ty:=[.int .i64,.int .i64,.int .i64,.int .i64,.int .i64,.int .i64,.int .i64,.int .i64,.int .i64,.int .i64,.int .i64,.int .i64,.int .i64,.int .i64,.bool,.sl 3 g_0,.sl 1 [.int .u8]]
def t_o (l:List Int):Prop:=∀n∈l,e2_ n
def e0_.R (e:e0_):Prop:=e2_ e.term/\e2_ e.kind/\c2_ e.data
def Log.R (x:Log):Prop:=e2_ x.base/\e2_ x.bterm/\∀e∈x.es,e.R
def e3_.R (x:e3_):Prop:=t_o x.old/\t_o x.new/\t_o x.learners
def d7_.R (x:d7_):Prop:=e2_ x.group/\e2_ x.term/\e2_ x.vote/\x.log.R/\x.conf.R/\c2_ x.snap
def v3_.R (x:v3_):Prop:=e2_ x.txn/\e2_ x.part/\e2_ x.promised/\e2_ x.ballot/\e2_ x.value
def b9_.R (x:b9_):Prop:=e2_ x.kind/\e2_ x.group/\e2_ x.term/\e2_ x.voted/\e2_ x.from_/\x.log.R/\x.conf.R/\c2_ x.snap/\x.vote.R
def x1_.R (x:x1_):Prop:=(∀y∈x.hards,y.R)/\∀y∈x.votes,y.R
theorem t4_ {n:Int}(h:(Lit.int .i64 n).wf=true):e2_ n:=by
 simp only[Lit.wf,K_g,decide_eq_true_eq]at h
 exact⟨h.1,h.2⟩
theorem D_1 {n:Int}(h:(Lit.int .u8 n).wf=true):0<=n/\n<256:=by
 simp only[Lit.wf,K_g,decide_eq_true_eq]at h
 have h1:(0:Int)<=n:=h.1
 have h2:n<=255:=h.2
 omega
theorem L4_ {T:Type}{ts:List Ty}{f:T->List D}{R:T->Prop}(hf:∀d,s8_ d ts->∃x,d=f x/\R x):∀{es:List (List D)},f_w es ts->∃l:List T,es=l.map f/\∀x∈l,R x:=by
 intro es
 induction es with
 | nil=>intro _;exact⟨[],rfl,by simp⟩
 | cons e es ih=>
  intro h
  simp only[f_w]at h
  obtain⟨x,rfl,hx⟩:=hf e h.1
  obtain⟨l,rfl,hl⟩:=ih h.2
  exact⟨x :: l,rfl,λy hy=>(List.mem_cons.1 hy).elim (λe=>e▸hx) (hl y)⟩
theorem U6_ {d:D}(h:b_0 d (.sl 1 [.int .u8])):∃l,d=b3_ l/\c2_ l:=by
 obtain⟨es,rfl,h'⟩:=h_o h
 obtain⟨l,rfl,hl⟩:=L4_ (f:=λn:Int=>[D.int .u8 n]) (R:=λn=>0<=n/\n<256) (λd hd=>by
  obtain⟨x,r,rfl,h1,h2⟩:=c1_ hd
  obtain⟨n,rfl,hn⟩:=h7_ h1
  cases J1_ h2
  exact⟨n,rfl,D_1 hn⟩) h'
 exact⟨l,rfl,hl⟩
theorem a_u {d:D}(h:b_0 d (.sl 1 [.int .i64])):∃l,d=b1_ l/\t_o l:=by
 obtain⟨es,rfl,h'⟩:=h_o h
 obtain⟨l,rfl,hl⟩:=L4_ (f:=λn:Int=>[D.int .i64 n]) (R:=e2_) (λd hd=>by
  obtain⟨x,r,rfl,h1,h2⟩:=c1_ hd
  obtain⟨n,rfl,hn⟩:=h7_ h1
  cases J1_ h2
  exact⟨n,rfl,t4_ hn⟩) h'
 exact⟨l,rfl,hl⟩
theorem m_l {d:List D}(h:s8_ d g_0):∃e:e0_,d=e.c/\e.R:=by
 obtain⟨_,_,rfl,h1,h⟩:=c1_ h
 obtain⟨_,_,rfl,h2,h⟩:=c1_ h
 obtain⟨_,_,rfl,h3,h⟩:=c1_ h
 cases J1_ h
 obtain⟨t,rfl,w1⟩:=h7_ h1
 obtain⟨k,rfl,w2⟩:=h7_ h2
 obtain⟨b,rfl,w3⟩:=U6_ h3
 exact⟨⟨t,k,b⟩,rfl,t4_ w1,t4_ w2,w3⟩
theorem Y4_ {d:D}(h:b_0 d (.sl 3 g_0)):∃l,d=b7_ l/\∀e∈l,e.R:=by
 obtain⟨es,rfl,h'⟩:=h_o h
 obtain⟨l,rfl,hl⟩:=L4_ (f:=e0_.c) (R:=e0_.R) (λd hd=>m_l hd) h'
 exact⟨l,rfl,hl⟩
def t_v:List Ty:=[.int .i64,.int .i64,.int .i64,.int .i64,.int .i64,.sl 3 g_0,.sl 1 [.int .i64],.sl 1 [.int .i64],.sl 1 [.int .i64],.sl 1 [.int .u8]]
theorem p_4 {d:List D}(h:s8_ d t_v):∃x:d7_,d=x.c/\x.R:=by
 obtain⟨_,_,rfl,g1,h⟩:=c1_ h
 obtain⟨_,_,rfl,g2,h⟩:=c1_ h
 obtain⟨_,_,rfl,g3,h⟩:=c1_ h
 obtain⟨_,_,rfl,g4,h⟩:=c1_ h
 obtain⟨_,_,rfl,g5,h⟩:=c1_ h
 obtain⟨_,_,rfl,g6,h⟩:=c1_ h
 obtain⟨_,_,rfl,g7,h⟩:=c1_ h
 obtain⟨_,_,rfl,g8,h⟩:=c1_ h
 obtain⟨_,_,rfl,g9,h⟩:=c1_ h
 obtain⟨_,_,rfl,g10,h⟩:=c1_ h
 cases J1_ h
 obtain⟨a1,rfl,w1⟩:=h7_ g1
 obtain⟨a2,rfl,w2⟩:=h7_ g2
 obtain⟨a3,rfl,w3⟩:=h7_ g3
 obtain⟨a4,rfl,w4⟩:=h7_ g4
 obtain⟨a5,rfl,w5⟩:=h7_ g5
 obtain⟨a6,rfl,w6⟩:=Y4_ g6
 obtain⟨a7,rfl,w7⟩:=a_u g7
 obtain⟨a8,rfl,w8⟩:=a_u g8
 obtain⟨a9,rfl,w9⟩:=a_u g9
 obtain⟨a10,rfl,w10⟩:=U6_ g10
 exact⟨⟨a1,a2,a3,⟨a4,a5,a6⟩,⟨a7,a8,a9⟩,a10⟩,rfl,t4_ w1,t4_ w2,t4_ w3,⟨t4_ w4,t4_ w5,w6⟩,⟨w7,w8,w9⟩,w10⟩
end Glb
