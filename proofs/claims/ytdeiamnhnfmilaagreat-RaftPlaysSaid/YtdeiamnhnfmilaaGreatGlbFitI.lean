/-
  A library of its own.
-/
import Derived.Test.YtdeiamnhnfmilaaGreatGlbFitA
import Derived.Test.YtdeiamnhnfmilaaGreatGlbFlow
import Derived.Test.YtdeiamnhnfmilaaGreatGlbImgA
set_option linter.unusedSimpArgs false
set_option linter.unusedVariables false
namespace Glb
open Go
def xm (l:List Int):Prop:=∀n∈l,gO n
def gj.R (e:gj):Prop:=gO e.aB/\gO e.aC/\gK e.aA
def fE.R (x:fE):Prop:=gO x.aA/\gO x.aB/\∀e∈x.es,e.R
def fG.R (x:fG):Prop:=xm x.aA/\xm x.aB/\xm x.aC
def fV.R (x:fV):Prop:=gO x.aD/\gO x.aB/\gO x.aE/\x.aA.R/\x.aC.R/\gK x.aF
theorem jA {n:Int}(h:(Lit.int .i64 n).wf=true):gO n:=by simp only[Lit.wf,VF,V4]at h;exact⟨h.1,h.2⟩
theorem U4 {n:Int}(h:(Lit.int .u8 n).wf=true):0<=n/\n<256:=by simp only[Lit.wf,VF,V4]at h;have h1:(0:Int)<=n:=h.1;have h2:n<=255:=h.2;omega
theorem vL {T:Type}{ts:List Ty}{f:T->List D}{R:T->Prop}(hf:∀d,iw d ts->∃x,d=f x/\R x):∀{es:List (List D)},rB es ts->∃l:List T,es=l.map f/\∀x∈l,R x:=by
 intro es;induction es with
 | nil=>intro _;exact⟨[],rfl,by simp⟩
 | cons e es ih=>intro h;simp only[rB]at h;obtain⟨x,rfl,hx⟩:=hf e h.1;obtain⟨l,rfl,hl⟩:=ih h.2;exact⟨x :: l,rfl,λy hy=>(VR.1 hy).elim (λe=>e▸hx) (hl y)⟩
theorem xh {d:D}(h:jv d (.sl 1 [.aA .u8])):∃l,d=fT l/\gK l:=by obtain⟨es,rfl,h'⟩:=vM h;obtain⟨l,rfl,hl⟩:=vL (f:=λn:Int=>[D.aA .u8 n]) (R:=λn=>0<=n/\n<256) (λd hd=>by obtain⟨x,r,rfl,h1,h2⟩:=ir hd;obtain⟨n,rfl,hn⟩:=jg h1;cases qh h2;exact⟨n,rfl,U4 hn⟩) h';exact⟨l,rfl,hl⟩
theorem Cu {d:D}(h:jv d (.sl 1 [.aA .i64])):∃l,d=fK l/\xm l:=by obtain⟨es,rfl,h'⟩:=vM h;obtain⟨l,rfl,hl⟩:=vL (f:=λn:Int=>[D.aA .i64 n]) (R:=gO) (λd hd=>by obtain⟨x,r,rfl,h1,h2⟩:=ir hd;obtain⟨n,rfl,hn⟩:=jg h1;cases qh h2;exact⟨n,rfl,jA hn⟩) h';exact⟨l,rfl,hl⟩
theorem Nu {d:List D}(h:iw d uq):∃e:gj,d=e.c/\e.R:=by obtain⟨_,_,rfl,h1,h⟩:=ir h;obtain⟨_,_,rfl,h2,h⟩:=ir h;obtain⟨_,_,rfl,h3,h⟩:=ir h;cases qh h;obtain⟨t,rfl,w1⟩:=jg h1;obtain⟨k,rfl,w2⟩:=jg h2;obtain⟨b,rfl,w3⟩:=xh h3;exact⟨⟨t,k,b⟩,rfl,jA w1,jA w2,w3⟩
theorem GR {d:D}(h:jv d (.sl 3 uq)):∃l,d=f_ l/\∀e∈l,e.R:=by obtain⟨es,rfl,h'⟩:=vM h;obtain⟨l,rfl,hl⟩:=vL (f:=gj.c) (R:=gj.R) (λd hd=>Nu hd) h';exact⟨l,rfl,hl⟩
def oW:List Ty:=[.aA .i64,.aA .i64,.aA .i64,.aA .i64,.aA .i64,.sl 3 uq,.sl 1 [.aA .i64],.sl 1 [.aA .i64],.sl 1 [.aA .i64],.sl 1 [.aA .u8]]
def qH:List Ty:=[.aA .i64,.aA .i64,.aA .i64,.aA .i64,.aA .i64,.aA .i64,.aA .i64,.sl 3 uq,.sl 1 [.aA .i64],.sl 1 [.aA .i64],.sl 1 [.aA .i64],.sl 1 [.aA .u8],.aA .i64,.aA .i64,.aA .i64,.aA .i64,.aA .i64]
theorem Nv {d:List D}(h:iw d oW):∃x:fV,d=x.c/\x.R:=by obtain⟨_,_,rfl,g1,h⟩:=ir h;obtain⟨_,_,rfl,g2,h⟩:=ir h;obtain⟨_,_,rfl,g3,h⟩:=ir h;obtain⟨_,_,rfl,g4,h⟩:=ir h;obtain⟨_,_,rfl,g5,h⟩:=ir h;obtain⟨_,_,rfl,g6,h⟩:=ir h;obtain⟨_,_,rfl,g7,h⟩:=ir h;obtain⟨_,_,rfl,g8,h⟩:=ir h;obtain⟨_,_,rfl,g9,h⟩:=ir h;obtain⟨_,_,rfl,t,h⟩:=ir h;cases qh h;obtain⟨a1,rfl,w1⟩:=jg g1;obtain⟨a2,rfl,w2⟩:=jg g2;obtain⟨a3,rfl,w3⟩:=jg g3;obtain⟨a4,rfl,w4⟩:=jg g4;obtain⟨a5,rfl,w5⟩:=jg g5;obtain⟨a6,rfl,w6⟩:=GR g6;obtain⟨a7,rfl,w7⟩:=Cu g7;obtain⟨a8,rfl,w8⟩:=Cu g8;obtain⟨a9,rfl,w9⟩:=Cu g9;obtain⟨u,rfl,b⟩:=xh t;exact⟨⟨a1,a2,a3,⟨a4,a5,a6⟩,⟨a7,a8,a9⟩,u⟩,rfl,jA w1,jA w2,jA w3,⟨jA w4,jA w5,w6⟩,⟨w7,w8,w9⟩,b⟩
end Glb
