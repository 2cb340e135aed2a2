/-
  A library of its own.
-/
import Derived.Test.YtdeiamnhnfmilaaGreatGlbRafA
import Derived.Test.YtdeiamnhnfmilaaGreatGlbLaid
set_option linter.unusedSimpArgs false
set_option linter.unusedVariables false
set_option maxRecDepth 10000
set_option maxHeartbeats 8000000
open Nat (reduceAdd)
namespace Glb
open Go
theorem xG:∀(l:List Int)(a:Int),jV l->(∀m∈l,a<=m/\m<=7)->a<=8->(l.length:Int)<=8-a
 | [],a,_,_,h=>by simp;omega
 | x :: l,a,h1,h2,h3=>by have h4:=Wb.1 h1;have hx:=h2 x (by simp);have:=xG l (x+1) h4.2 (λm hm=>⟨by have:=h4.1 m hm;omega,(h2 m (by simp[hm])).2⟩) (by omega);simp only[UG];omega
theorem mI {x:fq}(h:x.aE=true):x.aH 7:=by obtain⟨-,⟨h1,h2⟩,⟨h3,h4⟩,⟨h5,h6⟩,-⟩:=vz.1 h;have a:=xG _ 1 h1 h2 (by omega);have b:=xG _ 1 h3 h4 (by omega);have c:=xG _ 1 h5 h6 (by omega);exact⟨by omega,by omega,by omega⟩
theorem fq.aH.le {x:fq}{a b:Nat}(h:x.aH a)(e:a<=b):x.aH b:=⟨UH h.1 e,UH h.2.1 e,UH h.2.2 e⟩
theorem uS {l:List Int}(h:(ie l).2=0):(ie l).1.aE=true:=by
 simp only[ie]at h ⊢;by_cases c:(iS.aA (some l)).2.aD=0
 ·have c':¬(iS.aA (some l)).2.aD≠0:=by simpa using c
  rw[Uw c']at h ⊢;by_cases o:(iS.aA (some l)).1.aE=true;·rw[Uv o];exact o
  ·rw[Uw o]at h;cases h
 ·rw[Uv c]at h;exact absurd h c
theorem fF.aR (x:fF)(h:x.aD.aE=true):∀k,k<=x.aA.es.length->(x.aK k).1.aE=true/\x.aA.aA<=(x.aK k).2/\(x.aK k).2<=x.aA.aA+k
 | 0,_=>⟨h,UL _,Int.le_of_eq (by show x.aA.aA=_;simp)⟩
 | k+1,hk=>by
  rw[fF.aS hk];split;·rename_i c;exact⟨uS c.2,by show x.aA.aA<=x.aA.aA+1+k;omega,by show x.aA.aA+1+(k:Int)<=_;omega⟩
  ·obtain⟨a,b,c⟩:=fF.aR x h k (by omega);exact⟨a,b,by omega⟩
theorem fF.aQ {x:fF}(h:x.aD.aE=true):x.of.1.aE=true/\x.aA.aA<=x.of.2/\x.of.2<=x.aA.aC:=fF.aR x h _ (Uy _)
def fR.aH (w:fR):Prop:=(1<=w.aD/\w.aD<=7)/\(0<=w.aC/\w.aC<=2^41)/\(0<=w.aE/\w.aE<=2^40)
theorem fR.aH.aA {w:fR}(h:w.aH):w.aJ:=by obtain⟨⟨h1,h2⟩,⟨h3,h4⟩,h5,h6⟩:=h;exact⟨⟨by omega,h3,h5⟩,by omega,by omega,by omega⟩
def fT.aG (e:fT):Prop:=(gI e.aC/\e.aC.length<=2^16)/\hU e.aA/\hU e.aD
structure eZ.aD (k:Nat)(x:eZ):Prop where
 aD:0<=x.aA.aA.aA/\x.aA.aA.aA<=2^40+k
 aL:x.aA.aA.es.length<=k
 aG:x.aA.aA.aC<=2^40+k
 aI:∀e∈x.aA.aA.es,e.aG
 aH:x.aA.aD.aE=true
 aU:gI x.aA.aG/\x.aA.aG.length<=2^16
 aF:0<=x.aA.aC/\x.aA.aC<=2^40
 aO:hU x.aA.aE/\hU x.aA.aF/\hU x.aA.aA.aD
 aR:x.aA.aA.aA<=x.aH/\x.aH<=x.aE/\x.aE<=x.aA.aA.aC
 aX:0<=x.aK/\x.aK<=k
 bw:0<=x.aO/\x.aO<=1
 bC:0<=x.aL/\x.aL<=k
 aY:x.aI.length<=k+1
 aE:x.aC.length<=21/\∀w∈x.aC,w.aH
 id:1<=x.id/\x.id<=7
theorem eZ.aD.aA {k k':Nat}{x:eZ}(h:x.aD k)(hk:k<=k'):x.aD k':=by obtain⟨h1,h2,h3,h4,h5,h6,h7,h8,h9,h10,E,h12,h13,u,e⟩:=h;exact⟨⟨h1.1,by omega⟩,by omega,by omega,h4,h5,h6,h7,h8,h9,by omega,E,by omega,by omega,u,e⟩
section
variable {k:Nat} {x:eZ}
theorem eZ.aD.bH (h:x.aD k)(hk:k<=2^28):me x.aA.aA.es:=⟨by have:=h.aL;omega,λe he=>by have:=(h.aI e he).1.2;omega⟩
theorem eZ.aD.aC (h:x.aD k)(hk:k<=2^28):jH x.aA.aA:=⟨h.aD.1,by have:=h.aD.2;omega,h.bH hk⟩
theorem eZ.aD.aK (h:x.aD k)(hk:k<=2^28):x.aA.aO:=⟨⟨h.aD.1,by have:=h.aD.2;omega⟩,by have:=h.aL;omega,λe he=>⟨(h.aI e he).1.1,by have:=(h.aI e he).1.2;omega⟩,(mI h.aH).le (by omega)⟩
theorem eZ.aD.bx (h:x.aD k)(hk:k<=2^28):x.aA.aP:=⟨h.aC hk,(mI h.aH).le (by omega),by have:=h.aU.2;omega⟩
theorem eZ.aD.aP (h:x.aD k):x.aN.aE=true:=(fF.aQ h.aH).1
theorem eZ.aD.aM (h:x.aD k){n:Nat}(hn:7<=n):x.aN.aH n:=(mI h.aP).le hn
end
theorem xS {x:fq}(h:x.aE=true):x.aI.length<=14:=by have u:=xO (x.aA++x.aC);have f:=mI h;simp only[Ut]at u;have:=f.1;have:=f.2.1;simp only[fq.aI];omega
theorem Cd {x:fq}(h:x.aE=true):x.aL.length<=21:=by have u:=xO (x.aA++x.aC++x.aD);have f:=mI h;simp only[Ut]at u;have:=f.1;have:=f.2.1;have:=f.2.2;simp only[fq.aL];omega
theorem Om {x:fq}(h:x.aE=true){n:Int}(hn:n∈x.aL):1<=n/\n<=7:=by
 obtain⟨-,⟨-,h2⟩,⟨-,h4⟩,⟨-,h6⟩,-⟩:=vz.1 h;have:=((HL _).2 n).1 hn;simp only[U4]at this;rcases this with (a | a) | a;·exact h2 n a
 ·exact h4 n a
 ·exact h6 n a
section
variable {k:Nat} {x:eZ}
theorem eZ.aD.aJ (h:x.aD k)(l:Int):(x.aW l).aD k:=by obtain⟨h1,h2,h3,h4,h5,h6,h7,h8,h9,I,E,u,h13,h14,e⟩:=h;exact⟨h1,h2,h3,h4,h5,h6,h7,h8,h9,I,E,u,by simp[eZ.aW],⟨by simp[eZ.aW],by simp[eZ.aW]⟩,e⟩
theorem eZ.aD.aW (h:x.aD k){t v:Int}(ht:0<=t/\t<=2^40)(hv:hU v):({x with aA:={x.aA with aC:=t,aF:=v}}:eZ).aD k:=by obtain⟨h1,h2,h3,h4,h5,h6,h7,h8,h9,O,M,I,E,u,e⟩:=h;exact⟨h1,h2,h3,h4,h5,h6,ht,⟨h8.1,hv,h8.2.2⟩,h9,O,M,I,E,u,e⟩
theorem Ol {was:List fR}{node last:Int}:lK was node last=⟨node,last+1,0,0⟩\/(lK was node last∈was/\(lK was node last).aD=node):=by
 unfold lK;cases hf:was.find? λf=>decide (f.aD=node) with
 | none=>exact .inl rfl
 | some f=>exact .inr ⟨List.mem_of_find?_eq_some hf,by simpa using List.find?_some hf⟩
theorem eZ.aD.bA (h:x.aD k){was:List fR}{last:Int}(hw:∀w∈was,w.aH)(hl:0<=last/\last<2^41):(x.bx was last).aD k:=by
 have hn:=h.aP;obtain⟨h1,h2,h3,h4,h5,h6,h7,h8,h9,U,O,M,I,h14,E⟩:=h;refine⟨h1,h2,h3,h4,h5,h6,h7,h8,h9,U,O,M,I,⟨?_,?_⟩,E⟩;·simp only[eZ.bx,UI];exact UH (VB _ _) (Cd hn)
 ·intro w u;simp only[eZ.bx,Vz,Wi]at u;obtain⟨n,⟨hm,-⟩,rfl⟩:=u;have:=Om hn hm;rcases Ol (was:=was) (node:=n) (last:=last) with e | ⟨e,-⟩;·rw[e];exact⟨this,⟨by show 0<=last+1;omega,by show last+1<=_;omega⟩,by simp⟩
  ·exact hw _ e
theorem fu.aQ (l:fu)(e:fT):l.aE l.aC [e]=⟨l.aA,l.aD,l.es++[e]⟩:=Glb.qA l e
theorem eZ.aD.bB (h:x.aD k){e:fT}(he:e.aG):({x with aA:={x.aA with aA:=⟨x.aA.aA.aA,x.aA.aA.aD,x.aA.aA.es++[e]⟩}}:eZ).aD (k+1):=by
 obtain⟨h1,h2,h3,h4,h5,h6,h7,h8,h9,E,U,u,O,M,I⟩:=h;have el:(⟨x.aA.aA.aA,x.aA.aA.aD,x.aA.aA.es++[e]⟩:fu).aC=x.aA.aA.aC+1:=by unfold fu.aC;simp;omega
 refine⟨⟨h1.1,Wa h1.2 (by omega)⟩,by simp;omega,by rw[el];omega,?_,h5,h6,h7,h8,⟨h9.1,h9.2.1,by rw[el];exact Wa h9.2.2 (by omega)⟩,⟨E.1,Wa E.2 (by omega)⟩,U,⟨u.1,Wa u.2 (by omega)⟩,UH O (by omega),M,I⟩;intro y hy;simp only[U4,Wc]at hy;rcases hy with hy | rfl;·exact h4 y hy
 ·exact he
end
theorem F4 (x:RX)(kind:Int)(data:List Int):(x.aF kind data).r=if kind=2 then ({x.r with aA:={x.r.aA with aA:=⟨x.r.aA.aA.aA,x.r.aA.aA.aD,x.r.aA.aA.es++[⟨x.r.aA.aC,kind,data⟩]⟩}}:eZ).bx x.r.aC x.r.aM
  else {x.r with aA:={x.r.aA with aA:=⟨x.r.aA.aA.aA,x.r.aA.aA.aD,x.r.aA.aA.es++[⟨x.r.aA.aC,kind,data⟩]⟩}}:=by
 unfold RX.aF;simp only[eZ.aM,fu.aQ];split<;>rfl
theorem FZ (x:RX)(kind:Int)(data:List Int):(x.aF kind data).o={x.o with aA:=x.o.aA++[{fZ.aI with aC:=2,aH:=x.r.aA.aE,aE:=x.r.aM+1,aA:=⟨0,0,[⟨x.r.aA.aC,kind,data⟩]⟩}]}:=by have e:((x.r.aA.aA.aE x.r.aA.aA.aC [⟨x.r.aA.aC,kind,data⟩]).aI (x.r.aA.aA.aC+1) 1)=[⟨x.r.aA.aC,kind,data⟩]:=CJ _ _;unfold RX.aF;simp only[eZ.aM,e];split<;>rfl
theorem eZ.aD.aT {k:Nat}{x:RX}(h:x.r.aD k)(hk:k<=2^28){kind:Int}{data:List Int}(hd:gI data/\data.length<=2^16)(E:hU kind):(x.aF kind data).r.aD (k+1):=by
 rw[F4];have ht:=h.aF;have m:=h.bB (e:=⟨x.r.aA.aC,kind,data⟩) ⟨hd,⟨by show _<=x.r.aA.aC;omega,by show x.r.aA.aC<=_;omega⟩,E⟩;have hl:=h.aG;have hb:=h.aD;have u:0<=x.r.aA.aA.aC:=by unfold fu.aC;omega
 split;·exact m.bA h.aE.2 ⟨u,by show x.r.aA.aA.aC<_;omega⟩
 ·exact m
theorem eZ.aD.a_ {k:Nat}{x:eZ}(h:x.aD k){c:Int}(h1:x.aE<=c)(h2:c<=x.aA.aA.aC):({x with aE:=c}:eZ).aD k:=by obtain⟨g1,g2,g3,g4,g5,g6,g7,g8,g9,O,M,I,E,u,e⟩:=h;exact⟨g1,g2,g3,g4,g5,g6,g7,g8,⟨g9.1,by show x.aH<=c;omega,h2⟩,O,M,I,E,u,e⟩
theorem eZ.aD.aQ {k:Nat}{x:eZ}(h:x.aD k):x.aV.aD k:=by
 unfold eZ.aV;split;·rename_i c;exact h.a_ (by omega) (lL.1 c.2.1).2
 ·exact h
theorem pG (l:List fR):∀x:RX,(x.aO l).r=x.r/\(x.aO l).o.aA=x.o.aA/\(x.aO l).o.aD.length=x.o.aD.length+l.length:=by
 induction l with
 | nil=>intro x;exact⟨rfl,rfl,rfl⟩
 | cons w l ih=>intro x;obtain⟨h1,h2,h3⟩:=ih (x.to w);refine⟨h1,h2,?_⟩;show ((x.to w).aO l).o.aD.length=_;rw[h3];show (x.o.aD++[_]).length+l.length=_;simp;omega
theorem CG (l:List fE):∀x:RX,(x.aM l).r=x.r/\(x.aM l).o.aA=x.o.aA/\(x.aM l).o.aD.length=x.o.aD.length+l.length:=by
 induction l with
 | nil=>intro x;exact⟨rfl,rfl,rfl⟩
 | cons w l ih=>intro x;obtain⟨h1,h2,h3⟩:=ih (x.aK w);refine⟨h1,h2,?_⟩;show ((x.aK w).aM l).o.aD.length=_;rw[h3];show (x.o.aD++[_]).length+l.length=_;simp;omega
def RX.aC (j:Nat)(x:RX):Prop:=x.o.aD.length<=j/\x.o.aA.length<=j
theorem RX.aC.aA {j j':Nat}{x:RX}(h:x.aC j)(hj:j<=j'):x.aC j':=⟨UH h.1 hj,UH h.2 hj⟩
theorem RX.aC.aC {j:Nat}{x:RX}(h:x.aC j)(m:fE):(x.aK m).aC (j+1):=⟨by show (x.o.aD++[_]).length<=_;simp;exact h.1,by have:=h.2;show x.o.aA.length<=_;omega⟩
theorem RX.aC.aD {j:Nat}{x:RX}(h:x.aC j)(c:fZ):(x.aX c).aC (j+1):=⟨by have:=h.1;show x.o.aD.length<=_;omega,by show (x.o.aA++[_]).length<=_;simp;exact h.2⟩
theorem RX.aC.aE {j:Nat}{x:RX}(h:x.aC j)(kind:Int)(data:List Int):(x.aF kind data).aC (j+1):=by unfold RX.aC;rw[FZ];exact⟨by have:=h.1;show x.o.aD.length<=_;omega,by show (x.o.aA++[_]).length<=_;simp;exact h.2⟩
theorem RX.aC.aF {j:Nat}{x:RX}(h:x.aC j){l:List fR}(hl:l.length<=21):(x.aO l).aC (j+21):=by obtain⟨-,h2,h3⟩:=pG l x;exact⟨by have:=h.1;omega,by have:=h.2;rw[h2];omega⟩
theorem RX.aC.aH {j:Nat}{x:RX}(h:x.aC j){l:List fE}(hl:l.length<=21):(x.aM l).aC (j+21):=by obtain⟨-,h2,h3⟩:=CG l x;exact⟨by have:=h.1;omega,by have:=h.2;rw[h2];omega⟩
def eZ.bw (x:eZ):eZ:=({x with aG:=2,aX:=x.id,aO:=0,aI:=[],aC:=[]}:eZ).bx [] x.aM
theorem NT (x:RX):x.aN=(((({x with r:=x.r.bw}:RX).aF 0 []).on).aH):=rfl
theorem eZ.aD.aV {k:Nat}{x:eZ}(h:x.aD k)(hk:k<=2^28):x.bw.aD k:=by
 have hb:=h.aD;have hl:=h.aG;have e:0<=x.aA.aA.aC:=by unfold fu.aC;omega
 have h0:({x with aG:=2,aX:=x.id,aO:=0,aI:=[],aC:=[]}:eZ).aD k:=by obtain⟨g1,g2,g3,g4,g5,g6,g7,g8,g9,I,g11,E,g13,g14,u⟩:=h;exact⟨g1,g2,g3,g4,g5,g6,g7,g8,g9,I,⟨UL _,by show (0:Int)<=1;omega⟩,E,by simp,⟨by simp,by simp⟩,u⟩
 exact h0.bA (by simp) ⟨e,by show x.aA.aA.aC<_;omega⟩
theorem eZ.aD.bz {k:Nat}{x:RX}(h:x.r.aD k)(hk:k<=2^28):x.aN.r.aD (k+1):=by have h1:=h.aV hk;have h2:(({x with r:=x.r.bw}:RX).aF 0 []).r.aD (k+1):=eZ.aD.aT (x:={x with r:=x.r.bw}) (kind:=0) (data:=[]) h1 hk ⟨λ_ h=>by simp at h,by simp⟩ ⟨by omega,by omega⟩;rw[NT];show ((({x with r:=x.r.bw}:RX).aF 0 []).on).r.aV.aD (k+1);refine eZ.aD.aQ ?_;show ((({x with r:=x.r.bw}:RX).aF 0 []).aO _).r.aD (k+1);rw[(pG _ _).1];exact h2
theorem RX.aC.aG {k j:Nat}{x:RX}(h:x.r.aD k)(hk:k<=2^28)(hj:x.aC j):x.aN.aC (j+22):=by have h1:=h.aV hk;have h2:(({x with r:=x.r.bw}:RX).aF 0 []).r.aD (k+1):=eZ.aD.aT (x:={x with r:=x.r.bw}) (kind:=0) (data:=[]) h1 hk ⟨λ_ h=>by simp at h,by simp⟩ ⟨by omega,by omega⟩;have h3:(({x with r:=x.r.bw}:RX).aF 0 []).aC (j+1):=RX.aC.aE (x:={x with r:=x.r.bw}) hj 0 [];have h4:=h3.aF h2.aE.1;have e:x.aN.o=((({x with r:=x.r.bw}:RX).aF 0 []).aO (({x with r:=x.r.bw}:RX).aF 0 []).r.aC).o:=rfl;unfold RX.aC at h4 ⊢;rw[e];exact⟨UH h4.1 (by omega),UH h4.2 (by omega)⟩
theorem xE {w:fR}{F:Nat->Prop}{h:eW}{a:List AV}(hh:fm F h w.c a):a=w.aA:=by simp only[fR.c,fm,Rd]at hh;obtain⟨_,_,rfl,rfl,_,_,rfl,rfl,_,_,rfl,rfl,_,_,rfl,rfl,rfl⟩:=hh;rfl
def o8 (P:Program)(f:FuncId):Prop:=fP P f=true/\∀(G:Nat->Prop)(h:eW)(r:Nat)(x:eZ)(gg ff:AV)(g:FuncId)(fs cs:List AV)(J:Nat->eW->Prop),h[r]?=some (some (.aA 21 [x.aJ gg ff] false))->fP P g=true->x.aC.length<=2^20->J 0 h->
 (∀k h',J k h'->Rd G h' (nD x.aC) ff)->(∀k (hk:k<x.aC.length) h' H,J k h'->eV eY h' H->fC P g (fs++[.aF (x.aC[k]).aA]++cs) H λ_ h''=>J (k+1) h'')->
 fC P f [.aC r 21 0 0,.aL g fs cs] h λ_ h'=>J x.aC.length h'
theorem LG {P:Program}{f:FuncId}(hf:Is P f AT):o8 P f:=by
 refine⟨hf.2,λG h r x gg ff g fs cs J hr hg hl M hJ hB=>fU hf ?_⟩;have rr:=hr;simp only[eZ.aJ]at rr;have lf:ik ff=some (.aA .i64 x.aC.length):=by have:=(hJ 0 h M).aC;simpa [nD] using this
 simp only[AT,go_sem,rr,lf];obtain⟨I,hI⟩:∃I:Nat->fV->eW->Prop,∀m L h',I m L h'↔∃i:Nat,lk 1 L=.aL g fs cs/\lk 9 L=ff/\lk 10 L=.aA .i64 x.aC.length/\lk 11 L=.aA .i64 i/\J i h'/\i<=x.aC.length/\m=x.aC.length-i:=⟨_,λ_ _ _=>VW⟩;refine iM I x.aC.length ((hI _ _ _).2 ⟨0,by simp[fj,h_],by simp[fj],by simp[fj],by simp[fj],M,by omega,by omega⟩) ?_;intro m L h' hh;obtain⟨i,k1,k9,E,e,u,hi,rfl⟩:=(hI _ _ _).1 hh;simp only[ER,go_sem,E,e];refine iw (λci=>?_) (λci=>?_)
 ·simp at ci;have ci:i<x.aC.length:=by omega
  have ew:IntKind.i64.wrap ((i:Int)+1)=((i+1:Nat):Int):=by rw[gi (by omega)];omega
  obtain⟨p,c,i1,i2,i3⟩:=Rd.aE (hJ i h' u) .i64 (i:=(i:Int)) (d:=x.aC[i].c) (by omega) (by rw[show ((i:Int)).toNat=i by omega,U_,Ur ci];rfl);obtain rfl:=xE i3;have ld:ir h' true 4 p=some (.aF x.aC[i].aA):=by rw[ju i2];rfl
  have hc:=hB i ci h';generalize x.aC[i]=w at *;simp only[fR.aA]at ld hc;simp only[go_sem,k1,k9,e,i1,ld];refine fA ⟨hg,hc _ u (eV.b1 _)⟩ ?_;intro _ h2 j2;simp only[go_sem,e,ew];exact⟨_,by omega,(hI _ _ _).2 ⟨i+1,by simp[fj,k1],by simp[fj,k9],by simp[fj,E],by simp[fj],j2,by omega,rfl⟩⟩
 ·simp at ci;have:i=x.aC.length:=by omega
  subst this;simp only[go_sem];exact u
theorem LH (x:RX)(l:List fR)(w:fR):x.aO (l++[w])=(x.aO l).to w:=by unfold RX.aO;rw[List.foldl_append];rfl
theorem xb {P:Program}{fe ft:FuncId}(he:o8 P fe)(ht:p8 P ft){L:Nat->Nat}{h:eW}{r o:Nat}{x:RX}{k j:Nat}(hx:g_ L h r o x)(hf:x.r.aD k)(hk:k<=2^28)(hj:x.aC j)(hj2:j<=2^20):
  fC P fe [.aC r 21 0 0,.aL ft [.aF [.aC r 21 0 0,.aC o 5 0 0]] []] h λ_ h'=>fy wO eY L h r o x.on h':=by
 have E:=hf.bx hk;have hl:=hf.aE.1;have hp:=hf.aE.2;obtain⟨g,f,ra⟩:=hx.r;have row:=ra.aA;have fl:=eX.lt _ _ ra.fo;have jm:=hj.1;clear hf hj;obtain⟨J,hJ⟩:∃J:Nat->eW->Prop,∀k h',J k h'↔fy wO eY L h r o (x.aO (x.r.aC.take k)) h':=⟨_,λ_ _=>VW⟩;have J0:J 0 h:=(hJ 0 h).2 hx.to;have J1:∀k h',J k h'->Rd (λm=>L m=2/\m<h.length) h' (nD x.r.aC) f:=by
  intro k h' hh;obtain⟨L1,x1,l1,e1⟩:=(hJ k h').1 hh;refine Rd.aD (λ_ y=>y) ?_ _ _ (eX.rd _ (λ_ y=>y) _ fl);intro m hm y hy;refine (e1.2 m hm.2 ?_).trans hy;rintro (z | z);·rw[hm.1]at z;unfold wO at z;omega
  ·exact z
 have J2:∀k (hk:k<x.r.aC.length) h' H,J k h'->eV eY h' H->fC P ft ([.aF [.aC r 21 0 0,.aC o 5 0 0]]++[.aF (x.r.aC[k]).aA]++[]) H λ_ u=>J (k+1) u:=by
  intro k hk h' H hh hX;have T:=(hJ k h').1 hh;have e:=pG (x.r.aC.take k) x;have ek:x.r.aC.take (k+1)=x.r.aC.take k++[x.r.aC[k]]:=U3 hk;have eJ:∀u,J (k+1) u↔fy wO eY L h r o ((x.aO (x.r.aC.take k)).to x.r.aC[k]) u:=λu=>by rw[hJ,ek,LH]
  have tl:=Ww k x.r.aC;have wp:=(hp _ (UT hk)).aA;generalize x.r.aC[k]=w at *;generalize x.aO (x.r.aC.take k)=y at *;have ey:y.r.aA=x.r.aA:=by rw[e.1]
  have em:=e.2.2;refine fC.aA (fy.aK (T.up hX) (λ_ _ z=>z) λL1 x1=>ht.2 L1 H r o y w x1 wp (by rw[ey];exact E) ?_) λv u b=>(eJ u).2 b;have:y.o.aD.length+1<=2^21:=by omega
  exact UH (Vi 168 this) (by decide)
 have:=he.2 (λm=>L m=2/\m<h.length) h r x.r g f ft [.aF [.aC r 21 0 0,.aC o 5 0 0]] [] J row ht.1 (by omega) J0 J1 J2;refine this.aA λv h' z=>?_;have z:=(hJ _ _).1 z;rw[U7]at z;exact z
def nE (p:fR->Bool):List fR->Nat->Int
 | [],_=>-1
 | w :: l,k=>if p w then k else nE p l (k+1)
theorem BN {p:fR->Bool}:∀{l:List fR}{k:Nat},l.findIdx? p=none->nE p l k=-1
 | [],_,_=>rfl
 | w :: l,k,h=>by
  rw[List.findIdx?_cons]at h;by_cases c:p w=true;·simp[c]at h
  ·rw[nE,Uw c];simp only[c,UQ,Vd,Option.map_eq_none_iff]at h;exact BN h
theorem BO {p:fR->Bool}:∀{l:List fR}{k i:Nat},l.findIdx? p=some i->nE p l k=((k+i:Nat):Int)/\i<l.length
 | [],_,_,h=>by simp at h
 | w :: l,k,i,h=>by
  rw[List.findIdx?_cons]at h;by_cases c:p w=true;·simp[c]at h;subst h;rw[nE,Uv c];simp
  ·simp only[c,UQ,Vd,UN]at h;obtain⟨j,hj,rfl⟩:=h;rw[nE,Uw c];obtain⟨a,b⟩:=BO (k:=k+1) hj;exact⟨by rw[a];congr 1;omega,by simp;omega⟩
def vV (P:Program)(f:FuncId):Prop:=fP P f=true/\∀(F:Nat->Prop)(h:eW)(l:List fR)(a:AV)(g:FuncId)(fs cs:List AV)(p:fR->Bool),Rd F h (nD l) a->l.length<=2^40->fP P g=true->
 (∀w∈l,fC P g (fs++[.aF w.aA]++cs) h λr h'=>r=.aE (p w)/\h'=h)->fC P f [a,.aL g fs cs] h λr h'=>r=.aA .i64 (nE p l 0)/\h'=h
theorem M4 {P:Program}{f:FuncId}(hf:Is P f Bx):vV P f:=by
 refine⟨hf.2,λF h l a g fs cs p ha hl hi hg=>fU hf ?_⟩;have la:ik a=some (.aA .i64 l.length):=by have:=ha.aC;simpa [nD] using this
 simp only[Bx,go_sem,la];obtain⟨I,hI⟩:∃I:Nat->fV->eW->Prop,∀m L h',I m L h'↔∃i:Nat,lk 0 L=a/\lk 1 L=.aL g fs cs/\lk 7 L=.aA .i64 l.length/\lk 8 L=.aA .i64 i/\h'=h/\i<=l.length/\m=l.length-i/\nE p (l.drop i) i=nE p l 0:=⟨_,λ_ _ _=>VW⟩;refine iM I l.length ((hI _ _ _).2 ⟨0,by simp[fj,h_],by simp[fj,h_],by simp[fj],by simp[fj],rfl,by omega,by omega,by simp⟩) ?_;intro m L h' hh;obtain⟨i,k0,k1,k7,k8,rfl,hi2,rfl,hq⟩:=(hI _ _ _).1 hh;simp only[E4,go_sem,k7,k8];refine iw (λci=>?_) (λci=>?_)
 ·simp at ci;have ew:IntKind.i64.wrap ((i:Int)+1)=((i+1:Nat):Int):=by rw[gi (by omega)];omega
  obtain⟨q,c,i1,i2,i3⟩:=Rd.aE ha .i64 (i:=(i:Int)) (d:=l[i].c) (by omega) (by rw[show ((i:Int)).toNat=i by omega,U_,Ur ci];rfl);obtain rfl:=xE i3;have ld:ir h' true 4 q=some (.aF l[i].aA):=by rw[ju i2];rfl
  have hc:=hg _ (UT ci);rw[VT ci,nE]at hq;generalize l[i]=w at *;simp only[fR.aA]at ld hc;simp only[go_sem,k0,k1,k8,i1,ld];refine fA ⟨hi,hc⟩ ?_;rintro _ _ ⟨rfl,rfl⟩;cases e:p w;·rw[e]at hq;simp only[go_sem,k8,ew];exact⟨_,by omega,(hI _ _ _).2 ⟨i+1,by simp[fj,k0],by simp[fj,k1],by simp[fj,k7],by simp[fj],rfl,by omega,rfl,by simpa using hq⟩⟩
  ·rw[e]at hq;simp only[go_sem];rw[<-hq];rfl
 ·simp at ci;obtain rfl:i=l.length:=by omega
  rw[WJ]at hq;simp only[go_sem];rw[<-hq];rfl
theorem Oi {P:Program}{f:FuncId}(hf:Is P f wS){h:eW}{q:AV}{n:Int}(hq:ir h false 1 q=some (.aA .i64 n))(e:∀b,ir (h++[b]) false 1 q=some (.aA .i64 n))(w:fR):
  fC P f [.aF w.aA,q] h λr h'=>r=.aE (decide (w.aD=n))/\h'=h:=by
 refine jN (rX _ _) (fU hf ?_);simp only[wS,fR.aA,go_sem,e];exact eV.b1 _
def yp (P:Program)(f:FuncId):Prop:=
 fP P f=true/\∀(h:eW)(node last:Int),0<=last/\last<2^41->fC P f [.aA .i64 node,.aA .i64 last] h λr h'=>r=.aF (fR.mk node (last+1) 0 0).aA/\h'=h
theorem L9 {P:Program}{f:FuncId}(hf:Is P f zl):yp P f:=by refine⟨hf.2,λh node last hl=>jN (HN _ _) (fU hf ?_)⟩;have e1:IntKind.i64.wrap (last+1)=last+1:=gi (by omega);simp only[zl,go_sem,e1];exact⟨rfl,eV.b1 _⟩
theorem L6 {was:List fR}{node last:Int}:(nE (λw=>decide (w.aD=node)) was 0=-1/\lK was node last=⟨node,last+1,0,0⟩) \/
  ∃(i:Nat)(hi:i<was.length),nE (λw=>decide (w.aD=node)) was 0=i/\lK was node last=was[i]:=by
 cases hf:was.findIdx? λw=>decide (w.aD=node) with
 | none=>
  refine .inl ⟨BN hf,?_⟩;unfold lK;rw[List.findIdx?_eq_none_iff]at hf;have:was.find? (λw=>decide (w.aD=node))=none:=List.find?_eq_none.2 λw hw=>by simpa using hf w hw
  rw[this];rfl
 | some i=>
  obtain⟨a,hi⟩:=BO (k:=0) hf;refine .inr ⟨i,hi,by rw[a];simp,?_⟩;rw[List.findIdx?_eq_some_iff_getElem]at hf;obtain⟨h1,h2,h3⟩:=hf;unfold lK;have:was.find? (λw=>decide (w.aD=node))=some was[i]:=by rw[List.find?_eq_some_iff_getElem];exact⟨h2,i,h1,rfl,λj hj=>by simpa using h3 j hj⟩
  rw[this];rfl
theorem kJ.aC {lo:Nat}{h:eW}{a:AV}{l:List fR}(ho:kJ lo h 4 a (l.map fR.aA)):eX (nD l) (λm=>lo<=m) h a/\gP h a:=by
 have e:∀(F:Nat->Prop)(l:List fR),fG (l.map fR.c) F h (l.map fR.aA):=by
  intro F l;induction l with
  | nil=>simp only[Vl,fG]
  | cons w l ih=>simp only[U5,fG,fR.c,fR.aA,fI,eX];exact⟨_,_,rfl,⟨_,_,rfl,rfl,_,_,rfl,rfl,_,_,rfl,rfl,_,_,rfl,rfl,rfl⟩,ih⟩
 rcases ho with⟨rfl,h0⟩ | ⟨n,off,cap,row,g,rfl,h1,h2,h3,h4,h5,h6,h7⟩
 ·have:l=[]:=by simpa using h0
  subst this;exact⟨eX.aD 4,UF⟩
 ·have hl:(l.map fR.aA).length=(l.map fR.c).length:=by simp
  refine⟨?_,⟨row,g,h2,h5,h6⟩⟩;simp only[nD,eX];rw[hl]at h3 h4 h7 ⊢;exact .inr (.inr ⟨n,off,cap,row,g,rfl,h1,h2,h3,h4,by rw[h7];exact e _ l⟩)
theorem kJ.aE {lo:Nat}{h h':eW}{sz:Nat}{a:AV}{es:List (List AV)}(ho:kJ lo h sz a es)(hx:eV eY h h'):kJ lo h' sz a es:=by
 rcases ho with ho | ⟨n,off,cap,row,g,h1,h2,h3,h4⟩;·exact .inl ho
 ·exact .inr ⟨n,off,cap,row,g,h1,h2,hx.aA h3,h4⟩
theorem g_.aH {W Q L h h1 r o R R' out}{g f fv:AV}(hx:g_ L h r o ⟨R,out⟩)(X:eV eY h h1) (row:h1[r]?=some (some (.aA 21 [R.aJ g f] false))) (e1:R'.aI=R.aI) (hW:W 6) (hg:∃f,nQ L h r R g f)
  (ho:eX (nD R'.aC) (λm=>h.length<=m) h1 fv) (hc:gP h1 fv):fy W Q L h r o ⟨R',out⟩ (h1.set r (some (.aA 21 [R'.aJ g fv] false))):=by
 obtain⟨-,⟨ma,ca,aa,oa⟩,lt⟩:=hx;obtain⟨f0,ra⟩:=hg;have lr:=(Up.1 ra.aA).1;have u:=(Up.1 row).1;have hl:=X.1;have ge:∀n,h.length<=n->L n=0:=λn hn=>UC λz=>by have:=lt n z;omega
 have ne:∀m,m≠r->(h1.set r (some (.aA 21 [R'.aJ g fv] false)))[m]?=h1[m]?:=λm hm=>Uq (λe=>hm e.symm);have st:∀m,m<h.length->m≠r->(h1.set r (some (.aA 21 [R'.aJ g fv] false)))[m]?=h[m]?:=λm hm hr=>(ne m hr).trans (X.2 m hm (λy=>y));have old:∀{m},m<h.length->k_ L eY h.length h1.length 2 m=L m:=fun {m} hm=>lW (.inr ⟨λy=>y,hm⟩);have nr:∀m,L m≠6->m≠r:=λm hm e=>hm (e▸ra.lr);refine⟨k_ L eY h.length h1.length 2,⟨⟨g,fv,Ux u,?_,?_,?_,?_,(old lr).trans ra.lr⟩,⟨ma,ca,aa,oa.aC (λm hm _=>old hm) λm hm c=>st m hm (nr m (by omega))⟩,λm hm=>by rw[UA];exact tP (λz=>by have:=lt m z;omega) hm⟩,λm hm _=>old hm,?_⟩;·rw[e1];exact eX.aC _ (λm hm=>(old hm.2).trans hm.1) (λm hm y hy=>(st m hm.2 (nr m (by omega))).trans hy) _ (eX.lt _ _ ra.go)
 ·exact ra.gc.aA (eX.lt _ _ ra.go) (λm hm y hy=>(st m hm.2 (nr m (by omega))).trans hy)
 ·exact eX.aC _ (λm hm=>tQ (ge m hm.1) hm.2 (.inr hm.1)) (λm hm y hy=>(ne m (by omega)).trans hy) _ (eX.lt _ _ ho)
 ·exact hc.aA ho (λm hm y hy=>(ne m (by omega)).trans hy)
 ·exact (X.aD (eV.aI (F:=λm=>m=r) _ (λ_=>rfl)) (F'':=λm=>W (L m)\/Q m) (λ_ _ y=>y.elim) (λm _ y=>.inl (by rw[y,ra.lr];exact hW)))
def wm (P:Program)(f:FuncId):Prop:=fP P f=true/\∀(L:Nat->Nat)(h:eW)(r o:Nat)(x:RX)(k:Nat)(last:Int),g_ L h r o x->x.r.aD k->k<=2^28->0<=last/\last<2^41->
 fC P f [.aC r 21 0 0,.aA .i64 last] h λ_ h'=>fy wA eY L h r o ⟨x.r.bx x.r.aC last,x.o⟩ h'
theorem Re {P:Program}{f f1 f2 f3 f4 f5:FuncId}(hf:Is P f (AY f1 f2 f3 f4 f5))(h1:pZ P f1)(h2:ot P f2 fq.aL)(h3:yp P f3)(h4:Is P f4 wS)(h5:vV P f5):wm P f:=by
 refine⟨hf.2,λL h r o x k last hx hfit hk hlast=>fU hf ?_⟩;obtain⟨R,out⟩:=x;simp only at hfit;have lt:=hx.lt;obtain⟨g,ff,ra⟩:=id hx.r;have nowc:=h1.2 h r R hx.aA (hfit.aK hk);have hnow:=hfit.aP;have hfl:=hfit.aE.1;have rr:=ra.aA;have lr:=(Up.1 rr).1;have rdf:=eX.rd _ (F':=λm=>L m=2/\m<h.length) (λ_ y=>y) _ (eX.lt _ _ ra.fo);have eR:∀l:List Int,(({R with aC:=(l.filter λn=>!decide (n=R.id)).map λn=>lK R.aC n last}:eZ))={R with aC:=(l.filter λn=>!decide (n=R.id)).map λn=>lK R.aC n last}:=λ_=>rfl;have em:(R.bx R.aC last)={R with aC:=(R.aN.aL.filter λn=>!decide (n=R.id)).map λn=>lK R.aC n last}:=rfl;simp only[em];have mlen:=Cd hnow;simp only[AY,go_sem];refine gh h1.1 nowc ?_;simp only[go_sem];refine fA ⟨h2.1,h2.2 eY h R.aN _ (tO eY h R.aN) ((mI hnow).le (by decide))⟩ ?_;rintro w H ⟨ow,hX⟩;have lw:ik w=some (.aA .i64 R.aN.aL.length):=(eX.rd _ (F':=λ_=>True) (λ_ _=>UF) _ ow).aF;generalize R.aN.aL=ms at *;simp only[go_sem,lw];obtain⟨Fl,hFl⟩:∃Fl:Int->fR,Fl=λn=>lK R.aC n last:=⟨_,rfl⟩;obtain⟨I,hI⟩:∃I:Nat->fV->eW->Prop,∀m L' h',I m L' h'↔∃(i:Nat)(a:AV),lk 0 L'=.aC r 21 0 0/\lk 1 L'=.aA .i64 last/\lk 4 L'=a/\lk 11 L'=w/\lk 12 L'=.aA .i64 ms.length/\lk 13 L'=.aA .i64 i /\
   kJ H.length h' 4 a ((((ms.take i).filter λn=>!decide (n=R.id)).map Fl).map fR.aA)/\eV eY H h'/\i<=ms.length/\m=ms.length-i:=⟨_,λ_ _ _=>VW⟩
 refine iM I ms.length ((hI _ _ _).2 ⟨0,.aD,by simp[fj,h_],by simp[fj,h_],by simp[fj],by simp[fj],by simp[fj],by simp[fj],.inl ⟨rfl,by simp⟩,eV.aC _ _,by omega,by omega⟩) ?_;intro m L' h' hh;obtain⟨i,a,k0,k1,k4,k11,k12,k13,oo,X2,hi,rfl⟩:=(hI _ _ _).1 hh;simp only[ES,go_sem,k12,k13];have X3:=hX.tr X2;have row3:=X3.aA rr;simp only[eZ.aJ]at row3;refine iw (λci=>?_) (λci=>?_)
 ·simp at ci;have ci:i<ms.length:=by omega
  obtain⟨p,hp,hv'⟩:=(eX.rd _ (F':=λ_=>True) (λ_ _=>UF) _ (eX.aC _ (λ_ x=>x) (λm hm y hy=>by rw[X2.2 m hm.2 (by simp[eY])];exact hy) _ (eX.lt _ _ ow))).aG (i:=i) ci;have ew:IntKind.i64.wrap ((i:Int)+1)=((i+1:Nat):Int):=by rw[gi (by omega)];omega
  have tk:ms.take (i+1)=ms.take i++[ms[i]]:=U3 ci;simp only[go_sem,k0,k11,k13,hp,hv'];have row4:∀b,(h'++[b])[r]?=_:=λb=>(eV.b1 b).aA row3;have row5:∀b c,(h'++[b]++[c])[r]?=_:=λb c=>(eV.b2 b c).aA row3;generalize ms[i]=n at *;by_cases c0:n=R.id;·simp only[go_sem,k0,k4,k13,row4,Uu c0,ew];refine⟨_,by omega,(hI _ _ _).2 ⟨i+1,a,by simp[fj,k0],by simp[fj,k1],by simp[fj,k4],by simp[fj,k11],by simp[fj,k12],by simp[fj],?_,X2.tr (eV.b1 _),ci,rfl⟩⟩;rw[tk,WA];simpa [c0] using oo.aE (eV.b1 (some (e_.aA 1 [[.aA .i64 n]] false)))
  ·simp only[go_sem,k1,row4,Us c0];refine gh h3.1 (h3.2 _ n last hlast) ?_;simp only[go_sem,fR.aA,row5,k0];have B6:∀b,(h'++[some (e_.aA 1 [[.aA .i64 n]] false)]++[b])[h'.length]?=some (some (e_.aA 1 [[.aA .i64 n]] false)):=λb=>jJ _ _ _;have B6':∀b c,(h'++[some (e_.aA 1 [[.aA .i64 n]] false)]++[b]++[c])[h'.length]?=some (some (e_.aA 1 [[.aA .i64 n]] false)):=λb c=>oJ _ _ _ _;have rd5:∀b c,Rd (λm=>L m=2/\m<h.length) (h'++[b]++[c]) (nD R.aC) ff:=λb c=>Rd.aD (λ_ y=>y) (λm hm y hy=>(X3.tr (eV.b2 b c)).aA hy) _ _ rdf;refine gh h5.1 (h5.2 _ _ R.aC ff f4 [] [.aC h'.length 1 0 0] (λw=>decide (w.aD=n)) (rd5 _ _) (by omega) h4.2 (λw _=>Oi h4 (by simp only[go_sem,B6]) (λb=>by simp only[go_sem,B6']) w)) ?_;have eFl:Fl n=lK R.aC n last:=by rw[hFl]
   have lft:(((ms.take i).filter λn=>!decide (n=R.id)).map Fl).length<=21:=by have:=VB (λn=>!decide (n=R.id)) (ms.take i);have:=Ww i ms;simp only[UI];omega
   have fin:∀(w:fR)(h3:eW),eV eY h' h3->lK R.aC n last=w->∃a2 h4,ij (h3++[some (.aA 4 [w.aA] false)]) 4 32 a [w.aA]=some (a2,h4)/\kJ H.length h4 4 a2 ((((ms.take (i+1)).filter λn=>!decide (n=R.id)).map Fl).map fR.aA)/\eV eY H h4:=by intro w h3 hx3 ew2;obtain⟨o2,h4,s1,s2,s3⟩:=DW (bytes:=32) (h:=h3++[some (.aA 4 [w.aA] false)]) (ys:=[w.aA]) oo (hx3.tr (eV.b1 _)) X2.1 (by simp only[UI]at lft ⊢;simp only[UG,UJ];omega);refine⟨o2,h4,s1,?_,((X2.tr hx3).tr (eV.b1 _)).aJ s3 (λm hm hm'=>by omega)⟩;rw[tk,WA,Ve,Ve];simpa [c0,eFl,ew2] using s2
   rcases L6 (was:=R.aC) (node:=n) (last:=last) with⟨e1,e2⟩ | ⟨j,hj,e1,e2⟩
   ·rw[e1];have z0:¬(0:Int)<=-1:=by omega
    obtain⟨a2,h4,s1,s2,s3⟩:=fin _ (h'++[some (e_.aA 1 [[.aA .i64 n]] false)]++[some (e_.aA 4 [[.aA .i64 n,.aA .i64 (last+1),.aA .i64 0,.aA .i64 0]] false)]) (eV.b2 _ _) e2;rw[<-iq (lR _ 4 [_] false (some 1) (len:=1) rfl)]at s1;simp only[fR.aA,Ut,UG,UJ]at s1;simp only[go_sem,k4,k13,Us z0,Ut,UG,UJ,s1,ew];exact⟨_,by omega,(hI _ _ _).2 ⟨i+1,a2,by simp[fj,k0],by simp[fj,k1],by simp[fj],by simp[fj,k11],by simp[fj,k12],by simp[fj],s2,s3,ci,rfl⟩⟩
   ·rw[e1];have z0:(0:Int)<=j:=by omega
    obtain⟨q,c,i1,i2,i3⟩:=Rd.aE (rd5 (some (e_.aA 1 [[.aA .i64 n]] false)) (some (e_.aA 4 [[.aA .i64 n,.aA .i64 (last+1),.aA .i64 0,.aA .i64 0]] false))) .i64 (i:=(j:Int)) (d:=R.aC[j].c) (by omega) (by rw[show ((j:Int)).toNat=j by omega,U_,Ur hj];rfl);obtain rfl:=xE i3;have ld:ir (h'++[some (e_.aA 1 [[.aA .i64 n]] false)]++[some (e_.aA 4 [[.aA .i64 n,.aA .i64 (last+1),.aA .i64 0,.aA .i64 0]] false)]) true 4 q=some (.aF R.aC[j].aA):=by rw[ju i2];rfl
    generalize R.aC[j]=w at *;obtain⟨a2,h4,s1,s2,s3⟩:=fin w (h'++[some (e_.aA 1 [[.aA .i64 n]] false)]++[some (e_.aA 4 [w.aA] false)]) (eV.b2 _ _) e2;rw[<-iq (lR _ 4 [_] false (some 1) (len:=1) rfl)]at s1;simp only[fR.aA,Ut,UG,UJ,reduceAdd]at s1 ld;simp only[go_sem,k0,k4,k13,Uu z0,row5,i1,ld,Ut,UG,UJ,s1,ew];exact⟨_,by omega,(hI _ _ _).2 ⟨i+1,a2,by simp[fj,k0],by simp[fj,k1],by simp[fj],by simp[fj,k11],by simp[fj,k12],by simp[fj],s2,s3,ci,rfl⟩⟩
 ·simp at ci;obtain rfl:i=ms.length:=by omega
  rw[U7]at oo;obtain⟨of,cf⟩:=oo.aC;have lr3:=(Up.1 row3).1;simp only[go_sem,k0,k4,row3,of.aA,gC of.aA];subst hFl;have ff2:(R.aJ g a)=[.aA .i64 R.id,.aA .i64 R.aA.aE,.aA .i64 R.aA.aC,.aA .i64 R.aA.aF,.aA .i64 R.aA.aA.aA,.aA .i64 R.aA.aA.aD,ki R.aA.aA.es,gG R.aA.aD.aA,gG R.aA.aD.aC,gG R.aA.aD.aD,i9 R.aA.aG,
   .aA .i64 R.aE,.aA .i64 R.aH,.aA .i64 R.aG,.aA .i64 R.aX,.aA .i64 R.aK,.aA .i64 R.aY,g,a,.aA .i64 R.aL,.aA .i64 R.aO]:=rfl
  have hl:=hX.1;exact g_.aH (R':={R with aC:=(ms.filter λn=>!decide (n=R.id)).map λn=>lK R.aC n last}) hx X3 row3 rfl (by unfold wA;omega) ⟨ff,ra⟩ (eX.aC _ (λm hm=>by omega) (λ_ _ _ y=>y) _ of) cf
theorem Mb (dep:Nat->Nat->Bool)(lo i:Nat)(l:List (Nat×Nat×e_))(h:eW):
  mF dep lo 4 i l h=(((((l.any λx=>dep i x.1 && x.2.1 == lo) || mY h[lo]?) && ((l.any λx=>dep i x.1 && x.2.1 == lo+1) || mY h[lo+1]?)) && ((l.any λx=>dep i x.1 && x.2.1 == lo+1+1) || mY h[lo+1+1]?)) && ((l.any λx=>dep i x.1 && x.2.1 == lo+1+1+1) || mY h[lo+1+1+1]?)):=by
 simp[mF,List.range_succ,Bool.and_assoc,V5]
attribute [go_sem] Mb
theorem uG {h j:eW}(i:Nat):(h++j)[h.length+i]?=j[i]?:=by rw[U1 (by omega)];congr 1;omega
structure qY (lo n2 n3:Nat)(h:eW)(l2 l3:List Int):Prop where
 ex:∃(a b:AV)(A B:Nat->Prop),h[n2]?=some (some (.aA 1 [[a]] false))/\h[n3]?=some (some (.aA 1 [[b]] false))/\(∀m,A m->lo<=m/\m≠n2/\m≠n3/\¬B m)/\(∀m,B m->lo<=m/\m≠n2/\m≠n3) /\
  eX (fM l2) A h a/\gP h a/\eX (fM l3) B h b/\gP h b
 lt:n2<h.length/\n3<h.length/\lo<=n2/\lo<=n3/\n2≠n3
theorem Sh {P:Program}{f:FuncId}(hf:Is P f wU){lo n2 n3:Nat}{h:eW}{l2 l3:List Int}(hh:qY lo n2 n3 h l2 l3)(hl:l2.length<=2^20/\l3.length<=2^20)(w:fR):
  fC P f [.aF w.aA,.aC n2 1 0 0,.aC n3 1 0 0] h λ_ h'=>qY lo n2 n3 h' (l2++[w.aD]) (l3++[w.aE])/\eV (λm=>lo<=m) h h':=by
 refine fU hf ?_;obtain⟨a,b,A,B,e2,e3,hA,hB,oa,ca,ob,cb⟩:=hh.ex;obtain⟨lt2,lt3,ab,aa,ne⟩:=hh.lt;have E2:∀x,(h++[x])[n2]?=_:=λx=>(eV.b1 x).aA e2;have E3:∀x,(h++[x])[n3]?=_:=λx=>(eV.b1 x).aA e3;have ak:∀x y z,(h++[x]++[y]++[z])[n2]?=_:=λx y z=>(eV.b3 x y z).aA e2;have aj:∀x y z,(h++[x]++[y]++[z])[n3]?=_:=λx y z=>(eV.b3 x y z).aA e3;have N2:∀n,gW (h.length+1) n (.aC n2 1 0 0)=true:=λn=>iu (by omega);have N3:∀n,gW (h.length+1) n (.aC n3 1 0 0)=true:=λn=>iu (by omega);have sa:=oa.aA;have sb:=ob.aA;simp only[wU,fR.aA,go_sem,ak,aj,N2,N3,jK];obtain⟨H4,M⟩:∃H4,H4=h++[some (e_.aA 4 [[.aA .i64 w.aD,.aA .i64 w.aC,.aA .i64 w.aE,.aA .i64 w.aG]] false)]++[some (e_.aA 1 [[.aA .i64 w.aD]] false)]++[none]:=⟨_,rfl⟩;have X4:eV eY h H4:=by rw[M];exact eV.b3 _ _ _
 have l4:H4.length=h.length+3:=by rw[M];simp
 have c0:H4[h.length]?=some (some (e_.aA 4 [[.aA .i64 w.aD,.aA .i64 w.aC,.aA .i64 w.aE,.aA .i64 w.aG]] false)):=by rw[M];exact oJ _ _ _ _
 have c1:H4[h.length+1]?=some (some (e_.aA 1 [[.aA .i64 w.aD]] false)):=by rw[M];exact pF _ _ _ _
 have c2:H4[h.length+1+1]?=some none:=by rw[M];exact rk _ _ _ _
 have a8:eX (fM l2) (λm=>(A m/\m<h.length)\/H4.length<=m) H4 a:=eX.aC _ (λm hm=>.inl hm) (λm hm y hy=>X4.aA hy) _ (eX.lt _ _ oa);have af:gP H4 a:=ca.aA oa (λm hm y hy=>X4.aA hy);obtain⟨a',h',s1,s2,s3,s4⟩:=vj (bytes:=8) (es:=[[.aA .i64 w.aD]]) (ys:=[[.aA .i64 w.aD]]) a8 af (eV.aC _ _) (by simp[fG,fI,eX]) (λm hm=>.inr hm) (by simp;omega);have ae:iK H4 1 (.aG (h.length+1) 1 0 1 (some 1))=some [[.aA .i64 w.aD]]:=by simp[iK,c1,go_sem,reduceIte]
 rw[<-iq ae]at s1;rw[<-M,s1];have kk:∀m,m<H4.length->¬(A m/\m<h.length)->h'[m]?=H4[m]?:=λm hm hn=>s4.2 m hm (λz=>by rcases z with z | z;exact hn z;omega);have K0:=(kk h.length (by omega) (by omega)).trans c0;have K1:=(kk (h.length+1) (by omega) (by omega)).trans c1;have K2:=(kk (h.length+1+1) (by omega) (by omega)).trans c2;have a6:=(kk n2 (by omega) (λz=>(hA n2 z.1).2.1 rfl)).trans (X4.aA e2);have a5:=(kk n3 (by omega) (λz=>(hA n3 z.1).2.2.1 rfl)).trans (X4.aA e3);have l':=s4.1;have q0:(h.length+1+1=h.length)=False:=UO (by omega);have q1:(h.length+1+1=n2)=False:=UO (by omega);have q2:(h.length+1+1=n3)=False:=UO (by omega);have ac:h.length+1+1<h'.length:=by omega
 simp only[go_sem,jK,BP,VJ,K0,K1,K2,a6,a5,q0,q1,q2];obtain⟨H5,U⟩:∃H5,H5=h'.set (h.length+1+1) (some (e_.aA 1 [[.aA .i64 w.aE]] false)):=⟨_,rfl⟩;have l5:H5.length=h'.length:=by rw[U,UA]
 have k5:∀m,m≠h.length+1+1->H5[m]?=h'[m]?:=λm hm=>by rw[U];exact Uq (λe=>hm e.symm)
 have d2:H5[h.length+1+1]?=some (some (e_.aA 1 [[.aA .i64 w.aE]] false)):=by rw[U];exact Ux ac
 have u:gS (λm=>B m/\m<h.length) h H5:=λm hm y hy=>(k5 m (by omega)).trans ((kk m (by omega) (λz=>(hA m z.1).2.2.2 hm.1)).trans (X4.aA hy));have a7:eX (fM l3) (λm=>(B m/\m<h.length)\/H5.length<=m) H5 b:=eX.aC _ (λm hm=>.inl hm) u _ (eX.lt _ _ ob);have ad:gP H5 b:=cb.aA (eX.lt _ _ ob) u;obtain⟨b',h6,t1,t2,t3,t4⟩:=vj (bytes:=8) (es:=[[.aA .i64 w.aE]]) (ys:=[[.aA .i64 w.aE]]) a7 ad (eV.aC _ _) (by simp[fG,fI,eX]) (λm hm=>.inr hm) (by simp;omega);have ag:iK H5 1 (.aG (h.length+1+1) 1 0 1 (some 1))=some [[.aA .i64 w.aE]]:=by simp[iK,d2,go_sem,reduceIte]
 rw[<-iq ag]at t1;rw[<-U,t1];have E:∀m,m<H5.length->¬(B m/\m<h.length)->h6[m]?=H5[m]?:=λm hm hn=>t4.2 m hm (λz=>by rcases z with z | z;exact hn z;omega);have L0:=(E h.length (by omega) (by omega)).trans ((k5 _ (by omega)).trans K0);have L1:=(E (h.length+1) (by omega) (by omega)).trans ((k5 _ (by omega)).trans K1);have L2:=(E (h.length+1+1) (by omega) (by omega)).trans d2;have ai:=(E n2 (by omega) (λz=>(hB n2 z.1).2.1 rfl)).trans ((k5 _ (by omega)).trans a6);have ah:=(E n3 (by omega) (λz=>(hB n3 z.1).2.2 rfl)).trans ((k5 _ (by omega)).trans a5);have l6:=t4.1;have a2:=s2.aA;have a1:=t2.aA;have a9:(n2=n3)=False:=UO ne;have W:(n3=n2)=False:=UO (λe=>ne e.symm);have a4:n2<h6.length:=by omega
 have l63:n3<h6.length:=by omega
 have p0:(n2=h.length+1)=False:=UO (by omega);have p1:(n2=h.length+1+1)=False:=UO (by omega);have p2:(n3=h.length+1)=False:=UO (by omega);have p3:(n3=h.length+1+1)=False:=UO (by omega);simp only[go_sem,jK,BP,VJ,L0,L1,L2,ai,ah,a9,W,a2,a1,gC a2,gC a1,a4,p0,p1,p2,p3,WK,Bool.true_or,Bool.and_true,WO];have k7:∀m,m≠n2->m≠n3->((h6.set n2 (some (e_.aA 1 [[a']] false))).set n3 (some (e_.aA 1 [[b']] false)))[m]?=h6[m]?:=λm z2 z3=>(Uq (λe=>z3 e.symm)).trans (Uq (λe=>z2 e.symm));have e4:fM (l2++[w.aD])=.sl 1 (l2.map (λn=>[D.aA .i64 n])++[[.aA .i64 w.aD]]):=by simp[fM]
 have e5:fM (l3++[w.aE])=.sl 1 (l3.map (λn=>[D.aA .i64 n])++[[.aA .i64 w.aE]]):=by simp[fM]
 have kA:gS (λm=>((A m/\m<h.length)\/H4.length<=m)/\m<h'.length) h' ((h6.set n2 (some (e_.aA 1 [[a']] false))).set n3 (some (e_.aA 1 [[b']] false))):=by
  rintro m ⟨hm,hlt⟩ y hy;have I:m≠n2/\m≠n3/\m≠h.length+1+1/\¬(B m/\m<h.length):=by
   rcases hm with⟨z,z'⟩ | z;·have:=hA m z;exact⟨this.2.1,this.2.2.1,by omega,λq=>this.2.2.2 q.1⟩
   ·exact⟨by omega,by omega,by omega,λq=>by omega⟩
  exact (k7 m I.1 I.2.1).trans ((E m (by omega) I.2.2.2).trans ((k5 m I.2.2.1).trans hy))
 have kB:gS (λm=>((B m/\m<h.length)\/H5.length<=m)/\m<h6.length) h6 ((h6.set n2 (some (e_.aA 1 [[a']] false))).set n3 (some (e_.aA 1 [[b']] false))):=by
  rintro m ⟨hm,hlt⟩ y hy;have I:m≠n2/\m≠n3:=by
   rcases hm with⟨z,z'⟩ | z;·exact (hB m z).2
   ·exact⟨by omega,by omega⟩
  exact (k7 m I.1 I.2).trans hy
 have a3:=eX.lt _ _ s2;have Z:=eX.lt _ _ t2;refine⟨⟨⟨a',b',λm=>((A m/\m<h.length)\/H4.length<=m)/\m<h'.length,λm=>((B m/\m<h.length)\/H5.length<=m)/\m<h6.length,?_,?_,?_,?_,?_,?_,?_,?_⟩,⟨by simp;omega,by simp;omega,ab,aa,ne⟩⟩,?_⟩;·rw[Uq (λe=>ne e.symm),Ux a4]
 ·rw[Ux (by simp;omega)]
 ·rintro m ⟨hm,hlt⟩;rcases hm with⟨z,z'⟩ | z;·have:=hA m z;exact⟨this.1,this.2.1,this.2.2.1,λq=>by rcases q.1 with q | q;exact this.2.2.2 q.1;omega⟩
  ·exact⟨by omega,by omega,by omega,λq=>by rcases q.1 with q | q<;>omega⟩
 ·rintro m ⟨hm,hlt⟩;rcases hm with⟨z,z'⟩ | z;·exact hB m z
  ·exact⟨by omega,by omega,by omega⟩
 ·rw[e4];exact eX.aC _ (λm hm=>hm) kA _ a3
 ·exact s3.aA a3 kA
 ·rw[e5];exact eX.aC _ (λm hm=>hm) kB _ Z
 ·exact t3.aA Z kB
 ·refine⟨by simp;omega,λm hm O=>?_⟩;have nA:¬(A m/\m<h.length):=λz=>O (hA m z.1).1;have nB:¬(B m/\m<h.length):=λz=>O (hB m z.1).1;exact (k7 m (λe=>O (by omega)) (λe=>O (by omega))).trans ((E m (by omega) nB).trans ((k5 m (by omega)).trans ((kk m (by omega) nA).trans (X4.2 m hm (λy=>y)))))
theorem qY.up {lo n2 n3:Nat}{h h':eW}{l2 l3:List Int}(hh:qY lo n2 n3 h l2 l3)(hx:eV eY h h'):qY lo n2 n3 h' l2 l3:=by obtain⟨⟨a,b,A,B,e2,e3,hA,hB,oa,ca,ob,cb⟩,lt2,lt3,u,e,ne⟩:=hh;have kA:∀F,gS F h h':=λF m hm y hy=>hx.aA hy;exact⟨⟨a,b,A,B,hx.aA e2,hx.aA e3,hA,hB,eX.aC _ (λ_ y=>y) (kA _) _ oa,ca.aA oa (kA _),eX.aC _ (λ_ y=>y) (kA _) _ ob,cb.aA ob (kA _)⟩,by have:=hx.1;omega,by have:=hx.1;omega,u,e,ne⟩
def uw (P:Program)(f:FuncId):Prop:=fP P f=true/\∀(L:Nat->Nat)(h:eW)(r o:Nat)(x:RX)(k:Nat),g_ L h r o x->x.r.aD k->k<=2^28->
 fC P f [.aF [.aC r 21 0 0,.aC o 5 0 0]] h λ_ h'=>fy wA eY L h r o x.aH h'
theorem Rn {P:Program}{f f1 f2 f3 f4 f5 f6:FuncId}(hf:Is P f (Be f1 f2 f3 f4 f5 f6))(h1:pn P f1)(h2:Is P f2 wU)(h3:o8 P f3)(h4:pZ P f4)(h5:xX P f5)(u6:nU P f6):uw P f:=by
 refine⟨hf.2,λL h r o x k hx u hk=>fU hf ?_⟩;obtain⟨R,out⟩:=x;simp only at u;have lt:=hx.lt;obtain⟨g,ff,ra⟩:=id hx.r;obtain⟨ma,ca,aa,oa⟩:=id hx.o;have rr:=ra.aA;have lr:=(Up.1 rr).1;have Z:=eX.rd _ (F':=λm=>L m=2/\m<h.length) (λ_ y=>y) _ (eX.lt _ _ ra.fo);have hfl:=u.aE.1;simp only[eZ.aJ]at rr;have R1:∀a,(h++[a])[r]?=_:=λa=>(eV.b1 a).aA rr;have B1:=gH h (some (e_.aA 2 [[.aC r 21 0 0,.aC o 5 0 0]] false));have R5:∀a b c d e,(h++[a]++[b]++[c]++[d]++[e])[r]?=_:=λa b c d e=>((eV.b4 a b c d).tr (eV.b1 e)).aA rr;have NR:∀sz i o',gW (h.length+1) 4 (.aC r sz i o')=true:=λsz i o'=>iu (by omega);have NB:∀sz i o',gW (h.length+1) 4 (.aC h.length sz i o')=true:=λsz i o'=>iu (by omega);have W:∀a b c d e,np (h++[a]++[b]++[c]++[d]++[e]) r R:=λa b c d e=>⟨g,ff,R5 a b c d e⟩;have a3:h.length+1+3=h.length+1+1+1+1:=rfl;have a2:h.length+1+2=h.length+1+1+1:=rfl;simp only[Be,go_sem,jK,R5,NR,NB,a2,a3];refine gh h1.1 (h1.2 _ r R (W _ _ _ _ _) (u.aC hk)) ?_;simp only[go_sem,jK,R5,a2];obtain⟨H5,I⟩:∃H5,H5=h++[some (e_.aA 2 [[.aC r 21 0 0,.aC o 5 0 0]] false)]++[some (e_.aA 1 [[.aA .i64 R.id]] false)]++[some (e_.aA 1 [[.aA .i64 R.aM]] false)]++[some (e_.aA 1 [[.aG (h.length+1) 1 0 1 (some 1)]] false)]++[some (e_.aA 1 [[.aG (h.length+1+1) 1 0 1 (some 1)]] false)]:=⟨_,rfl⟩;have X5:eV eY h H5:=by rw[I];exact (eV.b4 _ _ _ _).tr (eV.b1 _)
 have l5:H5.length=h.length+5:=by rw[I];simp
 have E:H5=h++[some (e_.aA 2 [[.aC r 21 0 0,.aC o 5 0 0]] false),some (e_.aA 1 [[.aA .i64 R.id]] false),some (e_.aA 1 [[.aA .i64 R.aM]] false),some (e_.aA 1 [[.aG (h.length+1) 1 0 1 (some 1)]] false),some (e_.aA 1 [[.aG (h.length+1+1) 1 0 1 (some 1)]] false)]:=by rw[I];simp
 have C0:H5[h.length]?=some (some (e_.aA 2 [[.aC r 21 0 0,.aC o 5 0 0]] false)):=by rw[E];exact uG 0
 have C1:H5[h.length+1]?=some (some (e_.aA 1 [[.aA .i64 R.id]] false)):=by rw[E];exact uG 1
 have C2:H5[h.length+1+1]?=some (some (e_.aA 1 [[.aA .i64 R.aM]] false)):=by rw[E];exact uG 2
 have C3:H5[h.length+1+1+1]?=some (some (e_.aA 1 [[.aG (h.length+1) 1 0 1 (some 1)]] false)):=by rw[E];exact uG 3
 have C4:H5[h.length+1+1+1+1]?=some (some (e_.aA 1 [[.aG (h.length+1+1) 1 0 1 (some 1)]] false)):=by rw[E];exact uG 4
 clear E;rw[<-I];clear I;have T0:qY (h.length+1) (h.length+1+1+1) (h.length+1+1+1+1) H5 [R.id] [R.aM]:=by
  refine⟨⟨_,_,λm=>m=h.length+1,λm=>m=h.length+1+1,C3,C4,λm hm=>⟨by omega,by omega,by omega,by omega⟩,λm hm=>⟨by omega,by omega,by omega⟩,?_,⟨_,_,C1,(λe=>by cases e),(λc hc=>by cases hc;simp)⟩,?_,⟨_,_,C2,(λe=>by cases e),(λc hc=>by cases hc;simp)⟩⟩,by omega,by omega,by omega,by omega,by omega⟩;·exact .inr (.inr ⟨_,0,some 1,_,_,rfl,rfl,C1,by simp,(λc hc=>by cases hc;simp),by simp[fG,fI,eX]⟩)
  ·exact .inr (.inr ⟨_,0,some 1,_,_,rfl,rfl,C2,by simp,(λc hc=>by cases hc;simp),by simp[fG,fI,eX]⟩)
 obtain⟨J,hJ⟩:∃J:Nat->eW->Prop,∀k h',J k h'↔qY (h.length+1) (h.length+1+1+1) (h.length+1+1+1+1) h' (R.id :: (R.aC.take k).map fR.aD) (R.aM :: (R.aC.take k).map fR.aE)/\eV (λm=>h.length+1<=m) H5 h':=⟨_,λ_ _=>VW⟩;have J1:∀k h',J k h'->Rd (λm=>L m=2/\m<h.length) h' (nD R.aC) ff:=by intro k h' hh;obtain⟨-,e⟩:=(hJ k h').1 hh;exact Rd.aD (λ_ y=>y) (λm hm y hy=>(e.2 m (by omega) (by omega)).trans (X5.aA hy)) _ _ Z
 have J2:∀k (hk:k<R.aC.length) h' H,J k h'->eV eY h' H->fC P f2 ([]++[.aF (R.aC[k]).aA]++[.aC (h.length+1+1+1) 1 0 0,.aC (h.length+1+1+1+1) 1 0 0]) H λ_ U=>J (k+1) U:=by intro k hk h' H hh hX;obtain⟨t,e⟩:=(hJ k h').1 hh;have ek:R.aC.take (k+1)=R.aC.take k++[R.aC[k]]:=U3 hk;have tl:=Ww k R.aC;refine (Sh h2 (t.up hX) ⟨by simp;omega,by simp;omega⟩ R.aC[k]).aA λv U z=>(hJ _ _).2 ?_;rw[ek];refine⟨by rw[Ve,Ve];exact z.1,(e.aD (hX.aD z.2 (F'':=λm=>h.length+1<=m) (λ_ _ y=>y.elim) (λ_ _ y=>y)) (λ_ _ y=>y) (λ_ _ y=>y))⟩
 refine fA ⟨h3.1,h3.2 (λm=>L m=2/\m<h.length) H5 r R g ff f2 [] [.aC (h.length+1+1+1) 1 0 0,.aC (h.length+1+1+1+1) 1 0 0] J (X5.aA ra.aA) h2.2 (by omega) ((hJ _ _).2 ⟨by simpa using T0,eV.aC _ _⟩) J1 J2⟩ ?_;rintro _ h6 hh;obtain⟨t6,e6⟩:=(hJ _ _).1 hh;rw[U7]at t6;obtain⟨a,b,A,B,e2,e3,hA,hB,O,ca,ob,cb⟩:=t6.ex;have X6:eV eY h h6:=⟨by have:=X5.1;have:=e6.1;omega,λm hm _=>(e6.2 m (by omega) (by omega)).trans (X5.2 m hm (λy=>y))⟩;have r6:=X6.aA rr;have l6:=X6.1;have b6:=(e6.2 h.length (by omega) (by omega)).trans C0;have sa:=O.aA;have sb:=ob.aA;have a5:=eX.rd _ (F':=A) (λ_ y=>y) _ O;have a1:=eX.rd _ (F':=B) (λ_ y=>y) _ ob;simp only[go_sem,b6,e2,e3];refine gh h4.1 (h4.2 h6 r R ⟨g,ff,r6⟩ (u.aK hk)) ?_;simp only[go_sem,b6,e2,e3];refine gh h5.1 (h5.2 eY A B h6 R.aN _ _ _ _ _ (tO eY h6 R.aN) a5 a1 (u.aM (by decide)) (by simp;omega) (by simp;omega)) ?_;simp only[go_sem,b6,r6,e2,e3];refine gh u6.1 (u6.2 eY h6 R.aA.aA _ _ (m_ R.aA.aA h6) (u.aC hk)) ?_;have eS:R.aN.aO (R.id :: R.aC.map fR.aD) (R.aM :: R.aC.map fR.aE)=R.bz:=rfl;rw[eS];have M:=hx.up X6;have lr6:=(Up.1 r6).1;have no:R.aV=R->fy wA eY L h r o (({r:=R,o:=out}:RX).aH) h6:=λe=>by
  have:(({r:=R,o:=out}:RX).aH)=⟨R,out⟩:=by show (⟨R.aV,out⟩:RX)=_;rw[e]
  rw[this];exact fy.aC X6 M.to
 simp only[go_sem,b6,r6];by_cases c1:R.aE<R.bz
 ·cases c2:R.aA.aA.aF R.bz;·simp only[go_sem,Uu c1];exact no (by unfold eZ.aV;rw[Uw (by simp[c2])])
  ·by_cases c3:R.aA.aA.aJ R.bz=R.aA.aC
   ·simp only[go_sem,b6,r6,Uu c1,Uu c3];obtain⟨g6,f6,ra6⟩:=M.r;obtain⟨ma6,ca6,aa6,a6⟩:=M.o;have e7:(({r:=R,o:=out}:RX).aH)=⟨{R with aE:=R.bz},out⟩:=by show (⟨R.aV,out⟩:RX)=_;unfold eZ.aV;rw[Uv ⟨c1,c2,c3⟩]
    rw[e7];have a4:=(ra.aC (h':=h6) (λ_ _ _=>rfl) λm hm _=>X6.2 m hm (λy=>y));exact fy.aC X6 (g_.aD (R':={R with aE:=R.bz}) a4 a6 M.lt rfl rfl)
   ·simp only[go_sem,b6,r6,Uu c1,Us c3];exact no (by unfold eZ.aV;rw[Uw (λz=>c3 z.2.2)])
 ·simp only[go_sem,Us c1];exact no (by unfold eZ.aV;rw[Uw (λz=>c1 z.1)])
def xZ (P:Program)(f:FuncId):Prop:=fP P f=true/\∀(F:Nat->Prop)(h:eW)(l:fu)(a:List AV)(prev:Int)(e:List fT)(b:AV),fm F h l.c a->Rd F h (gN e) b->jH l->me e->
 fC P f [.aF a,.aA .i64 prev,b] h λr h'=>r=.aI [.aF (l.aE prev e).v,.aA .i64 (l.aH prev e)]/\h'=h
theorem vL.p {P:Program}{f:FuncId}(hc:vL P f):xZ P f:=⟨hc.1,λF h l a prev e b ha hb hl he=>(hc.2 F h l a prev e b ha hb hl he).aC λ_ _ ⟨_,h1,h2,h3⟩=>⟨h3,_,h1▸gY.aD (gY.aA (fI.fz _ (λ_ x=>x) _ h2)) (gY.aC _ _),rfl⟩⟩
theorem jF:¬wA 0:=λh=>h rfl
theorem fy.aA {W Q L h r o x h' m}{b:Option e_}(T:fy W Q L h r o x h')(h0:¬W (L m))(hq:¬Q m) (hb:h[m]?=some b):h'[m]?=some b:=by obtain⟨L1,x1,l1,e1⟩:=T;exact (e1.2 m (Up.1 hb).1 (λz=>z.elim h0 hq)).trans hb
theorem fy.aE {W Q L h r o x h'}(T:fy W Q L h r o x h'):np h' r x.r:=let⟨_,x1,_⟩:=T;x1.aA
theorem g_.ge {L h r o x}(a:g_ L h r o x){m:Nat}(hm:h.length<=m):L m=0:=UC λz=>by have:=a.lt m z;omega
theorem fy.aL {P:Program}{f:FuncId}{u:List AV}{W Q Q' L h r o x h' h3 x'}{K:AV->Prop}(T:fy W Q L h r o x h')(hx:eV eY h' h3)(hQ:∀m,m<h.length->Q' m->Q m)
  (hc:∀L1,g_ L1 h' r o x->fC P f u h3 λv e=>K v/\fy W Q' L1 h3 r o x' e):fC P f u h3 λv e=>K v/\fy W Q L h r o x' e:=by
 obtain⟨L1,x1,l1,e1⟩:=T;refine (hc L1 x1).aA ?_;rintro v e ⟨k,b⟩;exact⟨k,fy.aF l1 e1 hQ (fy.aC hx b)⟩
theorem fy.aD {P:Program}{f:FuncId}{u:List AV}{W Q Q' L h r o x h' h3 x'}(T:fy W Q L h r o x h')(hx:eV eY h' h3)(hQ:∀m,m<h.length->Q' m->Q m)
  (hc:∀L1,g_ L1 h' r o x->fC P f u h3 λ_ e=>fy W Q' L1 h3 r o x' e):fC P f u h3 λ_ e=>fy W Q L h r o x' e:=
 (T.aL (K:=λ_=>True) hx hQ λL1 x1=>(hc L1 x1).aA λ_ _ b=>⟨UF,b⟩).aA λ_ _ b=>b.2
theorem fy.aH {W Q L h r o R R' out h' g f}(T:fy W Q L h r o ⟨R,out⟩ h') (row:h'[r]?=some (some (.aA 21 [R.aJ g f] false))) (e1:R'.aI=R.aI) (e2:R'.aC=R.aC) (hW:∀k,k≠0->W k):
  fy W Q L h r o ⟨R',out⟩ (h'.set r (some (.aA 21 [R'.aJ g f] false))):=by
 obtain⟨L1,x1,l1,e⟩:=T;obtain⟨g1,f1,ra⟩:=x1.r;obtain⟨ma,ca,aa,oa⟩:=x1.o;have:=ra.aA.symm.trans row;simp only[UB,e_.aA.injEq,VI,eZ.aJ]at this;obtain⟨-,⟨⟨-,-,-,-,-,-,-,-,-,-,-,-,-,-,-,-,-,rfl,rfl,-⟩,-⟩,-⟩:=this;exact fy.aF l1 e (λ_ _ y=>y) ((g_.aD (Q:=Q) ra oa x1.lt e1 e2).aG λk hk=>hW k hk)
theorem Qa {F:Nat->Prop}{h:eW}{n:Nat}{t k:Int}{data:List Int}{d:AV}{G:Nat->Prop} (hb:h[n]?=some (some (.aA 3 [[.aA .i64 t,.aA .i64 k,d]] false))) (hd:Rd G h (gj data) d) (hF:∀m,G m->F m) (hn:F n):
  Rd F h (gN [⟨t,k,data⟩]) (.aG n 3 0 1 (some 1)):=by
 refine⟨_,.inr (.inr ⟨n,0,1,some 1,_,_,rfl,hn,hb,by simp,(λc hc=>by cases hc;omega),rfl⟩),?_⟩;simp only[U5,Vl,fT.c,fY,fm,Rd,Vy,Wv,List.take_zero];exact⟨_,_,rfl,⟨_,_,rfl,rfl,_,_,rfl,rfl,_,_,rfl,Rd.aD hF (λ_ _ _ y=>y) _ _ hd,rfl⟩,rfl⟩
def wj (P:Program)(f:FuncId):Prop:=fP P f=true/\∀(G:Nat->Prop)(L:Nat->Nat)(h:eW)(r o:Nat)(x:RX)(k j:Nat)(kind:Int)(data:List Int)(d:AV),g_ L h r o x->x.r.aD k->k<2^28->x.aC j->j<=2^20->Rd G h (gj data) d->gI data/\data.length<=2^16->hU kind->
 fC P f [.aF [.aC r 21 0 0,.aC o 5 0 0],.aA .i64 kind,d] h λv h'=>v=.aA .i64 (x.r.aM+1)/\fy wA eY L h r o (x.aF kind data) h'
theorem Q6 {P:Program}{f f1 f2 f3 f4 f5:FuncId}(hf:Is P f (Ba f1 f2 f3 f4 f5))(u1:pn P f1)(u2:xZ P f2)(u3:nT P f3)(u4:sK P f4)(u5:wm P f5):wj P f:=by
 refine⟨hf.2,λG L h r o x k j kind data d hx hfit hk hj hj2 hd hdata hkind=>fU hf ?_⟩;have hmore:=hfit.bB (e:=⟨x.r.aA.aC,kind,data⟩) ⟨hdata,⟨by have:=hfit.aF;show _<=x.r.aA.aC;omega,by have:=hfit.aF;show x.r.aA.aC<=_;omega⟩,hkind⟩;have hr:=F4 x kind data;have ho:=FZ x kind data;have elay:x.aF kind data=⟨(x.aF kind data).r,(x.aF kind data).o⟩:=rfl;rw[elay,hr,ho];obtain⟨R,out⟩:=x;simp only at hfit hmore hj ⊢;have lt:=hx.lt;obtain⟨g,ff,ra⟩:=id hx.r;have rr:=ra.aA;have lr:=(Up.1 rr).1;simp only[eZ.aJ]at rr;have R1:∀a,(h++[a])[r]?=_:=λa=>(eV.b1 a).aA rr;have R2:∀a b,(h++[a]++[b])[r]?=_:=λa b=>(eV.b2 a b).aA rr;have sd:=hd.aA;have bl:=hfit.aD;have ll:=hfit.aG;have hl0:0<=R.aM:=by unfold eZ.aM fu.aC;omega
 have hl1:R.aM<=2^40+k:=hfit.aG;have ew:IntKind.i64.wrap (R.aM+1)=R.aM+1:=gi (by omega);simp only[Ba,go_sem];refine gh u1.1 (u1.2 _ r R ⟨g,ff,R1 _⟩ (hfit.aC (by omega))) ?_;obtain⟨H1,hH1⟩:∃H1,H1=h++[some (e_.aA 2 [[.aC r 21 0 0,.aC o 5 0 0]] false)]++[some (e_.aA 3 [[.aA .i64 R.aA.aC,.aA .i64 kind,d]] false)]:=⟨_,rfl⟩;have X1:eV eY h H1:=by rw[hH1];exact eV.b2 _ _
 have l1:H1.length=h.length+2:=by rw[hH1];simp
 have C0:H1[h.length]?=some (some (e_.aA 2 [[.aC r 21 0 0,.aC o 5 0 0]] false)):=by rw[hH1];exact jJ _ _ _
 have C1:H1[h.length+1]?=some (some (e_.aA 3 [[.aA .i64 R.aA.aC,.aA .i64 kind,d]] false)):=by rw[hH1];exact iO _ _ _
 have r1:=X1.aA rr;have lr1:=(Up.1 r1).1;have ne0:(r=h.length)=False:=UO (by omega);have ap:=u2.2 (λ_=>True) H1 R.aA.aA _ R.aM [⟨R.aA.aC,kind,data⟩] (.aG (h.length+1) 3 0 1 (some 1)) (fm.aA (F:=eY) (λ_ _=>UF) (λ_ _ _ y=>y) _ _ (m_ R.aA.aA H1)) (Qa C1 (hd.up X1) (λ_ _=>UF) UF) (hfit.aC (by omega)) ⟨by simp,λe he=>by simp at he;subst he;show data.length<=_;omega⟩;have elaid:R.aA.aA.aE R.aM [⟨R.aA.aC,kind,data⟩]=⟨R.aA.aA.aA,R.aA.aA.aD,R.aA.aA.es++[⟨R.aA.aC,kind,data⟩]⟩:=qA _ _;rw[elaid]at ap;simp only[fu.aM]at ap;simp only[go_sem,R1,R2,sd,gC sd];rw[<-hH1];clear hH1;refine gh u2.1 ap ?_;rw[iC];simp only[go_sem,r1,C0,lr1,ne0];rw[ew];have hx1:=hx.up X1;have ra1:=(ra.aC (h':=H1) (λ_ _ _=>rfl) λm hm _=>X1.2 m hm (λy=>y));obtain⟨ma1,ca1,aa1,oa1⟩:=id hx1.o;obtain⟨R',hR'⟩:∃R':eZ,R'={R with aA:={R.aA with aA:=⟨R.aA.aA.aA,R.aA.aA.aD,R.aA.aA.es++[⟨R.aA.aC,kind,data⟩]⟩}}:=⟨_,rfl⟩;have T1:fy wA eY L H1 r o ⟨R',out⟩ (H1.set r (some (.aA 21 [R'.aJ g ff] false))):=g_.aD ra1 oa1 hx1.lt (by rw[hR']) (by rw[hR']);have hmore:R'.aD (k+1):=by rw[hR'];exact hmore
 obtain⟨H2,hH2⟩:∃H2,H2=H1.set r (some (.aA 21 [R'.aJ g ff] false)):=⟨_,rfl⟩;have row2:R'.aJ g ff=[.aA .i64 R.id,.aA .i64 R.aA.aE,.aA .i64 R.aA.aC,.aA .i64 R.aA.aF,.aA .i64 R.aA.aA.aA,.aA .i64 R.aA.aA.aD,ki (R.aA.aA.es++[⟨R.aA.aC,kind,data⟩]),gG R.aA.aD.aA,gG R.aA.aD.aC,gG R.aA.aD.aD,i9 R.aA.aG,
  .aA .i64 R.aE,.aA .i64 R.aH,.aA .i64 R.aG,.aA .i64 R.aX,.aA .i64 R.aK,.aA .i64 R.aY,g,ff,.aA .i64 R.aL,.aA .i64 R.aO]:=by rw[hR'];rfl
 have r2:H2[r]?=some (some (.aA 21 [R'.aJ g ff] false)):=by rw[hH2];exact Ux lr1
 rw[<-hH2]at T1;rw[row2]at hH2 r2;rw[<-hH2];have eR'l:R'.aA.aA=⟨R.aA.aA.aA,R.aA.aA.aD,R.aA.aA.es++[⟨R.aA.aC,kind,data⟩]⟩:=by rw[hR']
 have eR'g:R'.aA.aE=R.aA.aE:=by rw[hR']
 have sl:=u3.2 eY H2 R'.aA.aA _ (R.aM+1) 1 (m_ R'.aA.aA H2) (hmore.aC (by omega));have es:R'.aA.aA.aI (R.aM+1) 1=[⟨R.aA.aC,kind,data⟩]:=by rw[eR'l,<-qA];exact CJ _ _
 rw[es,eR'l]at sl;simp only at sl;refine fA ⟨u3.1,sl⟩ ?_;rintro e1 H3 ⟨oe,-,X3⟩;have se:=oe.aA;have z2:∀m,L m=0->¬wA (L m):=λm e=>by rw[e];exact jF
 have C2:=T1.aA (z2 _ (hx.ge (Uy _))) (λy=>y) C0;have C3:=X3.aA C2;rw[iC];have r3:=X3.aA r2;simp only[go_sem,C3,gC se,r3];have el:({fZ.aI with aC:=2,aE:=R.aM+1,aA:=⟨0,0,[⟨R.aA.aC,kind,data⟩]⟩}:fZ).aF e1 .aD .aD .aD .aD=[.aA .i64 2,.aA .i64 0,.aA .i64 0,.aA .i64 0,.aA .i64 (R.aM+1),.aA .i64 0,.aA .i64 0,e1,.aD,.aD,.aD,.aD,.aA .i64 0,.aA .i64 0,.aA .i64 0,.aA .i64 0,.aA .i64 0]:=rfl;have tl:=fy.aD (Q':=λm=>H2.length<=m) T1 X3 (λm hm (z:H2.length<=m)=>by rw[hH2,UA]at z;omega) λL1 x1=>(u4.2 (λm=>H2.length<=m) L1 H3 r o _ {fZ.aI with aC:=2,aE:=R.aM+1,aA:=⟨0,0,[⟨R.aA.aC,kind,data⟩]⟩} e1 .aD .aD .aD .aD (x1.up X3) oe (eX.aD 1) (eX.aD 1) (eX.aD 1) (eX.aD 1) (λn hn=>x1.ge hn) (by have:=hj.2;show (out.aA.length+1)*216<=2^46;have a:out.aA.length+1<=2^21:=by {have b:out.aA.length<=j:=this;omega};exact UH (Vi 216 a) (by decide))).aA λ_ _ b=>b.aG mO;rw[el]at tl;refine fA ⟨u4.1,tl⟩ ?_;intro _ H4 T2;have D2:=T2.aA (z2 _ (hx.ge (Uy _))) (λy=>y) C0;rw[iC];simp only[go_sem,D2];have eT:(({r:=R',o:=out}:RX).aX {fZ.aI with aC:=2,aE:=R.aM+1,aA:=⟨0,0,[⟨R.aA.aC,kind,data⟩]⟩})=⟨R',{out with aA:=out.aA++[{fZ.aI with aC:=2,aH:=R.aA.aE,aE:=R.aM+1,aA:=⟨0,0,[⟨R.aA.aC,kind,data⟩]⟩}]}⟩:=by unfold RX.aX;simp only[eR'g]
 rw[eT]at T2;by_cases c:kind=2
 ·simp only[go_sem,Uu c,D2];have mt:=fy.aD (Q':=eY) T2 (eV.aC _ _) (λ_ _ y=>y) λL1 x1=>u5.2 L1 H4 r o _ (k+1) R.aM x1 hmore (by omega) ⟨hl0,by omega⟩;refine fA ⟨u5.1,mt⟩ ?_;intro _ H5 T3;rw[Uv c,<-hR'];simp only[go_sem,ew];have e5:R'.aC=R.aC:=by rw[hR']
  rw[<-e5];exact fy.aC X1 T3
 ·rw[Uw c,<-hR'];simp only[go_sem,Us c,ew];exact fy.aC X1 T2
def wk (P:Program)(f:FuncId):Prop:=fP P f=true/\∀(L:Nat->Nat)(h:eW)(r o:Nat)(x:RX)(k j:Nat),g_ L h r o x->x.r.aD k->k<2^28->x.aC j->j<2^20->
 fC P f [.aF [.aC r 21 0 0,.aC o 5 0 0]] h λ_ h'=>fy wA eY L h r o x.aN h'
theorem Q7 {P:Program}{f f1 f2 f3 f4 f5 f6:FuncId}(hf:Is P f (Bb f1 f2 f3 f4 f5 f6))(u1:pn P f1)(u2:wm P f2)(u3:wj P f3)(u4:p8 P f4)(u5:o8 P f5)(u6:uw P f6):wk P f:=by
 refine⟨hf.2,λL h r o x k j hx u hk hj hj2=>fU hf ?_⟩;obtain⟨R,out⟩:=x;simp only at u;have lt:=hx.lt;have X1:=eV.b1 (h:=h) (some (e_.aA 2 [[.aC r 21 0 0,.aC o 5 0 0]] false));have I:=hx.up X1;obtain⟨g,ff,ra⟩:=I.r;obtain⟨ma,ca,aa,oa⟩:=I.o;have rr:=ra.aA;have lrh:r<h.length:=lt r (by rw[ra.lr];omega);have W:r<h.length+1:=by omega
 simp only[eZ.aJ]at rr;have B1:=gH h (some (e_.aA 2 [[.aC r 21 0 0,.aC o 5 0 0]] false));have ne:(r=h.length)=False:=UO (by omega);simp only[Bb,go_sem,rr,ne,B1,W,UA,Vs];have T0:fy wA eY L (h++[some (e_.aA 2 [[.aC r 21 0 0,.aC o 5 0 0]] false)]) r o ⟨{R with aG:=2,aX:=R.id,aO:=0,aI:=[],aC:=[]},out⟩ _:=g_.aE (R':={R with aG:=2,aX:=R.id,aO:=0,aI:=[],aC:=[]}) ra oa I.lt rfl rfl;simp only[eZ.aJ]at T0;have z2:∀m,h.length<=m->¬wA (L m):=λm e=>by rw[hx.ge e];exact jF
 generalize List.set (h++[some (e_.aA 2 [[.aC r 21 0 0,.aC o 5 0 0]] false)]) r _=H1 at *;have D0:=T0.aA (z2 _ (Uy _)) (λy=>y) B1;have hl1:R.aM<=2^40+k:=u.aG;have Z:0<=R.aM:=by have:=u.aD;unfold eZ.aM fu.aC;omega
 have f0:({R with aG:=2,aX:=R.id,aO:=0,aI:=[],aC:=[]}:eZ).aD k:=by obtain⟨g1,g2,g3,g4,g5,g6,g7,g8,g9,a3,g11,a2,g13,g14,a1⟩:=u;exact⟨g1,g2,g3,g4,g5,g6,g7,g8,g9,a3,⟨UL _,by show (0:Int)<=1;omega⟩,a2,by simp,⟨by simp,by simp⟩,a1⟩
 have el:({R with aG:=2,aX:=R.id,aO:=0,aI:=[],aC:=[]}:eZ).aM=R.aM:=rfl;refine gh u1.1 (by have:=u1.2 H1 r _ T0.aE (f0.aC (by omega));rw[el]at this;exact this) ?_;have O:∃g f,H1[r]?=some (some (.aA 21 [({R with aG:=2,aX:=R.id,aO:=0,aI:=[],aC:=[]}:eZ).aJ g f] false)):=T0.aE;obtain⟨g1,ff1,E⟩:=O;simp only[eZ.aJ]at E;simp only[go_sem,D0];have mt:=fy.aD (Q':=eY) T0 (eV.aC _ _) (λ_ _ y=>y) λL1 x1=>u2.2 L1 H1 r o _ k R.aM x1 f0 (by omega) ⟨Z,by omega⟩;refine fA ⟨u2.1,mt⟩ ?_;intro _ H2 T2;have D2:=T2.aA (z2 _ (Uy _)) (λy=>y) B1;have M:({R with aG:=2,aX:=R.id,aO:=0,aI:=[],aC:=[]}:eZ).bx ({R with aG:=2,aX:=R.id,aO:=0,aI:=[],aC:=[]}:eZ).aC R.aM=R.bw:=rfl;simp only[M]at T2;have f2:=u.aV (by omega);simp only[go_sem,D2];have U:=fy.aL (Q':=eY) T2 (eV.aC _ _) (λ_ _ y=>y) λL1 x1=>u3.2 eY L1 H2 r o ⟨R.bw,out⟩ k j 0 [] .aD x1 f2 hk hj (by omega) (Rd.aK 1) ⟨λ_ h=>by simp at h,by simp⟩ ⟨by omega,by omega⟩;refine fA ⟨u3.1,U⟩ ?_;rintro _ H3 ⟨-,T3⟩;have D3:=T3.aA (z2 _ (Uy _)) (λy=>y) B1;have f3:(({r:=R.bw,o:=out}:RX).aF 0 []).r.aD (k+1):=eZ.aD.aT (x:={r:=R.bw,o:=out}) (kind:=0) (data:=[]) f2 (by omega) ⟨λ_ h=>by simp at h,by simp⟩ ⟨by omega,by omega⟩;have j3:(({r:=R.bw,o:=out}:RX).aF 0 []).aC (j+1):=RX.aC.aE (x:={r:=R.bw,o:=out}) hj 0 [];simp only[go_sem,D3];have et:=fy.aD (Q':=eY) T3 (eV.aC _ _) (λ_ _ y=>y) λL1 x1=>(xb u5 u4 x1 f3 (by omega) j3 (by omega)).aA λ_ _ b=>b.aG mO;refine fA ⟨u5.1,et⟩ ?_;intro _ H4 T4;have D4:=T4.aA (z2 _ (Uy _)) (λy=>y) B1;have f4:(({r:=R.bw,o:=out}:RX).aF 0 []).on.r.aD (k+1):=by show (RX.aO _ _).r.aD (k+1);rw[(pG _ _).1];exact f3
 simp only[go_sem,D4];have st:=fy.aD (Q':=eY) T4 (eV.aC _ _) (λ_ _ y=>y) λL1 x1=>u6.2 L1 H4 r o _ (k+1) x1 f4 (by omega);refine fA ⟨u6.1,st⟩ ?_;intro _ H5 T5;simp only[go_sem];exact fy.aC X1 T5
end Glb
