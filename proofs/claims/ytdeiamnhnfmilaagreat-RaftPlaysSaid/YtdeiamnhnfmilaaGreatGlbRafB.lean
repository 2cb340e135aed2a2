/-
  A library of its own.
-/
import Derived.Test.YtdeiamnhnfmilaaGreatGlbRafA
import Derived.Test.YtdeiamnhnfmilaaGreatGlbLaid
set_option linter.unusedSimpArgs false
set_option linter.unusedVariables false
set_option maxRecDepth 10000
set_option maxHeartbeats 8000000
open Nat (reduceAdd)
namespace Glb
open Go
theorem xE:∀(l:List Int)(a:Int),jO l->(∀m∈l,a<=m/\m<=7)->a<=8->(l.length:Int)<=8-a
 | [],a,_,_,h=>by simp;omega
 | x :: l,a,h1,h2,h3=>by have h4:=WN.1 h1;have hx:=h2 x (by simp);have:=xE l (x+1) h4.2 (λm hm=>⟨by have:=h4.1 m hm;omega,(h2 m (by simp[hm])).2⟩) (by omega);simp only[VD];omega
theorem kP {x:fG}(h:x.aI=true):x.aF 7:=by obtain⟨-,⟨h1,h2⟩,⟨h3,h4⟩,⟨h5,h6⟩,-⟩:=Iq.1 h;have a:=xE _ 1 h1 h2 (by omega);have b:=xE _ 1 h3 h4 (by omega);have c:=xE _ 1 h5 h6 (by omega);exact⟨by omega,by omega,by omega⟩
theorem fG.aF.le {x:fG}{a b:Nat}(h:x.aF a)(t:a<=b):x.aF b:=⟨Vr h.1 t,Vr h.2.1 t,Vr h.2.2 t⟩
theorem uv {l:List Int}(h:(gZ l).2=0):(gZ l).1.aI=true:=by
 simp only[gZ]at h ⊢;by_cases c:(iI.aA (some l)).2.aB=0
 ·have c':¬(iI.aA (some l)).2.aB≠0:=by simpa using c
  rw[Ve c']at h ⊢;by_cases o:(iI.aA (some l)).1.aI=true;·rw[Vf o];exact o
  ·rw[Ve o]at h;cases h
 ·rw[Vf c]at h;exact absurd h c
theorem fV.aS (x:fV)(h:x.aC.aI=true):∀k,k<=x.aA.es.length->(x.aI k).1.aI=true/\x.aA.aA<=(x.aI k).2/\(x.aI k).2<=x.aA.aA+k
 | 0,_=>⟨h,Wm _,Int.le_of_eq (by show x.aA.aA=_;simp)⟩
 | k+1,hk=>by
  rw[fV.aT hk];split;·rename_i c;exact⟨uv c.2,by show x.aA.aA<=x.aA.aA+1+k;omega,by show x.aA.aA+1+(k:Int)<=_;omega⟩
  ·obtain⟨a,b,c⟩:=fV.aS x h k (by omega);exact⟨a,b,by omega⟩
theorem fV.aQ {x:fV}(h:x.aC.aI=true):x.of.1.aI=true/\x.aA.aA<=x.of.2/\x.of.2<=x.aA.aC:=fV.aS x h _ (Vg _)
def fO.aI (w:fO):Prop:=(1<=w.aB/\w.aB<=7)/\(0<=w.aD/\w.aD<=2^41)/\(0<=w.aC/\w.aC<=2^40)
theorem fO.aI.aA {w:fO}(h:w.aI):w.aJ:=by obtain⟨⟨h1,h2⟩,⟨h3,h4⟩,h5,h6⟩:=h;exact⟨⟨by omega,h3,h5⟩,by omega,by omega,by omega⟩
def gj.aD (e:gj):Prop:=(gK e.aA/\e.aA.length<=2^16)/\gO e.aB/\gO e.aC
structure fm.aD (k:Nat)(x:fm):Prop where
 aC:0<=x.aA.aA.aA/\x.aA.aA.aA<=2^40+k
 aR:x.aA.aA.es.length<=k
 aE:x.aA.aA.aC<=2^40+k
 aS:∀e∈x.aA.aA.es,e.aD
 aL:x.aA.aC.aI=true
 aX:gK x.aA.aF/\x.aA.aF.length<=2^16
 aJ:0<=x.aA.aB/\x.aA.aB<=2^40
 bG:gO x.aA.aD/\gO x.aA.aE/\gO x.aA.aA.aB
 aK:x.aA.aA.aA<=x.aO/\x.aO<=x.aI/\x.aI<=x.aA.aA.aC
 aZ:0<=x.aF/\x.aF<=k
 aY:0<=x.aN/\x.aN<=1
 bA:0<=x.aL/\x.aL<=k
 aT:x.aG.length<=k+1
 aD:x.aB.length<=21/\∀w∈x.aB,w.aI
 id:1<=x.id/\x.id<=7
theorem fm.aD.aA {k k':Nat}{x:fm}(h:x.aD k)(hk:k<=k'):x.aD k':=by obtain⟨h1,h2,h3,h4,h5,h6,h7,h8,h9,h10,u,h12,h13,t,b⟩:=h;exact⟨⟨h1.1,by omega⟩,by omega,by omega,h4,h5,h6,h7,h8,h9,by omega,u,by omega,by omega,t,b⟩
section
variable {k:Nat} {x:fm}
theorem fm.aD.aQ (h:x.aD k)(hk:k<=2^28):iK x.aA.aA.es:=⟨by have:=h.aR;omega,λe he=>by have:=(h.aS e he).1.2;omega⟩
theorem fm.aD.aB (h:x.aD k)(hk:k<=2^28):jl x.aA.aA:=⟨h.aC.1,by have:=h.aC.2;omega,h.aQ hk⟩
theorem fm.aD.aI (h:x.aD k)(hk:k<=2^28):x.aA.aL:=⟨⟨h.aC.1,by have:=h.aC.2;omega⟩,by have:=h.aR;omega,λe he=>⟨(h.aS e he).1.1,by have:=(h.aS e he).1.2;omega⟩,(kP h.aL).le (by omega)⟩
theorem fm.aD.aU (h:x.aD k)(hk:k<=2^28):x.aA.aN:=⟨h.aB hk,(kP h.aL).le (by omega),by have:=h.aX.2;omega⟩
theorem fm.aD.aM (h:x.aD k):x.aE.aI=true:=(fV.aQ h.aL).1
theorem fm.aD.aG (h:x.aD k){n:Nat}(hn:7<=n):x.aE.aF n:=(kP h.aM).le hn
end
theorem uW {x:fG}(h:x.aI=true):x.aE.length<=14:=by have u:=th (x.aA++x.aB);have f:=kP h;simp only[Vj]at u;have:=f.1;have:=f.2.1;simp only[fG.aE];omega
theorem CM {x:fG}(h:x.aI=true):x.aL.length<=21:=by have u:=th (x.aA++x.aB++x.aC);have f:=kP h;simp only[Vj]at u;have:=f.1;have:=f.2.1;have:=f.2.2;simp only[fG.aL];omega
theorem PQ {x:fG}(h:x.aI=true){n:Int}(hn:n∈x.aL):1<=n/\n<=7:=by
 obtain⟨-,⟨-,h2⟩,⟨-,h4⟩,⟨-,h6⟩,-⟩:=Iq.1 h;have:=((IL _).2 n).1 hn;simp only[V7]at this;rcases this with (a | a) | a;·exact h2 n a
 ·exact h4 n a
 ·exact h6 n a
section
variable {k:Nat} {x:fm}
theorem fm.aD.aF (h:x.aD k)(l:Int):(x.aR l).aD k:=by obtain⟨h1,h2,h3,h4,h5,h6,h7,h8,h9,C,u,t,h13,h14,b⟩:=h;exact⟨h1,h2,h3,h4,h5,h6,h7,h8,h9,C,u,t,by simp[fm.aR],⟨by simp[fm.aR],by simp[fm.aR]⟩,b⟩
theorem fm.aD.aW (h:x.aD k){t v:Int}(ht:0<=t/\t<=2^40)(hv:gO v):({x with aA:={x.aA with aB:=t,aE:=v}}:fm).aD k:=by obtain⟨h1,h2,h3,h4,h5,h6,h7,h8,h9,M,I,E,C,u,b⟩:=h;exact⟨h1,h2,h3,h4,h5,h6,ht,⟨h8.1,hv,h8.2.2⟩,h9,M,I,E,C,u,b⟩
theorem PO {was:List fO}{node last:Int}:jD was node last=⟨node,last+1,0,0⟩\/(jD was node last∈was/\(jD was node last).aB=node):=by
 unfold jD;cases hf:was.find? λf=>decide (f.aB=node) with
 | none=>exact .inl rfl
 | some f=>exact .inr ⟨List.mem_of_find?_eq_some hf,by simpa using List.find?_some hf⟩
theorem fm.aD.bF (h:x.aD k){was:List fO}{last:Int}(hw:∀w∈was,w.aI)(hl:0<=last/\last<2^41):(x.bB was last).aD k:=by
 have hn:=h.aM;obtain⟨h1,h2,h3,h4,h5,h6,h7,h8,h9,I,E,C,u,h14,t⟩:=h;refine⟨h1,h2,h3,h4,h5,h6,h7,h8,h9,I,E,C,u,⟨?_,?_⟩,t⟩;·simp only[fm.bB,Vo];exact Vr (We _ _) (CM hn)
 ·intro w b;simp only[fm.bB,Wl,Xm]at b;obtain⟨n,⟨hm,-⟩,rfl⟩:=b;have:=PQ hn hm;rcases PO (was:=was) (node:=n) (last:=last) with e | ⟨e,-⟩;·rw[e];exact⟨this,⟨by show 0<=last+1;omega,by show last+1<=_;omega⟩,by simp⟩
  ·exact hw _ e
theorem fE.aQ (l:fE)(e:gj):l.aF l.aC [e]=⟨l.aA,l.aB,l.es++[e]⟩:=Glb.sK l e
theorem fm.aD.bz (h:x.aD k){e:gj}(he:e.aD):({x with aA:={x.aA with aA:=⟨x.aA.aA.aA,x.aA.aA.aB,x.aA.aA.es++[e]⟩}}:fm).aD (k+1):=by
 obtain⟨h1,h2,h3,h4,h5,h6,h7,h8,h9,t,I,b,E,C,u⟩:=h;have el:(⟨x.aA.aA.aA,x.aA.aA.aB,x.aA.aA.es++[e]⟩:fE).aC=x.aA.aA.aC+1:=by unfold fE.aC;simp;omega
 refine⟨⟨h1.1,Int.le_trans h1.2 (by omega)⟩,by simp;omega,by rw[el];omega,?_,h5,h6,h7,h8,⟨h9.1,h9.2.1,by rw[el];exact Int.le_trans h9.2.2 (by omega)⟩,⟨t.1,Int.le_trans t.2 (by omega)⟩,I,⟨b.1,Int.le_trans b.2 (by omega)⟩,Vr E (by omega),C,u⟩;intro y hy;simp only[V7,W4]at hy;rcases hy with hy | rfl;·exact h4 y hy
 ·exact he
end
theorem CH (x:RX)(kind:Int)(data:List Int):(x.aC kind data).r=if kind=2 then ({x.r with aA:={x.r.aA with aA:=⟨x.r.aA.aA.aA,x.r.aA.aA.aB,x.r.aA.aA.es++[⟨x.r.aA.aB,kind,data⟩]⟩}}:fm).bB x.r.aB x.r.aK
  else {x.r with aA:={x.r.aA with aA:=⟨x.r.aA.aA.aA,x.r.aA.aA.aB,x.r.aA.aA.es++[⟨x.r.aA.aB,kind,data⟩]⟩}}:=by
 unfold RX.aC;simp only[fm.aK,fE.aQ];split<;>rfl
theorem uE (x:RX)(kind:Int)(data:List Int):(x.aC kind data).o={x.o with aC:=x.o.aC++[{fU.aD with aC:=2,aI:=x.r.aA.aD,aF:=x.r.aK+1,aA:=⟨0,0,[⟨x.r.aA.aB,kind,data⟩]⟩}]}:=by have e:((x.r.aA.aA.aF x.r.aA.aA.aC [⟨x.r.aA.aB,kind,data⟩]).aE (x.r.aA.aA.aC+1) 1)=[⟨x.r.aA.aB,kind,data⟩]:=Dm _ _;unfold RX.aC;simp only[fm.aK,e];split<;>rfl
theorem fm.aD.aP {k:Nat}{x:RX}(h:x.r.aD k)(hk:k<=2^28){kind:Int}{data:List Int}(hd:gK data/\data.length<=2^16)(t:gO kind):(x.aC kind data).r.aD (k+1):=by
 rw[CH];have ht:=h.aJ;have m:=h.bz (e:=⟨x.r.aA.aB,kind,data⟩) ⟨hd,⟨by show _<=x.r.aA.aB;omega,by show x.r.aA.aB<=_;omega⟩,t⟩;have hl:=h.aE;have hb:=h.aC;have b:0<=x.r.aA.aA.aC:=by unfold fE.aC;omega
 split;·exact m.bF h.aD.2 ⟨b,by show x.r.aA.aA.aC<_;omega⟩
 ·exact m
theorem fm.bF (x:fm):x.bz={x with aI:=x.bz.aI}:=by unfold fm.bz;split<;>rfl
theorem fm.aD.bB {k:Nat}{x:fm}(h:x.aD k){c:Int}(h1:x.aI<=c)(h2:c<=x.aA.aA.aC):({x with aI:=c}:fm).aD k:=by obtain⟨g1,g2,g3,g4,g5,g6,g7,g8,g9,I,E,C,u,t,b⟩:=h;exact⟨g1,g2,g3,g4,g5,g6,g7,g8,⟨g9.1,by show x.aO<=c;omega,h2⟩,I,E,C,u,t,b⟩
theorem fm.aD.aN {k:Nat}{x:fm}(h:x.aD k):x.bz.aD k:=by
 unfold fm.bz;split;·rename_i c;exact h.bB (by omega) (oX.1 c.2.1).2
 ·exact h
theorem nW (l:List fO):∀x:RX,(x.aJ l).r=x.r/\(x.aJ l).o.aC=x.o.aC/\(x.aJ l).o.aD.length=x.o.aD.length+l.length:=by
 induction l with
 | nil=>intro x;exact⟨rfl,rfl,rfl⟩
 | cons w l ih=>intro x;obtain⟨h1,h2,h3⟩:=ih (x.to w);refine⟨h1,h2,?_⟩;show ((x.to w).aJ l).o.aD.length=_;rw[h3];show (x.o.aD++[_]).length+l.length=_;simp;omega
theorem xI (l:List fB):∀x:RX,(x.aO l).r=x.r/\(x.aO l).o.aC=x.o.aC/\(x.aO l).o.aD.length=x.o.aD.length+l.length:=by
 induction l with
 | nil=>intro x;exact⟨rfl,rfl,rfl⟩
 | cons w l ih=>intro x;obtain⟨h1,h2,h3⟩:=ih (x.aG w);refine⟨h1,h2,?_⟩;show ((x.aG w).aO l).o.aD.length=_;rw[h3];show (x.o.aD++[_]).length+l.length=_;simp;omega
def RX.aA (j:Nat)(x:RX):Prop:=x.o.aD.length<=j/\x.o.aC.length<=j
theorem RX.aA.aA {j j':Nat}{x:RX}(h:x.aA j)(hj:j<=j'):x.aA j':=⟨Vr h.1 hj,Vr h.2 hj⟩
theorem RX.aA.aB {j:Nat}{x:RX}(h:x.aA j)(m:fB):(x.aG m).aA (j+1):=⟨by show (x.o.aD++[_]).length<=_;simp;exact h.1,by have:=h.2;show x.o.aC.length<=_;omega⟩
theorem RX.aA.aC {j:Nat}{x:RX}(h:x.aA j)(c:fU):(x.aU c).aA (j+1):=⟨by have:=h.1;show x.o.aD.length<=_;omega,by show (x.o.aC++[_]).length<=_;simp;exact h.2⟩
theorem RX.aA.aD {j:Nat}{x:RX}(h:x.aA j)(kind:Int)(data:List Int):(x.aC kind data).aA (j+1):=by unfold RX.aA;rw[uE];exact⟨by have:=h.1;show x.o.aD.length<=_;omega,by show (x.o.aC++[_]).length<=_;simp;exact h.2⟩
theorem RX.aA.aE {j:Nat}{x:RX}(h:x.aA j){l:List fO}(hl:l.length<=21):(x.aJ l).aA (j+21):=by obtain⟨-,h2,h3⟩:=nW l x;exact⟨by have:=h.1;omega,by have:=h.2;rw[h2];omega⟩
theorem RX.aA.aG {j:Nat}{x:RX}(h:x.aA j){l:List fB}(hl:l.length<=21):(x.aO l).aA (j+21):=by obtain⟨-,h2,h3⟩:=xI l x;exact⟨by have:=h.1;omega,by have:=h.2;rw[h2];omega⟩
def fm.aU (x:fm):fm:=({x with aM:=2,aW:=x.id,aN:=0,aG:=[],aB:=[]}:fm).bB [] x.aK
theorem Hi (x:RX):x.aP=(((({x with r:=x.r.aU}:RX).aC 0 []).on).aI):=rfl
theorem fm.aD.aV {k:Nat}{x:fm}(h:x.aD k)(hk:k<=2^28):x.aU.aD k:=by
 have hb:=h.aC;have hl:=h.aE;have b:0<=x.aA.aA.aC:=by unfold fE.aC;omega
 have h0:({x with aM:=2,aW:=x.id,aN:=0,aG:=[],aB:=[]}:fm).aD k:=by obtain⟨g1,g2,g3,g4,g5,g6,g7,g8,g9,C,g11,u,g13,g14,t⟩:=h;exact⟨g1,g2,g3,g4,g5,g6,g7,g8,g9,C,⟨Wm _,by show (0:Int)<=1;omega⟩,u,by simp,⟨by simp,by simp⟩,t⟩
 exact h0.bF (by simp) ⟨b,by show x.aA.aA.aC<_;omega⟩
theorem fm.aD.bE {k:Nat}{x:RX}(h:x.r.aD k)(hk:k<=2^28):x.aP.r.aD (k+1):=by have h1:=h.aV hk;have h2:(({x with r:=x.r.aU}:RX).aC 0 []).r.aD (k+1):=fm.aD.aP (x:={x with r:=x.r.aU}) (kind:=0) (data:=[]) h1 hk ⟨λ_ h=>by simp at h,by simp⟩ ⟨by omega,by omega⟩;rw[Hi];show ((({x with r:=x.r.aU}:RX).aC 0 []).on).r.bz.aD (k+1);refine fm.aD.aN ?_;show ((({x with r:=x.r.aU}:RX).aC 0 []).aJ _).r.aD (k+1);rw[(nW _ _).1];exact h2
theorem RX.aA.aF {k j:Nat}{x:RX}(h:x.r.aD k)(hk:k<=2^28)(hj:x.aA j):x.aP.aA (j+22):=by have h1:=h.aV hk;have h2:(({x with r:=x.r.aU}:RX).aC 0 []).r.aD (k+1):=fm.aD.aP (x:={x with r:=x.r.aU}) (kind:=0) (data:=[]) h1 hk ⟨λ_ h=>by simp at h,by simp⟩ ⟨by omega,by omega⟩;have h3:(({x with r:=x.r.aU}:RX).aC 0 []).aA (j+1):=RX.aA.aD (x:={x with r:=x.r.aU}) hj 0 [];have h4:=h3.aE h2.aD.1;have e:x.aP.o=((({x with r:=x.r.aU}:RX).aC 0 []).aJ (({x with r:=x.r.aU}:RX).aC 0 []).r.aB).o:=rfl;unfold RX.aA at h4 ⊢;rw[e];exact⟨Vr h4.1 (by omega),Vr h4.2 (by omega)⟩
theorem mP {w:fO}{F:Nat->Prop}{h:eZ}{a:List AV}(hh:fu F h w.c a):a=w.aA:=by simp only[fO.c,fu,Rd]at hh;obtain⟨_,_,rfl,rfl,_,_,rfl,rfl,_,_,rfl,rfl,_,_,rfl,rfl,rfl⟩:=hh;rfl
def oB (P:Program)(f:FuncId):Prop:=fI P f=true/\∀(G:Nat->Prop)(h:eZ)(r:Nat)(x:fm)(gg ff:AV)(g:FuncId)(fs cs:List AV)(J:Nat->eZ->Prop),h[r]?=some (some (.aA 21 [x.aJ gg ff] false))->fI P g=true->x.aB.length<=2^20->J 0 h->
 (∀k h',J k h'->Rd G h' (ig x.aB) ff)->(∀k (hk:k<x.aB.length) h' H,J k h'->eY fj h' H->fy P g (fs++[.aE (x.aB[k]).aA]++cs) H λ_ h''=>J (k+1) h'')->
 fy P f [.aC r 21 0 0,.aM g fs cs] h λ_ h'=>J x.aB.length h'
theorem Nc {P:Program}{f:FuncId}(hf:Is P f BD):oB P f:=by
 refine⟨hf.2,λG h r x gg ff g fs cs J hr hg hl C hJ hB=>fN hf ?_⟩;have rr:=hr;simp only[fm.aJ]at rr;have lf:g_ ff=some (.aA .i64 x.aB.length):=by have:=(hJ 0 h C).aB;simpa [ig] using this
 simp only[BD,go_sem,rr,lf];obtain⟨I,hI⟩:∃I:Nat->fY->eZ->Prop,∀m L h',I m L h'↔∃i:Nat,lk 1 L=.aM g fs cs/\lk 9 L=ff/\lk 10 L=.aA .i64 x.aB.length/\lk 11 L=.aA .i64 i/\J i h'/\i<=x.aB.length/\m=x.aB.length-i:=⟨_,λ_ _ _=>Wu⟩;refine gJ I x.aB.length ((hI _ _ _).2 ⟨0,by simp[fi,ga],by simp[fi],by simp[fi],by simp[fi],C,by omega,by omega⟩) ?_;intro m L h' hh;obtain⟨i,k1,k9,u,b,t,hi,rfl⟩:=(hI _ _ _).1 hh;simp only[Gl,go_sem,u,b];refine gx (λci=>?_) (λci=>?_)
 ·simp at ci;have ci:i<x.aB.length:=by omega
  have ew:IntKind.i64.wrap ((i:Int)+1)=((i+1:Nat):Int):=by rw[fQ (by omega)];omega
  obtain⟨p,c,i1,i2,i3⟩:=Rd.aD (hJ i h' t) .i64 (i:=(i:Int)) (d:=x.aB[i].c) (by omega) (by rw[show ((i:Int)).toNat=i by omega,VE,Vi ci];rfl);obtain rfl:=mP i3;have ld:gX h' true 4 p=some (.aE x.aB[i].aA):=by rw[hP i2];rfl
  have hc:=hB i ci h';generalize x.aB[i]=w at *;simp only[fO.aA]at ld hc;simp only[go_sem,k1,k9,b,i1,ld];refine fq ⟨hg,hc _ t (eY.b1 _)⟩ ?_;intro _ h2 j2;simp only[go_sem,b,ew];exact⟨_,by omega,(hI _ _ _).2 ⟨i+1,by simp[fi,k1],by simp[fi,k9],by simp[fi,u],by simp[fi],j2,by omega,rfl⟩⟩
 ·simp at ci;have:i=x.aB.length:=by omega
  subst this;simp only[go_sem];exact t
theorem GM (x:RX)(l:List fO)(w:fO):x.aJ (l++[w])=(x.aJ l).to w:=by unfold RX.aJ;rw[List.foldl_append];rfl
theorem xd {P:Program}{fe ft:FuncId}(he:oB P fe)(ht:pA P ft){L:Nat->Nat}{h:eZ}{r o:Nat}{x:RX}{k j:Nat}(hx:gS L h r o x)(hf:x.r.aD k)(hk:k<=2^28)(hj:x.aA j)(hj2:j<=2^20):
  fy P fe [.aC r 21 0 0,.aM ft [.aE [.aC r 21 0 0,.aC o 5 0 0]] []] h λ_ h'=>fF wO fj L h r o x.on h':=by
 have t:=hf.aU hk;have hl:=hf.aD.1;have hp:=hf.aD.2;obtain⟨g,f,ra⟩:=hx.r;have row:=ra.aA;have fl:=e_.lt _ _ ra.fo;have jm:=hj.1;clear hf hj;obtain⟨J,hJ⟩:∃J:Nat->eZ->Prop,∀k h',J k h'↔fF wO fj L h r o (x.aJ (x.r.aB.take k)) h':=⟨_,λ_ _=>Wu⟩;have J0:J 0 h:=(hJ 0 h).2 hx.to;have J1:∀k h',J k h'->Rd (λm=>L m=2/\m<h.length) h' (ig x.r.aB) f:=by
  intro k h' hh;obtain⟨L1,x1,l1,e1⟩:=(hJ k h').1 hh;refine Rd.aC (λ_ y=>y) ?_ _ _ (e_.rd _ (λ_ y=>y) _ fl);intro m hm y hy;refine (e1.2 m hm.2 ?_).trans hy;rintro (z | z);·rw[hm.1]at z;unfold wO at z;omega
  ·exact z
 have J2:∀k (hk:k<x.r.aB.length) h' H,J k h'->eY fj h' H->fy P ft ([.aE [.aC r 21 0 0,.aC o 5 0 0]]++[.aE (x.r.aB[k]).aA]++[]) H λ_ h''=>J (k+1) h'':=by
  intro k hk h' H hh hX;have T:=(hJ k h').1 hh;have e:=nW (x.r.aB.take k) x;have ek:x.r.aB.take (k+1)=x.r.aB.take k++[x.r.aB[k]]:=Vv hk;have eJ:∀h'',J (k+1) h''↔fF wO fj L h r o ((x.aJ (x.r.aB.take k)).to x.r.aB[k]) h'':=λh''=>by rw[hJ,ek,GM]
  have tl:=Wn k x.r.aB;have wp:=(hp _ (VU hk)).aA;generalize x.r.aB[k]=w at *;generalize x.aJ (x.r.aB.take k)=y at *;have ey:y.r.aA=x.r.aA:=by rw[e.1]
  have em:=e.2.2;refine fy.aA (fF.aL (T.up hX) (λ_ _ z=>z) λL1 x1=>ht.2 L1 H r o y w x1 wp (by rw[ey];exact t) ?_) λv h'' b=>(eJ h'').2 b;have:y.o.aD.length+1<=2^21:=by omega
  exact Vr (Vx 168 this) (by decide)
 have:=he.2 (λm=>L m=2/\m<h.length) h r x.r g f ft [.aE [.aC r 21 0 0,.aC o 5 0 0]] [] J row ht.1 (by omega) J0 J1 J2;refine this.aA λv h' z=>?_;have z:=(hJ _ _).1 z;rw[VH]at z;exact z
def mJ (p:fO->Bool):List fO->Nat->Int
 | [],_=>-1
 | w :: l,k=>if p w then k else mJ p l (k+1)
theorem Cv {p:fO->Bool}:∀{l:List fO}{k:Nat},l.findIdx? p=none->mJ p l k=-1
 | [],_,_=>rfl
 | w :: l,k,h=>by
  rw[List.findIdx?_cons]at h;by_cases c:p w=true;·simp[c]at h
  ·rw[mJ,Ve c];simp only[c,VC,VO,Option.map_eq_none_iff]at h;exact Cv h
theorem Cw {p:fO->Bool}:∀{l:List fO}{k i:Nat},l.findIdx? p=some i->mJ p l k=((k+i:Nat):Int)/\i<l.length
 | [],_,_,h=>by simp at h
 | w :: l,k,i,h=>by
  rw[List.findIdx?_cons]at h;by_cases c:p w=true;·simp[c]at h;subst h;rw[mJ,Vf c];simp
  ·simp only[c,VC,VO,Vu]at h;obtain⟨j,hj,rfl⟩:=h;rw[mJ,Ve c];obtain⟨a,b⟩:=Cw (k:=k+1) hj;exact⟨by rw[a];congr 1;omega,by simp;omega⟩
def vO (P:Program)(f:FuncId):Prop:=fI P f=true/\∀(F:Nat->Prop)(h:eZ)(l:List fO)(a:AV)(g:FuncId)(fs cs:List AV)(p:fO->Bool),Rd F h (ig l) a->l.length<=2^40->fI P g=true->
 (∀w∈l,fy P g (fs++[.aE w.aA]++cs) h λr h'=>r=.aD (p w)/\h'=h)->fy P f [a,.aM g fs cs] h λr h'=>r=.aA .i64 (mJ p l 0)/\h'=h
theorem OR {P:Program}{f:FuncId}(hf:Is P f Ci):vO P f:=by
 refine⟨hf.2,λF h l a g fs cs p ha hl hi hg=>fN hf ?_⟩;have la:g_ a=some (.aA .i64 l.length):=by have:=ha.aB;simpa [ig] using this
 simp only[Ci,go_sem,la];obtain⟨I,hI⟩:∃I:Nat->fY->eZ->Prop,∀m L h',I m L h'↔∃i:Nat,lk 0 L=a/\lk 1 L=.aM g fs cs/\lk 7 L=.aA .i64 l.length/\lk 8 L=.aA .i64 i/\h'=h/\i<=l.length/\m=l.length-i/\mJ p (l.drop i) i=mJ p l 0:=⟨_,λ_ _ _=>Wu⟩;refine gJ I l.length ((hI _ _ _).2 ⟨0,by simp[fi,ga],by simp[fi,ga],by simp[fi],by simp[fi],rfl,by omega,by omega,by simp⟩) ?_;intro m L h' hh;obtain⟨i,k0,k1,k7,k8,rfl,hi2,rfl,hq⟩:=(hI _ _ _).1 hh;simp only[Gv,go_sem,k7,k8];refine gx (λci=>?_) (λci=>?_)
 ·simp at ci;have ew:IntKind.i64.wrap ((i:Int)+1)=((i+1:Nat):Int):=by rw[fQ (by omega)];omega
  obtain⟨q,c,i1,i2,i3⟩:=Rd.aD ha .i64 (i:=(i:Int)) (d:=l[i].c) (by omega) (by rw[show ((i:Int)).toNat=i by omega,VE,Vi ci];rfl);obtain rfl:=mP i3;have ld:gX h' true 4 q=some (.aE l[i].aA):=by rw[hP i2];rfl
  have hc:=hg _ (VU ci);rw[VY ci,mJ]at hq;generalize l[i]=w at *;simp only[fO.aA]at ld hc;simp only[go_sem,k0,k1,k8,i1,ld];refine fq ⟨hi,hc⟩ ?_;rintro _ _ ⟨rfl,rfl⟩;cases b:p w;·rw[b]at hq;simp only[go_sem,k8,ew];exact⟨_,by omega,(hI _ _ _).2 ⟨i+1,by simp[fi,k0],by simp[fi,k1],by simp[fi,k7],by simp[fi],rfl,by omega,rfl,by simpa using hq⟩⟩
  ·rw[b]at hq;simp only[go_sem];rw[<-hq];rfl
 ·simp at ci;obtain rfl:i=l.length:=by omega
  rw[Wq]at hq;simp only[go_sem];rw[<-hq];rfl
theorem PN {P:Program}{f:FuncId}(hf:Is P f wW){h:eZ}{q:AV}{n:Int}(hq:gX h false 1 q=some (.aA .i64 n))(t:∀b,gX (h++[b]) false 1 q=some (.aA .i64 n))(w:fO):
  fy P f [.aE w.aA,q] h λr h'=>r=.aD (decide (w.aB=n))/\h'=h:=by
 refine iF (kD _ _) (fN hf ?_);simp only[wW,fO.aA,go_sem,t];exact eY.b1 _
def tC (P:Program)(f:FuncId):Prop:=
 fI P f=true/\∀(h:eZ)(node last:Int),0<=last/\last<2^41->fy P f [.aA .i64 node,.aA .i64 last] h λr h'=>r=.aE (fO.mk node (last+1) 0 0).aA/\h'=h
theorem NC {P:Program}{f:FuncId}(hf:Is P f y7):tC P f:=by refine⟨hf.2,λh node last hl=>iF (ti _ _) (fN hf ?_)⟩;have e1:IntKind.i64.wrap (last+1)=last+1:=fQ (by omega);simp only[y7,go_sem,e1];exact⟨rfl,eY.b1 _⟩
theorem Ov {P:Program}{f:FuncId}(hf:Is P f Az):tC P f:=by refine⟨hf.2,λh node last hl=>iF (ti _ _) (fN hf ?_)⟩;have e1:IntKind.i64.wrap (last+1)=last+1:=fQ (by omega);simp only[Az,go_sem,e1];exact⟨rfl,eY.b1 _⟩
theorem Nz {was:List fO}{node last:Int}:(mJ (λw=>decide (w.aB=node)) was 0=-1/\jD was node last=⟨node,last+1,0,0⟩) \/
  ∃(i:Nat)(hi:i<was.length),mJ (λw=>decide (w.aB=node)) was 0=i/\jD was node last=was[i]:=by
 cases hf:was.findIdx? λw=>decide (w.aB=node) with
 | none=>
  refine .inl ⟨Cv hf,?_⟩;unfold jD;rw[List.findIdx?_eq_none_iff]at hf;have:was.find? (λw=>decide (w.aB=node))=none:=List.find?_eq_none.2 λw hw=>by simpa using hf w hw
  rw[this];rfl
 | some i=>
  obtain⟨a,hi⟩:=Cw (k:=0) hf;refine .inr ⟨i,hi,by rw[a];simp,?_⟩;rw[WS]at hf;obtain⟨h1,h2,h3⟩:=hf;unfold jD;have:was.find? (λw=>decide (w.aB=node))=some was[i]:=by rw[List.find?_eq_some_iff_getElem];exact⟨h2,i,h1,rfl,λj hj=>by simpa using h3 j hj⟩
  rw[this];rfl
theorem iJ.aD {lo:Nat}{h:eZ}{a:AV}{l:List fO}(ho:iJ lo h 4 a (l.map fO.aA)):e_ (ig l) (λm=>lo<=m) h a/\gq h a:=by
 have e:∀(F:Nat->Prop)(l:List fO),fP (l.map fO.c) F h (l.map fO.aA):=by
  intro F l;induction l with
  | nil=>simp only[Wg,fP]
  | cons w l ih=>simp only[VS,fP,fO.c,fO.aA,fW,e_];exact⟨_,_,rfl,⟨_,_,rfl,rfl,_,_,rfl,rfl,_,_,rfl,rfl,_,_,rfl,rfl,rfl⟩,ih⟩
 rcases ho with⟨rfl,h0⟩ | ⟨n,off,cap,row,g,rfl,h1,h2,h3,h4,h5,h6,h7⟩
 ·have:l=[]:=by simpa using h0
  subst this;exact⟨e_.aC 4,Vp⟩
 ·have hl:(l.map fO.aA).length=(l.map fO.c).length:=by simp
  refine⟨?_,⟨row,g,h2,h5,h6⟩⟩;simp only[ig,e_];rw[hl]at h3 h4 h7 ⊢;exact .inr (.inr ⟨n,off,cap,row,g,rfl,h1,h2,h3,h4,by rw[h7];exact e _ l⟩)
theorem iJ.aE {lo:Nat}{h h':eZ}{sz:Nat}{a:AV}{es:List (List AV)}(ho:iJ lo h sz a es)(hx:eY fj h h'):iJ lo h' sz a es:=by
 rcases ho with ho | ⟨n,off,cap,row,g,h1,h2,h3,h4⟩;·exact .inl ho
 ·exact .inr ⟨n,off,cap,row,g,h1,h2,hx.aA h3,h4⟩
theorem gS.aG {W Q L h h1 r o R R' out}{g f fv:AV}(hx:gS L h r o ⟨R,out⟩)(X:eY fj h h1) (row:h1[r]?=some (some (.aA 21 [R.aJ g f] false))) (e1:R'.aG=R.aG) (hW:W 6) (hg:∃f,mY L h r R g f)
  (ho:e_ (ig R'.aB) (λm=>h.length<=m) h1 fv) (hc:gq h1 fv):fF W Q L h r o ⟨R',out⟩ (h1.set r (some (.aA 21 [R'.aJ g fv] false))):=by
 obtain⟨-,⟨ma,ca,aa,oa⟩,lt⟩:=hx;obtain⟨f0,ra⟩:=hg;have lr:=(U_.1 ra.aA).1;have b:=(U_.1 row).1;have hl:=X.1;have ge:∀n,h.length<=n->L n=0:=λn hn=>Vm λz=>by have:=lt n z;omega
 have ne:∀m,m≠r->(h1.set r (some (.aA 21 [R'.aJ g fv] false)))[m]?=h1[m]?:=λm hm=>Vb (λe=>hm e.symm);have st:∀m,m<h.length->m≠r->(h1.set r (some (.aA 21 [R'.aJ g fv] false)))[m]?=h[m]?:=λm hm hr=>(ne m hr).trans (X.2 m hm (λy=>y));have old:∀{m},m<h.length->ky L fj h.length h1.length 2 m=L m:=fun {m} hm=>kX (.inr ⟨λy=>y,hm⟩);have nr:∀m,L m≠6->m≠r:=λm hm e=>hm (e▸ra.lr);refine⟨ky L fj h.length h1.length 2,⟨⟨g,fv,Vd b,?_,?_,?_,?_,(old lr).trans ra.lr⟩,⟨ma,ca,aa,oa.aB (λm hm _=>old hm) λm hm c=>st m hm (nr m (by omega))⟩,λm hm=>by rw[Vh];exact sX (λz=>by have:=lt m z;omega) hm⟩,λm hm _=>old hm,?_⟩;·rw[e1];exact e_.aB _ (λm hm=>(old hm.2).trans hm.1) (λm hm y hy=>(st m hm.2 (nr m (by omega))).trans hy) _ (e_.lt _ _ ra.go)
 ·exact ra.gc.aA (e_.lt _ _ ra.go) (λm hm y hy=>(st m hm.2 (nr m (by omega))).trans hy)
 ·exact e_.aB _ (λm hm=>sY (ge m hm.1) hm.2 (.inr hm.1)) (λm hm y hy=>(ne m (by omega)).trans hy) _ (e_.lt _ _ ho)
 ·exact hc.aA ho (λm hm y hy=>(ne m (by omega)).trans hy)
 ·exact (X.aB (eY.aG (F:=λm=>m=r) _ (λ_=>rfl)) (F'':=λm=>W (L m)\/Q m) (λ_ _ y=>y.elim) (λm _ y=>.inl (by rw[y,ra.lr];exact hW)))
def wg (P:Program)(f:FuncId):Prop:=fI P f=true/\∀(L:Nat->Nat)(h:eZ)(r o:Nat)(x:RX)(k:Nat)(last:Int),gS L h r o x->x.r.aD k->k<=2^28->0<=last/\last<2^41->
 fy P f [.aC r 21 0 0,.aA .i64 last] h λ_ h'=>fF wA fj L h r o ⟨x.r.bB x.r.aB last,x.o⟩ h'
theorem Sp {P:Program}{f f1 f2 f3 f4 f5:FuncId}(hf:Is P f (BG f1 f2 f3 f4 f5))(h1:px P f1)(h2:nL P f2 fG.aL)(h3:tC P f3)(h4:Is P f4 wW)(h5:vO P f5):wg P f:=by
 refine⟨hf.2,λL h r o x k last hx hfit hk hlast=>fN hf ?_⟩;obtain⟨R,out⟩:=x;simp only at hfit;have lt:=hx.lt;obtain⟨g,ff,ra⟩:=id hx.r;have nowc:=h1.2 h r R hx.aA (hfit.aI hk);have hnow:=hfit.aM;have hfl:=hfit.aD.1;have rr:=ra.aA;have lr:=(U_.1 rr).1;have rdf:=e_.rd _ (F':=λm=>L m=2/\m<h.length) (λ_ y=>y) _ (e_.lt _ _ ra.fo);have eR:∀l:List Int,(({R with aB:=(l.filter λn=>!decide (n=R.id)).map λn=>jD R.aB n last}:fm))={R with aB:=(l.filter λn=>!decide (n=R.id)).map λn=>jD R.aB n last}:=λ_=>rfl;have em:(R.bB R.aB last)={R with aB:=(R.aE.aL.filter λn=>!decide (n=R.id)).map λn=>jD R.aB n last}:=rfl;simp only[em];have mlen:=CM hnow;simp only[BG,go_sem];refine fR h1.1 nowc ?_;simp only[go_sem];refine fq ⟨h2.1,h2.2 fj h R.aE _ (sR fj h R.aE) ((kP hnow).le (by decide))⟩ ?_;rintro w H ⟨ow,hX⟩;have lw:g_ w=some (.aA .i64 R.aE.aL.length):=(e_.rd _ (F':=λ_=>True) (λ_ _=>Vp) _ ow).aE;generalize R.aE.aL=ms at *;simp only[go_sem,lw];obtain⟨Fl,hFl⟩:∃Fl:Int->fO,Fl=λn=>jD R.aB n last:=⟨_,rfl⟩;obtain⟨I,hI⟩:∃I:Nat->fY->eZ->Prop,∀m L' h',I m L' h'↔∃(i:Nat)(a:AV),lk 0 L'=.aC r 21 0 0/\lk 1 L'=.aA .i64 last/\lk 4 L'=a/\lk 11 L'=w/\lk 12 L'=.aA .i64 ms.length/\lk 13 L'=.aA .i64 i /\
   iJ H.length h' 4 a ((((ms.take i).filter λn=>!decide (n=R.id)).map Fl).map fO.aA)/\eY fj H h'/\i<=ms.length/\m=ms.length-i:=⟨_,λ_ _ _=>Wu⟩
 refine gJ I ms.length ((hI _ _ _).2 ⟨0,.aB,by simp[fi,ga],by simp[fi,ga],by simp[fi],by simp[fi],by simp[fi],by simp[fi],.inl ⟨rfl,by simp⟩,eY.aC _ _,by omega,by omega⟩) ?_;intro m L' h' hh;obtain⟨i,a,k0,k1,k4,k11,k12,k13,oo,X2,hi,rfl⟩:=(hI _ _ _).1 hh;simp only[Gm,go_sem,k12,k13];have X3:=hX.tr X2;have row3:=X3.aA rr;simp only[fm.aJ]at row3;refine gx (λci=>?_) (λci=>?_)
 ·simp at ci;have ci:i<ms.length:=by omega
  obtain⟨p,hp,hv'⟩:=(e_.rd _ (F':=λ_=>True) (λ_ _=>Vp) _ (e_.aB _ (λ_ x=>x) (λm hm y hy=>by rw[X2.2 m hm.2 (by simp[fj])];exact hy) _ (e_.lt _ _ ow))).aF (i:=i) ci;have ew:IntKind.i64.wrap ((i:Int)+1)=((i+1:Nat):Int):=by rw[fQ (by omega)];omega
  have tk:ms.take (i+1)=ms.take i++[ms[i]]:=Vv ci;simp only[go_sem,k0,k11,k13,hp,hv'];have row4:∀b,(h'++[b])[r]?=_:=λb=>(eY.b1 b).aA row3;have row5:∀b c,(h'++[b]++[c])[r]?=_:=λb c=>(eY.b2 b c).aA row3;generalize ms[i]=n at *;by_cases c0:n=R.id;·simp only[go_sem,k0,k4,k13,row4,Vc c0,ew];refine⟨_,by omega,(hI _ _ _).2 ⟨i+1,a,by simp[fi,k0],by simp[fi,k1],by simp[fi,k4],by simp[fi,k11],by simp[fi,k12],by simp[fi],?_,X2.tr (eY.b1 _),ci,rfl⟩⟩;rw[tk,Wt];simpa [c0] using oo.aE (eY.b1 (some (fh.aA 1 [[.aA .i64 n]] false)))
  ·simp only[go_sem,k1,row4,Va c0];refine fR h3.1 (h3.2 _ n last hlast) ?_;simp only[go_sem,fO.aA,row5,k0];have B6:∀b,(h'++[some (fh.aA 1 [[.aA .i64 n]] false)]++[b])[h'.length]?=some (some (fh.aA 1 [[.aA .i64 n]] false)):=λb=>iE _ _ _;have B6':∀b c,(h'++[some (fh.aA 1 [[.aA .i64 n]] false)]++[b]++[c])[h'.length]?=some (some (fh.aA 1 [[.aA .i64 n]] false)):=λb c=>oS _ _ _ _;have rd5:∀b c,Rd (λm=>L m=2/\m<h.length) (h'++[b]++[c]) (ig R.aB) ff:=λb c=>Rd.aC (λ_ y=>y) (λm hm y hy=>(X3.tr (eY.b2 b c)).aA hy) _ _ rdf;refine fR h5.1 (h5.2 _ _ R.aB ff f4 [] [.aC h'.length 1 0 0] (λw=>decide (w.aB=n)) (rd5 _ _) (by omega) h4.2 (λw _=>PN h4 (by simp only[go_sem,B6]) (λb=>by simp only[go_sem,B6']) w)) ?_;have eFl:Fl n=jD R.aB n last:=by rw[hFl]
   have lft:(((ms.take i).filter λn=>!decide (n=R.id)).map Fl).length<=21:=by have:=We (λn=>!decide (n=R.id)) (ms.take i);have:=Wn i ms;simp only[Vo];omega
   have fin:∀(w:fO)(h3:eZ),eY fj h' h3->jD R.aB n last=w->∃a2 h4,iL (h3++[some (.aA 4 [w.aA] false)]) 4 32 a [w.aA]=some (a2,h4)/\iJ H.length h4 4 a2 ((((ms.take (i+1)).filter λn=>!decide (n=R.id)).map Fl).map fO.aA)/\eY fj H h4:=by intro w h3 hx3 ew2;obtain⟨o2,h4,s1,s2,s3⟩:=wD (bytes:=32) (h:=h3++[some (.aA 4 [w.aA] false)]) (ys:=[w.aA]) oo (hx3.tr (eY.b1 _)) X2.1 (by simp only[Vo]at lft ⊢;simp only[VD,VN];omega);refine⟨o2,h4,s1,?_,((X2.tr hx3).tr (eY.b1 _)).aI s3 (λm hm hm'=>by omega)⟩;rw[tk,Wt,VI,VI];simpa [c0,eFl,ew2] using s2
   rcases Nz (was:=R.aB) (node:=n) (last:=last) with⟨e1,e2⟩ | ⟨j,hj,e1,e2⟩
   ·rw[e1];have z0:¬(0:Int)<=-1:=by omega
    obtain⟨a2,h4,s1,s2,s3⟩:=fin _ (h'++[some (fh.aA 1 [[.aA .i64 n]] false)]++[some (fh.aA 4 [[.aA .i64 n,.aA .i64 (last+1),.aA .i64 0,.aA .i64 0]] false)]) (eY.b2 _ _) e2;rw[<-ic (jn _ 4 [_] false (some 1) (len:=1) rfl)]at s1;simp only[fO.aA,Vj,VD,VN]at s1;simp only[go_sem,k4,k13,Va z0,Vj,VD,VN,s1,ew];exact⟨_,by omega,(hI _ _ _).2 ⟨i+1,a2,by simp[fi,k0],by simp[fi,k1],by simp[fi],by simp[fi,k11],by simp[fi,k12],by simp[fi],s2,s3,ci,rfl⟩⟩
   ·rw[e1];have z0:(0:Int)<=j:=by omega
    obtain⟨q,c,i1,i2,i3⟩:=Rd.aD (rd5 (some (fh.aA 1 [[.aA .i64 n]] false)) (some (fh.aA 4 [[.aA .i64 n,.aA .i64 (last+1),.aA .i64 0,.aA .i64 0]] false))) .i64 (i:=(j:Int)) (d:=R.aB[j].c) (by omega) (by rw[show ((j:Int)).toNat=j by omega,VE,Vi hj];rfl);obtain rfl:=mP i3;have ld:gX (h'++[some (fh.aA 1 [[.aA .i64 n]] false)]++[some (fh.aA 4 [[.aA .i64 n,.aA .i64 (last+1),.aA .i64 0,.aA .i64 0]] false)]) true 4 q=some (.aE R.aB[j].aA):=by rw[hP i2];rfl
    generalize R.aB[j]=w at *;obtain⟨a2,h4,s1,s2,s3⟩:=fin w (h'++[some (fh.aA 1 [[.aA .i64 n]] false)]++[some (fh.aA 4 [w.aA] false)]) (eY.b2 _ _) e2;rw[<-ic (jn _ 4 [_] false (some 1) (len:=1) rfl)]at s1;simp only[fO.aA,Vj,VD,VN,reduceAdd]at s1 ld;simp only[go_sem,k0,k4,k13,Vc z0,row5,i1,ld,Vj,VD,VN,s1,ew];exact⟨_,by omega,(hI _ _ _).2 ⟨i+1,a2,by simp[fi,k0],by simp[fi,k1],by simp[fi],by simp[fi,k11],by simp[fi,k12],by simp[fi],s2,s3,ci,rfl⟩⟩
 ·simp at ci;obtain rfl:i=ms.length:=by omega
  rw[VH]at oo;obtain⟨of,cf⟩:=oo.aD;have lr3:=(U_.1 row3).1;simp only[go_sem,k0,k4,row3,of.aA,gH of.aA];subst hFl;have ff2:(R.aJ g a)=[.aA .i64 R.id,.aA .i64 R.aA.aD,.aA .i64 R.aA.aB,.aA .i64 R.aA.aE,.aA .i64 R.aA.aA.aA,.aA .i64 R.aA.aA.aB,iD R.aA.aA.es,fA R.aA.aC.aA,fA R.aA.aC.aB,fA R.aA.aC.aC,gV R.aA.aF,
   .aA .i64 R.aI,.aA .i64 R.aO,.aA .i64 R.aM,.aA .i64 R.aW,.aA .i64 R.aF,.aA .i64 R.aT,g,a,.aA .i64 R.aL,.aA .i64 R.aN]:=rfl
  have hl:=hX.1;exact gS.aG (R':={R with aB:=(ms.filter λn=>!decide (n=R.id)).map λn=>jD R.aB n last}) hx X3 row3 rfl (by unfold wA;omega) ⟨ff,ra⟩ (e_.aB _ (λm hm=>by omega) (λ_ _ _ y=>y) _ of) cf
theorem NJ (dep:Nat->Nat->Bool)(lo i:Nat)(l:List (Nat×Nat×fh))(h:eZ):
  lT dep lo 4 i l h=(((((l.any λx=>dep i x.1 && x.2.1 == lo) || kK h[lo]?) && ((l.any λx=>dep i x.1 && x.2.1 == lo+1) || kK h[lo+1]?)) && ((l.any λx=>dep i x.1 && x.2.1 == lo+1+1) || kK h[lo+1+1]?)) && ((l.any λx=>dep i x.1 && x.2.1 == lo+1+1+1) || kK h[lo+1+1+1]?)):=by
 simp[lT,List.range_succ,Bool.and_assoc,Ws]
attribute [go_sem] NJ
theorem tY {h j:eZ}(i:Nat):(h++j)[h.length+i]?=j[i]?:=by rw[VQ (by omega)];congr 1;omega
structure qx (lo n2 n3:Nat)(h:eZ)(l2 l3:List Int):Prop where
 ex:∃(a b:AV)(A B:Nat->Prop),h[n2]?=some (some (.aA 1 [[a]] false))/\h[n3]?=some (some (.aA 1 [[b]] false))/\(∀m,A m->lo<=m/\m≠n2/\m≠n3/\¬B m)/\(∀m,B m->lo<=m/\m≠n2/\m≠n3) /\
  e_ (fK l2) A h a/\gq h a/\e_ (fK l3) B h b/\gq h b
 lt:n2<h.length/\n3<h.length/\lo<=n2/\lo<=n3/\n2≠n3
theorem Tn {P:Program}{f:FuncId}(hf:Is P f wY){lo n2 n3:Nat}{h:eZ}{l2 l3:List Int}(hh:qx lo n2 n3 h l2 l3)(hl:l2.length<=2^20/\l3.length<=2^20)(w:fO):
  fy P f [.aE w.aA,.aC n2 1 0 0,.aC n3 1 0 0] h λ_ h'=>qx lo n2 n3 h' (l2++[w.aB]) (l3++[w.aC])/\eY (λm=>lo<=m) h h':=by
 refine fN hf ?_;obtain⟨a,b,A,B,e2,e3,hA,hB,oa,ca,ob,cb⟩:=hh.ex;obtain⟨lt2,lt3,a9,a8,ne⟩:=hh.lt;have E2:∀x,(h++[x])[n2]?=_:=λx=>(eY.b1 x).aA e2;have E3:∀x,(h++[x])[n3]?=_:=λx=>(eY.b1 x).aA e3;have aj:∀x y z,(h++[x]++[y]++[z])[n2]?=_:=λx y z=>(eY.b3 x y z).aA e2;have ai:∀x y z,(h++[x]++[y]++[z])[n3]?=_:=λx y z=>(eY.b3 x y z).aA e3;have N2:∀n,gN (h.length+1) n (.aC n2 1 0 0)=true:=λn=>iv (by omega);have N3:∀n,gN (h.length+1) n (.aC n3 1 0 0)=true:=λn=>iv (by omega);have sa:=oa.aA;have sb:=ob.aA;simp only[wY,fO.aA,go_sem,aj,ai,N2,N3,iN];obtain⟨H4,E⟩:∃H4,H4=h++[some (fh.aA 4 [[.aA .i64 w.aB,.aA .i64 w.aD,.aA .i64 w.aC,.aA .i64 w.aF]] false)]++[some (fh.aA 1 [[.aA .i64 w.aB]] false)]++[none]:=⟨_,rfl⟩;have X4:eY fj h H4:=by rw[E];exact eY.b3 _ _ _
 have l4:H4.length=h.length+3:=by rw[E];simp
 have c0:H4[h.length]?=some (some (fh.aA 4 [[.aA .i64 w.aB,.aA .i64 w.aD,.aA .i64 w.aC,.aA .i64 w.aF]] false)):=by rw[E];exact oS _ _ _ _
 have c1:H4[h.length+1]?=some (some (fh.aA 1 [[.aA .i64 w.aB]] false)):=by rw[E];exact pG _ _ _ _
 have c2:H4[h.length+1+1]?=some none:=by rw[E];exact rT _ _ _ _
 have a6:e_ (fK l2) (λm=>(A m/\m<h.length)\/H4.length<=m) H4 a:=e_.aB _ (λm hm=>.inl hm) (λm hm y hy=>X4.aA hy) _ (e_.lt _ _ oa);have ad:gq H4 a:=ca.aA oa (λm hm y hy=>X4.aA hy);obtain⟨a',h',s1,s2,s3,s4⟩:=sP (bytes:=8) (es:=[[.aA .i64 w.aB]]) (ys:=[[.aA .i64 w.aB]]) a6 ad (eY.aC _ _) (by simp[fP,fW,e_]) (λm hm=>.inr hm) (by simp;omega);have ae:iV H4 1 (.aF (h.length+1) 1 0 1 (some 1))=some [[.aA .i64 w.aB]]:=by simp[iV,c1,go_sem,reduceIte]
 rw[<-ic ae]at s1;rw[<-E,s1];have kk:∀m,m<H4.length->¬(A m/\m<h.length)->h'[m]?=H4[m]?:=λm hm hn=>s4.2 m hm (λz=>by rcases z with z | z;exact hn z;omega);have K0:=(kk h.length (by omega) (by omega)).trans c0;have K1:=(kk (h.length+1) (by omega) (by omega)).trans c1;have K2:=(kk (h.length+1+1) (by omega) (by omega)).trans c2;have a4:=(kk n2 (by omega) (λz=>(hA n2 z.1).2.1 rfl)).trans (X4.aA e2);have a3:=(kk n3 (by omega) (λz=>(hA n3 z.1).2.2.1 rfl)).trans (X4.aA e3);have l':=s4.1;have q0:(h.length+1+1=h.length)=False:=Vs (by omega);have q1:(h.length+1+1=n2)=False:=Vs (by omega);have q2:(h.length+1+1=n3)=False:=Vs (by omega);have ab:h.length+1+1<h'.length:=by omega
 simp only[go_sem,iN,Cx,WD,K0,K1,K2,a4,a3,q0,q1,q2];obtain⟨H5,M⟩:∃H5,H5=h'.set (h.length+1+1) (some (fh.aA 1 [[.aA .i64 w.aC]] false)):=⟨_,rfl⟩;have l5:H5.length=h'.length:=by rw[M,Vh]
 have k5:∀m,m≠h.length+1+1->H5[m]?=h'[m]?:=λm hm=>by rw[M];exact Vb (λe=>hm e.symm)
 have d2:H5[h.length+1+1]?=some (some (fh.aA 1 [[.aA .i64 w.aC]] false)):=by rw[M];exact Vd ab
 have t:gz (λm=>B m/\m<h.length) h H5:=λm hm y hy=>(k5 m (by omega)).trans ((kk m (by omega) (λz=>(hA m z.1).2.2.2 hm.1)).trans (X4.aA hy));have a5:e_ (fK l3) (λm=>(B m/\m<h.length)\/H5.length<=m) H5 b:=e_.aB _ (λm hm=>.inl hm) t _ (e_.lt _ _ ob);have ac:gq H5 b:=cb.aA (e_.lt _ _ ob) t;obtain⟨b',h6,t1,t2,t3,t4⟩:=sP (bytes:=8) (es:=[[.aA .i64 w.aC]]) (ys:=[[.aA .i64 w.aC]]) a5 ac (eY.aC _ _) (by simp[fP,fW,e_]) (λm hm=>.inr hm) (by simp;omega);have af:iV H5 1 (.aF (h.length+1+1) 1 0 1 (some 1))=some [[.aA .i64 w.aC]]:=by simp[iV,d2,go_sem,reduceIte]
 rw[<-ic af]at t1;rw[<-M,t1];have u:∀m,m<H5.length->¬(B m/\m<h.length)->h6[m]?=H5[m]?:=λm hm hn=>t4.2 m hm (λz=>by rcases z with z | z;exact hn z;omega);have L0:=(u h.length (by omega) (by omega)).trans ((k5 _ (by omega)).trans K0);have L1:=(u (h.length+1) (by omega) (by omega)).trans ((k5 _ (by omega)).trans K1);have L2:=(u (h.length+1+1) (by omega) (by omega)).trans d2;have ah:=(u n2 (by omega) (λz=>(hB n2 z.1).2.1 rfl)).trans ((k5 _ (by omega)).trans a4);have ag:=(u n3 (by omega) (λz=>(hB n3 z.1).2.2 rfl)).trans ((k5 _ (by omega)).trans a3);have l6:=t4.1;have a0:=s2.aA;have W:=t2.aA;have a7:(n2=n3)=False:=Vs ne;have O:(n3=n2)=False:=Vs (λe=>ne e.symm);have a2:n2<h6.length:=by omega
 have l63:n3<h6.length:=by omega
 have p0:(n2=h.length+1)=False:=Vs (by omega);have p1:(n2=h.length+1+1)=False:=Vs (by omega);have p2:(n3=h.length+1)=False:=Vs (by omega);have p3:(n3=h.length+1+1)=False:=Vs (by omega);simp only[go_sem,iN,Cx,WD,L0,L1,L2,ah,ag,a7,O,a0,W,gH a0,gH W,a2,p0,p1,p2,p3,W5,W9,Xp,Xf];have k7:∀m,m≠n2->m≠n3->((h6.set n2 (some (fh.aA 1 [[a']] false))).set n3 (some (fh.aA 1 [[b']] false)))[m]?=h6[m]?:=λm z2 z3=>(Vb (λe=>z3 e.symm)).trans (Vb (λe=>z2 e.symm));have e4:fK (l2++[w.aB])=.sl 1 (l2.map (λn=>[D.aA .i64 n])++[[.aA .i64 w.aB]]):=by simp[fK]
 have e5:fK (l3++[w.aC])=.sl 1 (l3.map (λn=>[D.aA .i64 n])++[[.aA .i64 w.aC]]):=by simp[fK]
 have kA:gz (λm=>((A m/\m<h.length)\/H4.length<=m)/\m<h'.length) h' ((h6.set n2 (some (fh.aA 1 [[a']] false))).set n3 (some (fh.aA 1 [[b']] false))):=by
  rintro m ⟨hm,hlt⟩ y hy;have C:m≠n2/\m≠n3/\m≠h.length+1+1/\¬(B m/\m<h.length):=by
   rcases hm with⟨z,z'⟩ | z;·have:=hA m z;exact⟨this.2.1,this.2.2.1,by omega,λq=>this.2.2.2 q.1⟩
   ·exact⟨by omega,by omega,by omega,λq=>by omega⟩
  exact (k7 m C.1 C.2.1).trans ((u m (by omega) C.2.2.2).trans ((k5 m C.2.2.1).trans hy))
 have kB:gz (λm=>((B m/\m<h.length)\/H5.length<=m)/\m<h6.length) h6 ((h6.set n2 (some (fh.aA 1 [[a']] false))).set n3 (some (fh.aA 1 [[b']] false))):=by
  rintro m ⟨hm,hlt⟩ y hy;have C:m≠n2/\m≠n3:=by
   rcases hm with⟨z,z'⟩ | z;·exact (hB m z).2
   ·exact⟨by omega,by omega⟩
  exact (k7 m C.1 C.2).trans hy
 have a1:=e_.lt _ _ s2;have U:=e_.lt _ _ t2;refine⟨⟨⟨a',b',λm=>((A m/\m<h.length)\/H4.length<=m)/\m<h'.length,λm=>((B m/\m<h.length)\/H5.length<=m)/\m<h6.length,?_,?_,?_,?_,?_,?_,?_,?_⟩,⟨by simp;omega,by simp;omega,a9,a8,ne⟩⟩,?_⟩;·rw[Vb (λe=>ne e.symm),Vd a2]
 ·rw[Vd (by simp;omega)]
 ·rintro m ⟨hm,hlt⟩;rcases hm with⟨z,z'⟩ | z;·have:=hA m z;exact⟨this.1,this.2.1,this.2.2.1,λq=>by rcases q.1 with q | q;exact this.2.2.2 q.1;omega⟩
  ·exact⟨by omega,by omega,by omega,λq=>by rcases q.1 with q | q<;>omega⟩
 ·rintro m ⟨hm,hlt⟩;rcases hm with⟨z,z'⟩ | z;·exact hB m z
  ·exact⟨by omega,by omega,by omega⟩
 ·rw[e4];exact e_.aB _ (λm hm=>hm) kA _ a1
 ·exact s3.aA a1 kA
 ·rw[e5];exact e_.aB _ (λm hm=>hm) kB _ U
 ·exact t3.aA U kB
 ·refine⟨by simp;omega,λm hm I=>?_⟩;have nA:¬(A m/\m<h.length):=λz=>I (hA m z.1).1;have nB:¬(B m/\m<h.length):=λz=>I (hB m z.1).1;exact (k7 m (λe=>I (by omega)) (λe=>I (by omega))).trans ((u m (by omega) nB).trans ((k5 m (by omega)).trans ((kk m (by omega) nA).trans (X4.2 m hm (λy=>y)))))
theorem qx.up {lo n2 n3:Nat}{h h':eZ}{l2 l3:List Int}(hh:qx lo n2 n3 h l2 l3)(hx:eY fj h h'):qx lo n2 n3 h' l2 l3:=by obtain⟨⟨a,b,A,B,e2,e3,hA,hB,oa,ca,ob,cb⟩,lt2,lt3,u,t,ne⟩:=hh;have kA:∀F,gz F h h':=λF m hm y hy=>hx.aA hy;exact⟨⟨a,b,A,B,hx.aA e2,hx.aA e3,hA,hB,e_.aB _ (λ_ y=>y) (kA _) _ oa,ca.aA oa (kA _),e_.aB _ (λ_ y=>y) (kA _) _ ob,cb.aA ob (kA _)⟩,by have:=hx.1;omega,by have:=hx.1;omega,u,t,ne⟩
def tN (P:Program)(f:FuncId):Prop:=fI P f=true/\∀(L:Nat->Nat)(h:eZ)(r o:Nat)(x:RX)(k:Nat),gS L h r o x->x.r.aD k->k<=2^28->
 fy P f [.aE [.aC r 21 0 0,.aC o 5 0 0]] h λ_ h'=>fF wA fj L h r o x.aI h'
theorem SD {P:Program}{f f1 f2 f3 f4 f5 f6:FuncId}(hf:Is P f (BP f1 f2 f3 f4 f5 f6))(h1:oJ P f1)(h2:Is P f2 wY)(h3:oB P f3)(h4:px P f4)(h5:qX P f5)(u6:jP P f6):tN P f:=by
 refine⟨hf.2,λL h r o x k hx u hk=>fN hf ?_⟩;obtain⟨R,out⟩:=x;simp only at u;have lt:=hx.lt;obtain⟨g,ff,ra⟩:=id hx.r;obtain⟨ma,ca,aa,oa⟩:=id hx.o;have rr:=ra.aA;have lr:=(U_.1 rr).1;have U:=e_.rd _ (F':=λm=>L m=2/\m<h.length) (λ_ y=>y) _ (e_.lt _ _ ra.fo);have hfl:=u.aD.1;simp only[fm.aJ]at rr;have R1:∀a,(h++[a])[r]?=_:=λa=>(eY.b1 a).aA rr;have B1:=gh h (some (fh.aA 2 [[.aC r 21 0 0,.aC o 5 0 0]] false));have R5:∀a b c d e,(h++[a]++[b]++[c]++[d]++[e])[r]?=_:=λa b c d e=>((eY.b4 a b c d).tr (eY.b1 e)).aA rr;have NR:∀sz i o',gN (h.length+1) 4 (.aC r sz i o')=true:=λsz i o'=>iv (by omega);have NB:∀sz i o',gN (h.length+1) 4 (.aC h.length sz i o')=true:=λsz i o'=>iv (by omega);have O:∀a b c d e,nP (h++[a]++[b]++[c]++[d]++[e]) r R:=λa b c d e=>⟨g,ff,R5 a b c d e⟩;have a3:h.length+1+3=h.length+1+1+1+1:=rfl;have a2:h.length+1+2=h.length+1+1+1:=rfl;simp only[BP,go_sem,iN,R5,NR,NB,a2,a3];refine fR h1.1 (h1.2 _ r R (O _ _ _ _ _) (u.aB hk)) ?_;simp only[go_sem,iN,R5,a2];obtain⟨H5,E⟩:∃H5,H5=h++[some (fh.aA 2 [[.aC r 21 0 0,.aC o 5 0 0]] false)]++[some (fh.aA 1 [[.aA .i64 R.id]] false)]++[some (fh.aA 1 [[.aA .i64 R.aK]] false)]++[some (fh.aA 1 [[.aF (h.length+1) 1 0 1 (some 1)]] false)]++[some (fh.aA 1 [[.aF (h.length+1+1) 1 0 1 (some 1)]] false)]:=⟨_,rfl⟩;have X5:eY fj h H5:=by rw[E];exact (eY.b4 _ _ _ _).tr (eY.b1 _)
 have l5:H5.length=h.length+5:=by rw[E];simp
 have C:H5=h++[some (fh.aA 2 [[.aC r 21 0 0,.aC o 5 0 0]] false),some (fh.aA 1 [[.aA .i64 R.id]] false),some (fh.aA 1 [[.aA .i64 R.aK]] false),some (fh.aA 1 [[.aF (h.length+1) 1 0 1 (some 1)]] false),some (fh.aA 1 [[.aF (h.length+1+1) 1 0 1 (some 1)]] false)]:=by rw[E];simp
 have C0:H5[h.length]?=some (some (fh.aA 2 [[.aC r 21 0 0,.aC o 5 0 0]] false)):=by rw[C];exact tY 0
 have C1:H5[h.length+1]?=some (some (fh.aA 1 [[.aA .i64 R.id]] false)):=by rw[C];exact tY 1
 have C2:H5[h.length+1+1]?=some (some (fh.aA 1 [[.aA .i64 R.aK]] false)):=by rw[C];exact tY 2
 have C3:H5[h.length+1+1+1]?=some (some (fh.aA 1 [[.aF (h.length+1) 1 0 1 (some 1)]] false)):=by rw[C];exact tY 3
 have C4:H5[h.length+1+1+1+1]?=some (some (fh.aA 1 [[.aF (h.length+1+1) 1 0 1 (some 1)]] false)):=by rw[C];exact tY 4
 clear C;rw[<-E];clear E;have T0:qx (h.length+1) (h.length+1+1+1) (h.length+1+1+1+1) H5 [R.id] [R.aK]:=by
  refine⟨⟨_,_,λm=>m=h.length+1,λm=>m=h.length+1+1,C3,C4,λm hm=>⟨by omega,by omega,by omega,by omega⟩,λm hm=>⟨by omega,by omega,by omega⟩,?_,⟨_,_,C1,(λe=>by cases e),(λc hc=>by cases hc;simp)⟩,?_,⟨_,_,C2,(λe=>by cases e),(λc hc=>by cases hc;simp)⟩⟩,by omega,by omega,by omega,by omega,by omega⟩;·exact .inr (.inr ⟨_,0,some 1,_,_,rfl,rfl,C1,by simp,(λc hc=>by cases hc;simp),by simp[fP,fW,e_]⟩)
  ·exact .inr (.inr ⟨_,0,some 1,_,_,rfl,rfl,C2,by simp,(λc hc=>by cases hc;simp),by simp[fP,fW,e_]⟩)
 obtain⟨J,hJ⟩:∃J:Nat->eZ->Prop,∀k h',J k h'↔qx (h.length+1) (h.length+1+1+1) (h.length+1+1+1+1) h' (R.id :: (R.aB.take k).map fO.aB) (R.aK :: (R.aB.take k).map fO.aC)/\eY (λm=>h.length+1<=m) H5 h':=⟨_,λ_ _=>Wu⟩;have J1:∀k h',J k h'->Rd (λm=>L m=2/\m<h.length) h' (ig R.aB) ff:=by intro k h' hh;obtain⟨-,e⟩:=(hJ k h').1 hh;exact Rd.aC (λ_ y=>y) (λm hm y hy=>(e.2 m (by omega) (by omega)).trans (X5.aA hy)) _ _ U
 have J2:∀k (hk:k<R.aB.length) h' H,J k h'->eY fj h' H->fy P f2 ([]++[.aE (R.aB[k]).aA]++[.aC (h.length+1+1+1) 1 0 0,.aC (h.length+1+1+1+1) 1 0 0]) H λ_ h''=>J (k+1) h'':=by intro k hk h' H hh hX;obtain⟨t,e⟩:=(hJ k h').1 hh;have ek:R.aB.take (k+1)=R.aB.take k++[R.aB[k]]:=Vv hk;have tl:=Wn k R.aB;refine (Tn h2 (t.up hX) ⟨by simp;omega,by simp;omega⟩ R.aB[k]).aA λv h'' z=>(hJ _ _).2 ?_;rw[ek];refine⟨by rw[VI,VI];exact z.1,(e.aB (hX.aB z.2 (F'':=λm=>h.length+1<=m) (λ_ _ y=>y.elim) (λ_ _ y=>y)) (λ_ _ y=>y) (λ_ _ y=>y))⟩
 refine fq ⟨h3.1,h3.2 (λm=>L m=2/\m<h.length) H5 r R g ff f2 [] [.aC (h.length+1+1+1) 1 0 0,.aC (h.length+1+1+1+1) 1 0 0] J (X5.aA ra.aA) h2.2 (by omega) ((hJ _ _).2 ⟨by simpa using T0,eY.aC _ _⟩) J1 J2⟩ ?_;rintro _ h6 hh;obtain⟨t6,e6⟩:=(hJ _ _).1 hh;rw[VH]at t6;obtain⟨a,b,A,B,e2,e3,hA,hB,M,ca,ob,cb⟩:=t6.ex;have X6:eY fj h h6:=⟨by have:=X5.1;have:=e6.1;omega,λm hm _=>(e6.2 m (by omega) (by omega)).trans (X5.2 m hm (λy=>y))⟩;have r6:=X6.aA rr;have l6:=X6.1;have b6:=(e6.2 h.length (by omega) (by omega)).trans C0;have sa:=M.aA;have sb:=ob.aA;have a1:=e_.rd _ (F':=A) (λ_ y=>y) _ M;have W:=e_.rd _ (F':=B) (λ_ y=>y) _ ob;simp only[go_sem,b6,e2,e3];refine fR h4.1 (h4.2 h6 r R ⟨g,ff,r6⟩ (u.aI hk)) ?_;simp only[go_sem,b6,e2,e3];refine fR h5.1 (h5.2 fj A B h6 R.aE _ _ _ _ _ (sR fj h6 R.aE) a1 W (u.aG (by decide)) (by simp;omega) (by simp;omega)) ?_;simp only[go_sem,b6,r6,e2,e3];refine fR u6.1 (u6.2 fj h6 R.aA.aA _ _ (lY R.aA.aA h6) (u.aB hk)) ?_;have eS:R.aE.aO (R.id :: R.aB.map fO.aB) (R.aK :: R.aB.map fO.aC)=R.bE:=rfl;rw[eS];have I:=hx.up X6;have lr6:=(U_.1 r6).1;have no:R.bz=R->fF wA fj L h r o (({r:=R,o:=out}:RX).aI) h6:=λe=>by
  have:(({r:=R,o:=out}:RX).aI)=⟨R,out⟩:=by show (⟨R.bz,out⟩:RX)=_;rw[e]
  rw[this];exact fF.aB X6 I.to
 simp only[go_sem,b6,r6];by_cases c1:R.aI<R.bE
 ·cases c2:R.aA.aA.aD R.bE;·simp only[go_sem,Vc c1];exact no (by unfold fm.bz;rw[Ve (by simp[c2])])
  ·by_cases c3:R.aA.aA.aG R.bE=R.aA.aB
   ·simp only[go_sem,b6,r6,Vc c1,Vc c3];obtain⟨g6,f6,ra6⟩:=I.r;obtain⟨ma6,ca6,aa6,a4⟩:=I.o;have e7:(({r:=R,o:=out}:RX).aI)=⟨{R with aI:=R.bE},out⟩:=by show (⟨R.bz,out⟩:RX)=_;unfold fm.bz;rw[Vf ⟨c1,c2,c3⟩]
    rw[e7];have a0:=(ra.aB (h':=h6) (λ_ _ _=>rfl) λm hm _=>X6.2 m hm (λy=>y));exact fF.aB X6 (gS.aC (R':={R with aI:=R.bE}) a0 a4 I.lt rfl rfl)
   ·simp only[go_sem,b6,r6,Vc c1,Va c3];exact no (by unfold fm.bz;rw[Ve (λz=>c3 z.2.2)])
 ·simp only[go_sem,Va c1];exact no (by unfold fm.bz;rw[Ve (λz=>c1 z.1)])
def xW (P:Program)(f:FuncId):Prop:=fI P f=true/\∀(F:Nat->Prop)(h:eZ)(l:fE)(a:List AV)(prev:Int)(e:List gj)(b:AV),fu F h l.c a->Rd F h (f_ e) b->jl l->iK e->
 fy P f [.aE a,.aA .i64 prev,b] h λr h'=>r=.aI [.aE (l.aF prev e).v,.aA .i64 (l.aI prev e)]/\h'=h
theorem ve.p {P:Program}{f:FuncId}(hc:ve P f):xW P f:=⟨hc.1,λF h l a prev e b ha hb hl he=>(hc.2 F h l a prev e b ha hb hl he).aB λ_ _ ⟨_,h1,h2,h3⟩=>⟨h3,_,h1▸gM.aC (gM.aA (fW.fz _ (λ_ x=>x) _ h2)) (gM.aB _ _),rfl⟩⟩
theorem iZ:¬wA 0:=λh=>h rfl
theorem fF.aA {W Q L h r o x h' m}{b:Option fh}(T:fF W Q L h r o x h')(h0:¬W (L m))(hq:¬Q m) (hb:h[m]?=some b):h'[m]?=some b:=by obtain⟨L1,x1,l1,e1⟩:=T;exact (e1.2 m (U_.1 hb).1 (λz=>z.elim h0 hq)).trans hb
theorem fF.aD {W Q L h r o x h'}(T:fF W Q L h r o x h'):nP h' r x.r:=let⟨_,x1,_⟩:=T;x1.aA
theorem gS.ge {L h r o x}(a:gS L h r o x){m:Nat}(hm:h.length<=m):L m=0:=Vm λz=>by have:=a.lt m z;omega
theorem fF.aM {P:Program}{f:FuncId}{t:List AV}{W Q Q' L h r o x h' h3 x'}{K:AV->Prop}(T:fF W Q L h r o x h')(hx:eY fj h' h3)(hQ:∀m,m<h.length->Q' m->Q m)
  (hc:∀L1,gS L1 h' r o x->fy P f t h3 λv h''=>K v/\fF W Q' L1 h3 r o x' h''):fy P f t h3 λv h''=>K v/\fF W Q L h r o x' h'':=by
 obtain⟨L1,x1,l1,e1⟩:=T;refine (hc L1 x1).aA ?_;rintro v h'' ⟨k,b⟩;exact⟨k,fF.aE l1 e1 hQ (fF.aB hx b)⟩
theorem fF.aC {P:Program}{f:FuncId}{t:List AV}{W Q Q' L h r o x h' h3 x'}(T:fF W Q L h r o x h')(hx:eY fj h' h3)(hQ:∀m,m<h.length->Q' m->Q m)
  (hc:∀L1,gS L1 h' r o x->fy P f t h3 λ_ h''=>fF W Q' L1 h3 r o x' h''):fy P f t h3 λ_ h''=>fF W Q L h r o x' h'':=
 (T.aM (K:=λ_=>True) hx hQ λL1 x1=>(hc L1 x1).aA λ_ _ b=>⟨Vp,b⟩).aA λ_ _ b=>b.2
theorem fF.aG {W Q L h r o R R' out h' g f}(T:fF W Q L h r o ⟨R,out⟩ h') (row:h'[r]?=some (some (.aA 21 [R.aJ g f] false))) (e1:R'.aG=R.aG) (e2:R'.aB=R.aB) (hW:∀k,k≠0->W k):
  fF W Q L h r o ⟨R',out⟩ (h'.set r (some (.aA 21 [R'.aJ g f] false))):=by
 obtain⟨L1,x1,l1,b⟩:=T;obtain⟨g1,f1,ra⟩:=x1.r;obtain⟨ma,ca,aa,oa⟩:=x1.o;have:=ra.aA.symm.trans row;simp only[Vk,fh.aA.injEq,Wr,fm.aJ]at this;obtain⟨-,⟨⟨-,-,-,-,-,-,-,-,-,-,-,-,-,-,-,-,-,rfl,rfl,-⟩,-⟩,-⟩:=this;exact fF.aE l1 b (λ_ _ y=>y) ((gS.aC (Q:=Q) ra oa x1.lt e1 e2).aF λk hk=>hW k hk)
theorem Ie {F:Nat->Prop}{h:eZ}{n:Nat}{t k:Int}{data:List Int}{d:AV}{G:Nat->Prop} (hb:h[n]?=some (some (.aA 3 [[.aA .i64 t,.aA .i64 k,d]] false))) (hd:Rd G h (fT data) d) (hF:∀m,G m->F m) (hn:F n):
  Rd F h (f_ [⟨t,k,data⟩]) (.aF n 3 0 1 (some 1)):=by
 refine⟨_,.inr (.inr ⟨n,0,1,some 1,_,_,rfl,hn,hb,by simp,(λc hc=>by cases hc;omega),rfl⟩),?_⟩;simp only[VS,Wg,gj.c,gC,fu,Rd,Wf,List.take_succ_cons,List.take_zero];exact⟨_,_,rfl,⟨_,_,rfl,rfl,_,_,rfl,rfl,_,_,rfl,Rd.aC hF (λ_ _ _ y=>y) _ _ hd,rfl⟩,rfl⟩
def wc (P:Program)(f:FuncId):Prop:=fI P f=true/\∀(G:Nat->Prop)(L:Nat->Nat)(h:eZ)(r o:Nat)(x:RX)(k j:Nat)(kind:Int)(data:List Int)(d:AV),gS L h r o x->x.r.aD k->k<2^28->x.aA j->j<=2^20->Rd G h (fT data) d->gK data/\data.length<=2^16->gO kind->
 fy P f [.aE [.aC r 21 0 0,.aC o 5 0 0],.aA .i64 kind,d] h λv h'=>v=.aA .i64 (x.r.aK+1)/\fF wA fj L h r o (x.aC kind data) h'
theorem Sf {P:Program}{f f1 f2 f3 f4 f5:FuncId}(hf:Is P f (BL f1 f2 f3 f4 f5))(u1:oJ P f1)(u2:xW P f2)(u3:kS P f3)(u4:rN P f4)(u5:wg P f5):wc P f:=by
 refine⟨hf.2,λG L h r o x k j kind data d hx hfit hk hj hj2 hd hdata hkind=>fN hf ?_⟩;have hmore:=hfit.bz (e:=⟨x.r.aA.aB,kind,data⟩) ⟨hdata,⟨by have:=hfit.aJ;show _<=x.r.aA.aB;omega,by have:=hfit.aJ;show x.r.aA.aB<=_;omega⟩,hkind⟩;have hr:=CH x kind data;have ho:=uE x kind data;have elay:x.aC kind data=⟨(x.aC kind data).r,(x.aC kind data).o⟩:=rfl;rw[elay,hr,ho];obtain⟨R,out⟩:=x;simp only at hfit hmore hj ⊢;have lt:=hx.lt;obtain⟨g,ff,ra⟩:=id hx.r;have rr:=ra.aA;have lr:=(U_.1 rr).1;simp only[fm.aJ]at rr;have R1:∀a,(h++[a])[r]?=_:=λa=>(eY.b1 a).aA rr;have R2:∀a b,(h++[a]++[b])[r]?=_:=λa b=>(eY.b2 a b).aA rr;have sd:=hd.aA;have bl:=hfit.aC;have ll:=hfit.aE;have hl0:0<=R.aK:=by unfold fm.aK fE.aC;omega
 have hl1:R.aK<=2^40+k:=hfit.aE;have ew:IntKind.i64.wrap (R.aK+1)=R.aK+1:=fQ (by omega);simp only[BL,go_sem];refine fR u1.1 (u1.2 _ r R ⟨g,ff,R1 _⟩ (hfit.aB (by omega))) ?_;obtain⟨H1,hH1⟩:∃H1,H1=h++[some (fh.aA 2 [[.aC r 21 0 0,.aC o 5 0 0]] false)]++[some (fh.aA 3 [[.aA .i64 R.aA.aB,.aA .i64 kind,d]] false)]:=⟨_,rfl⟩;have X1:eY fj h H1:=by rw[hH1];exact eY.b2 _ _
 have l1:H1.length=h.length+2:=by rw[hH1];simp
 have C0:H1[h.length]?=some (some (fh.aA 2 [[.aC r 21 0 0,.aC o 5 0 0]] false)):=by rw[hH1];exact iE _ _ _
 have C1:H1[h.length+1]?=some (some (fh.aA 3 [[.aA .i64 R.aA.aB,.aA .i64 kind,d]] false)):=by rw[hH1];exact iq _ _ _
 have r1:=X1.aA rr;have lr1:=(U_.1 r1).1;have ne0:(r=h.length)=False:=Vs (by omega);have ap:=u2.2 (λ_=>True) H1 R.aA.aA _ R.aK [⟨R.aA.aB,kind,data⟩] (.aF (h.length+1) 3 0 1 (some 1)) (fu.aA (F:=fj) (λ_ _=>Vp) (λ_ _ _ y=>y) _ _ (lY R.aA.aA H1)) (Ie C1 (hd.up X1) (λ_ _=>Vp) Vp) (hfit.aB (by omega)) ⟨by simp,λe he=>by simp at he;subst he;show data.length<=_;omega⟩;have elaid:R.aA.aA.aF R.aK [⟨R.aA.aB,kind,data⟩]=⟨R.aA.aA.aA,R.aA.aA.aB,R.aA.aA.es++[⟨R.aA.aB,kind,data⟩]⟩:=sK _ _;rw[elaid]at ap;simp only[fE.aM]at ap;simp only[go_sem,R1,R2,sd,gH sd];rw[<-hH1];clear hH1;refine fR u2.1 ap ?_;rw[gF];simp only[go_sem,r1,C0,lr1,ne0];rw[ew];have hx1:=hx.up X1;have ra1:=(ra.aB (h':=H1) (λ_ _ _=>rfl) λm hm _=>X1.2 m hm (λy=>y));obtain⟨ma1,ca1,aa1,oa1⟩:=id hx1.o;obtain⟨R',hR'⟩:∃R':fm,R'={R with aA:={R.aA with aA:=⟨R.aA.aA.aA,R.aA.aA.aB,R.aA.aA.es++[⟨R.aA.aB,kind,data⟩]⟩}}:=⟨_,rfl⟩;have T1:fF wA fj L H1 r o ⟨R',out⟩ (H1.set r (some (.aA 21 [R'.aJ g ff] false))):=gS.aC ra1 oa1 hx1.lt (by rw[hR']) (by rw[hR']);have hmore:R'.aD (k+1):=by rw[hR'];exact hmore
 obtain⟨H2,hH2⟩:∃H2,H2=H1.set r (some (.aA 21 [R'.aJ g ff] false)):=⟨_,rfl⟩;have row2:R'.aJ g ff=[.aA .i64 R.id,.aA .i64 R.aA.aD,.aA .i64 R.aA.aB,.aA .i64 R.aA.aE,.aA .i64 R.aA.aA.aA,.aA .i64 R.aA.aA.aB,iD (R.aA.aA.es++[⟨R.aA.aB,kind,data⟩]),fA R.aA.aC.aA,fA R.aA.aC.aB,fA R.aA.aC.aC,gV R.aA.aF,
  .aA .i64 R.aI,.aA .i64 R.aO,.aA .i64 R.aM,.aA .i64 R.aW,.aA .i64 R.aF,.aA .i64 R.aT,g,ff,.aA .i64 R.aL,.aA .i64 R.aN]:=by rw[hR'];rfl
 have r2:H2[r]?=some (some (.aA 21 [R'.aJ g ff] false)):=by rw[hH2];exact Vd lr1
 rw[<-hH2]at T1;rw[row2]at hH2 r2;rw[<-hH2];have eR'l:R'.aA.aA=⟨R.aA.aA.aA,R.aA.aA.aB,R.aA.aA.es++[⟨R.aA.aB,kind,data⟩]⟩:=by rw[hR']
 have eR'g:R'.aA.aD=R.aA.aD:=by rw[hR']
 have sl:=u3.2 fj H2 R'.aA.aA _ (R.aK+1) 1 (lY R'.aA.aA H2) (hmore.aB (by omega));have es:R'.aA.aA.aE (R.aK+1) 1=[⟨R.aA.aB,kind,data⟩]:=by rw[eR'l,<-sK];exact Dm _ _
 rw[es,eR'l]at sl;simp only at sl;refine fq ⟨u3.1,sl⟩ ?_;rintro e1 H3 ⟨oe,-,X3⟩;have se:=oe.aA;have z2:∀m,L m=0->¬wA (L m):=λm e=>by rw[e];exact iZ
 have C2:=T1.aA (z2 _ (hx.ge (Vg _))) (λy=>y) C0;have C3:=X3.aA C2;rw[gF];have r3:=X3.aA r2;simp only[go_sem,C3,gH se,r3];have el:({fU.aD with aC:=2,aF:=R.aK+1,aA:=⟨0,0,[⟨R.aA.aB,kind,data⟩]⟩}:fU).aG e1 .aB .aB .aB .aB=[.aA .i64 2,.aA .i64 0,.aA .i64 0,.aA .i64 0,.aA .i64 (R.aK+1),.aA .i64 0,.aA .i64 0,e1,.aB,.aB,.aB,.aB,.aA .i64 0,.aA .i64 0,.aA .i64 0,.aA .i64 0,.aA .i64 0]:=rfl;have tl:=fF.aC (Q':=λm=>H2.length<=m) T1 X3 (λm hm (z:H2.length<=m)=>by rw[hH2,Vh]at z;omega) λL1 x1=>(u4.2 (λm=>H2.length<=m) L1 H3 r o _ {fU.aD with aC:=2,aF:=R.aK+1,aA:=⟨0,0,[⟨R.aA.aB,kind,data⟩]⟩} e1 .aB .aB .aB .aB (x1.up X3) oe (e_.aC 1) (e_.aC 1) (e_.aC 1) (e_.aC 1) (λn hn=>x1.ge hn) (by have:=hj.2;show (out.aC.length+1)*216<=2^46;have a:out.aC.length+1<=2^21:=by {have b:out.aC.length<=j:=this;omega};exact Vr (Vx 216 a) (by decide))).aA λ_ _ b=>b.aF me;rw[el]at tl;refine fq ⟨u4.1,tl⟩ ?_;intro _ H4 T2;have D2:=T2.aA (z2 _ (hx.ge (Vg _))) (λy=>y) C0;rw[gF];simp only[go_sem,D2];have eT:(({r:=R',o:=out}:RX).aU {fU.aD with aC:=2,aF:=R.aK+1,aA:=⟨0,0,[⟨R.aA.aB,kind,data⟩]⟩})=⟨R',{out with aC:=out.aC++[{fU.aD with aC:=2,aI:=R.aA.aD,aF:=R.aK+1,aA:=⟨0,0,[⟨R.aA.aB,kind,data⟩]⟩}]}⟩:=by unfold RX.aU;simp only[eR'g]
 rw[eT]at T2;by_cases c:kind=2
 ·simp only[go_sem,Vc c,D2];have mt:=fF.aC (Q':=fj) T2 (eY.aC _ _) (λ_ _ y=>y) λL1 x1=>u5.2 L1 H4 r o _ (k+1) R.aK x1 hmore (by omega) ⟨hl0,by omega⟩;refine fq ⟨u5.1,mt⟩ ?_;intro _ H5 T3;rw[Vf c,<-hR'];simp only[go_sem,ew];have e5:R'.aB=R.aB:=by rw[hR']
  rw[<-e5];exact fF.aB X1 T3
 ·rw[Ve c,<-hR'];simp only[go_sem,Va c,ew];exact fF.aB X1 T2
def we (P:Program)(f:FuncId):Prop:=fI P f=true/\∀(L:Nat->Nat)(h:eZ)(r o:Nat)(x:RX)(k j:Nat),gS L h r o x->x.r.aD k->k<2^28->x.aA j->j<2^20->
 fy P f [.aE [.aC r 21 0 0,.aC o 5 0 0]] h λ_ h'=>fF wA fj L h r o x.aP h'
theorem Sg {P:Program}{f f1 f2 f3 f4 f5 f6:FuncId}(hf:Is P f (BM f1 f2 f3 f4 f5 f6))(u1:oJ P f1)(u2:wg P f2)(u3:wc P f3)(u4:pA P f4)(u5:oB P f5)(u6:tN P f6):we P f:=by
 refine⟨hf.2,λL h r o x k j hx t hk hj hj2=>fN hf ?_⟩;obtain⟨R,out⟩:=x;simp only at t;have lt:=hx.lt;have X1:=eY.b1 (h:=h) (some (fh.aA 2 [[.aC r 21 0 0,.aC o 5 0 0]] false));have C:=hx.up X1;obtain⟨g,ff,ra⟩:=C.r;obtain⟨ma,ca,aa,oa⟩:=C.o;have rr:=ra.aA;have lrh:r<h.length:=lt r (by rw[ra.lr];omega);have O:r<h.length+1:=by omega
 simp only[fm.aJ]at rr;have B1:=gh h (some (fh.aA 2 [[.aC r 21 0 0,.aC o 5 0 0]] false));have ne:(r=h.length)=False:=Vs (by omega);simp only[BM,go_sem,rr,ne,B1,O,Vh,V8];have T0:fF wA fj L (h++[some (fh.aA 2 [[.aC r 21 0 0,.aC o 5 0 0]] false)]) r o ⟨{R with aM:=2,aW:=R.id,aN:=0,aG:=[],aB:=[]},out⟩ _:=gS.aD (R':={R with aM:=2,aW:=R.id,aN:=0,aG:=[],aB:=[]}) ra oa C.lt rfl rfl;simp only[fm.aJ]at T0;have z2:∀m,h.length<=m->¬wA (L m):=λm e=>by rw[hx.ge e];exact iZ
 generalize List.set (h++[some (fh.aA 2 [[.aC r 21 0 0,.aC o 5 0 0]] false)]) r _=H1 at *;have D0:=T0.aA (z2 _ (Vg _)) (λy=>y) B1;have hl1:R.aK<=2^40+k:=t.aE;have U:0<=R.aK:=by have:=t.aC;unfold fm.aK fE.aC;omega
 have f0:({R with aM:=2,aW:=R.id,aN:=0,aG:=[],aB:=[]}:fm).aD k:=by obtain⟨g1,g2,g3,g4,g5,g6,g7,g8,g9,a1,g11,a0,g13,g14,W⟩:=t;exact⟨g1,g2,g3,g4,g5,g6,g7,g8,g9,a1,⟨Wm _,by show (0:Int)<=1;omega⟩,a0,by simp,⟨by simp,by simp⟩,W⟩
 have el:({R with aM:=2,aW:=R.id,aN:=0,aG:=[],aB:=[]}:fm).aK=R.aK:=rfl;refine fR u1.1 (by have:=u1.2 H1 r _ T0.aD (f0.aB (by omega));rw[el]at this;exact this) ?_;have I:∃g f,H1[r]?=some (some (.aA 21 [({R with aM:=2,aW:=R.id,aN:=0,aG:=[],aB:=[]}:fm).aJ g f] false)):=T0.aD;obtain⟨g1,ff1,u⟩:=I;simp only[fm.aJ]at u;simp only[go_sem,D0];have mt:=fF.aC (Q':=fj) T0 (eY.aC _ _) (λ_ _ y=>y) λL1 x1=>u2.2 L1 H1 r o _ k R.aK x1 f0 (by omega) ⟨U,by omega⟩;refine fq ⟨u2.1,mt⟩ ?_;intro _ H2 T2;have D2:=T2.aA (z2 _ (Vg _)) (λy=>y) B1;have E:({R with aM:=2,aW:=R.id,aN:=0,aG:=[],aB:=[]}:fm).bB ({R with aM:=2,aW:=R.id,aN:=0,aG:=[],aB:=[]}:fm).aB R.aK=R.aU:=rfl;simp only[E]at T2;have f2:=t.aV (by omega);simp only[go_sem,D2];have M:=fF.aM (Q':=fj) T2 (eY.aC _ _) (λ_ _ y=>y) λL1 x1=>u3.2 fj L1 H2 r o ⟨R.aU,out⟩ k j 0 [] .aB x1 f2 hk hj (by omega) (Rd.aJ 1) ⟨λ_ h=>by simp at h,by simp⟩ ⟨by omega,by omega⟩;refine fq ⟨u3.1,M⟩ ?_;rintro _ H3 ⟨-,T3⟩;have D3:=T3.aA (z2 _ (Vg _)) (λy=>y) B1;have f3:(({r:=R.aU,o:=out}:RX).aC 0 []).r.aD (k+1):=fm.aD.aP (x:={r:=R.aU,o:=out}) (kind:=0) (data:=[]) f2 (by omega) ⟨λ_ h=>by simp at h,by simp⟩ ⟨by omega,by omega⟩;have j3:(({r:=R.aU,o:=out}:RX).aC 0 []).aA (j+1):=RX.aA.aD (x:={r:=R.aU,o:=out}) hj 0 [];simp only[go_sem,D3];have et:=fF.aC (Q':=fj) T3 (eY.aC _ _) (λ_ _ y=>y) λL1 x1=>(xd u5 u4 x1 f3 (by omega) j3 (by omega)).aA λ_ _ b=>b.aF me;refine fq ⟨u5.1,et⟩ ?_;intro _ H4 T4;have D4:=T4.aA (z2 _ (Vg _)) (λy=>y) B1;have f4:(({r:=R.aU,o:=out}:RX).aC 0 []).on.r.aD (k+1):=by show (RX.aJ _ _).r.aD (k+1);rw[(nW _ _).1];exact f3
 simp only[go_sem,D4];have st:=fF.aC (Q':=fj) T4 (eY.aC _ _) (λ_ _ y=>y) λL1 x1=>u6.2 L1 H4 r o _ (k+1) x1 f4 (by omega);refine fq ⟨u6.1,st⟩ ?_;intro _ H5 T5;simp only[go_sem];exact fF.aB X1 T5
end Glb
