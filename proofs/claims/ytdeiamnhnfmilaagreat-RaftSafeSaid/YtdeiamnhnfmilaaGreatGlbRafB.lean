/-
  A library of its own.
-/
import Derived.Test.YtdeiamnhnfmilaaGreatGlbRafA
import Derived.Test.YtdeiamnhnfmilaaGreatGlbLaid
set_option linter.unusedSimpArgs false
set_option linter.unusedVariables false
set_option maxRecDepth 10000
set_option maxHeartbeats 8000000
open Nat (reduceAdd)
namespace Glb
open Go
theorem xR:∀(l:List Int)(a:Int),jC l->(∀m∈l,a<=m/\m<=7)->a<=8->(l.length:Int)<=8-a
 | [],a,_,_,h=>by simp;omega
 | x :: l,a,h1,h2,h3=>by have h4:=Wx.1 h1;have hx:=h2 x (by simp);have:=xR l (x+1) h4.2 (λm hm=>⟨by have:=h4.1 m hm;omega,(h2 m (by simp[hm])).2⟩) (by omega);simp only[Vf];omega
theorem lA {x:fq}(h:x.aE=true):x.aG 7:=by obtain⟨-,⟨h1,h2⟩,⟨h3,h4⟩,⟨h5,h6⟩,-⟩:=mY.1 h;have a:=xR _ 1 h1 h2 (by omega);have b:=xR _ 1 h3 h4 (by omega);have c:=xR _ 1 h5 h6 (by omega);exact⟨by omega,by omega,by omega⟩
theorem fq.aG.le {x:fq}{a b:Nat}(h:x.aG a)(e:a<=b):x.aG b:=⟨Vh h.1 e,Vh h.2.1 e,Vh h.2.2 e⟩
theorem uY {l:List Int}(h:(im l).2=0):(im l).1.aE=true:=by
 simp only[im]at h ⊢;by_cases c:(iV.aA (some l)).2.aD=0
 ·have c':¬(iV.aA (some l)).2.aD≠0:=by simpa using c
  rw[U6 c']at h ⊢;by_cases o:(iV.aA (some l)).1.aE=true;·rw[U4 o];exact o
  ·rw[U6 o]at h;cases h
 ·rw[U4 c]at h;exact absurd h c
theorem fF.aR (x:fF)(h:x.aD.aE=true):∀k,k<=x.aA.es.length->(x.aK k).1.aE=true/\x.aA.aA<=(x.aK k).2/\(x.aK k).2<=x.aA.aA+k
 | 0,_=>⟨h,Vi _,Int.le_of_eq (by show x.aA.aA=_;simp)⟩
 | k+1,hk=>by
  rw[fF.aT hk];split;·rename_i c;exact⟨uY c.2,by show x.aA.aA<=x.aA.aA+1+k;omega,by show x.aA.aA+1+(k:Int)<=_;omega⟩
  ·obtain⟨a,b,c⟩:=fF.aR x h k (by omega);exact⟨a,b,by omega⟩
theorem fF.aO {x:fF}(h:x.aD.aE=true):x.of.1.aE=true/\x.aA.aA<=x.of.2/\x.of.2<=x.aA.aC:=fF.aR x h _ (U8 _)
def fV.aG (w:fV):Prop:=(1<=w.aE/\w.aE<=7)/\(0<=w.aC/\w.aC<=2^41)/\(0<=w.aD/\w.aD<=2^40)
theorem fV.aG.aA {w:fV}(h:w.aG):w.aJ:=by obtain⟨⟨h1,h2⟩,⟨h3,h4⟩,h5,h6⟩:=h;exact⟨⟨by omega,h3,h5⟩,by omega,by omega,by omega⟩
def fU.aG (e:fU):Prop:=(gF e.aC/\e.aC.length<=2^16)/\ia e.aA/\ia e.aD
structure fj.aD (k:Nat)(x:fj):Prop where
 aC:0<=x.aA.aA.aA/\x.aA.aA.aA<=2^40+k
 aL:x.aA.aA.es.length<=k
 aF:x.aA.aA.aC<=2^40+k
 aH:∀e∈x.aA.aA.es,e.aG
 aE:x.aA.aD.aE=true
 aU:gF x.aA.aG/\x.aA.aG.length<=2^16
 aI:0<=x.aA.aC/\x.aA.aC<=2^40
 aN:ia x.aA.aE/\ia x.aA.aF/\ia x.aA.aA.aD
 aM:x.aA.aA.aA<=x.aF/\x.aF<=x.aE/\x.aE<=x.aA.aA.aC
 aX:0<=x.aK/\x.aK<=k
 bu:0<=x.aN/\x.aN<=1
 bH:0<=x.bw/\x.bw<=k
 aY:x.aH.length<=k+1
 aG:x.aC.length<=21/\∀w∈x.aC,w.aG
 id:1<=x.id/\x.id<=7
theorem fj.aD.aA {k k':Nat}{x:fj}(h:x.aD k)(hk:k<=k'):x.aD k':=by obtain⟨h1,h2,h3,h4,h5,h6,h7,h8,h9,h10,C,h12,h13,u,e⟩:=h;exact⟨⟨h1.1,by omega⟩,by omega,by omega,h4,h5,h6,h7,h8,h9,by omega,C,by omega,by omega,u,e⟩
section
variable {k:Nat} {x:fj}
theorem fj.aD.bF (h:x.aD k)(hk:k<=2^28):lU x.aA.aA.es:=⟨by have:=h.aL;omega,λe he=>by have:=(h.aH e he).1.2;omega⟩
theorem fj.aD.aD (h:x.aD k)(hk:k<=2^28):jL x.aA.aA:=⟨h.aC.1,by have:=h.aC.2;omega,h.bF hk⟩
theorem fj.aD.aJ (h:x.aD k)(hk:k<=2^28):x.aA.aN:=⟨⟨h.aC.1,by have:=h.aC.2;omega⟩,by have:=h.aL;omega,λe he=>⟨(h.aH e he).1.1,by have:=(h.aH e he).1.2;omega⟩,(lA h.aE).le (by omega)⟩
theorem fj.aD.bw (h:x.aD k)(hk:k<=2^28):x.aA.aQ:=⟨h.aD hk,(lA h.aE).le (by omega),by have:=h.aU.2;omega⟩
theorem fj.aD.aQ (h:x.aD k):x.aM.aE=true:=(fF.aO h.aE).1
theorem fj.aD.aO (h:x.aD k){n:Nat}(hn:7<=n):x.aM.aG n:=(lA h.aQ).le hn
end
theorem ye {x:fq}(h:x.aE=true):x.aK.length<=14:=by have u:=x9 (x.aA++x.aC);have f:=lA h;simp only[U1]at u;have:=f.1;have:=f.2.1;simp only[fq.aK];omega
theorem CD {x:fq}(h:x.aE=true):x.aQ.length<=21:=by have u:=x9 (x.aA++x.aC++x.aD);have f:=lA h;simp only[U1]at u;have:=f.1;have:=f.2.1;have:=f.2.2;simp only[fq.aQ];omega
theorem O7 {x:fq}(h:x.aE=true){n:Int}(hn:n∈x.aQ):1<=n/\n<=7:=by
 obtain⟨-,⟨-,h2⟩,⟨-,h4⟩,⟨-,h6⟩,-⟩:=mY.1 h;have:=((Dt _).2 n).1 hn;simp only[VK]at this;rcases this with (a | a) | a;·exact h2 n a
 ·exact h4 n a
 ·exact h6 n a
section
variable {k:Nat} {x:fj}
theorem fj.aD.aK (h:x.aD k)(l:Int):(x.aU l).aD k:=by obtain⟨h1,h2,h3,h4,h5,h6,h7,h8,h9,E,C,u,h13,h14,e⟩:=h;exact⟨h1,h2,h3,h4,h5,h6,h7,h8,h9,E,C,u,by simp[fj.aU],⟨by simp[fj.aU],by simp[fj.aU]⟩,e⟩
theorem fj.aD.aW (h:x.aD k){t v:Int}(ht:0<=t/\t<=2^40)(hv:ia v):({x with aA:={x.aA with aC:=t,aF:=v}}:fj).aD k:=by obtain⟨h1,h2,h3,h4,h5,h6,h7,h8,h9,M,I,E,C,u,e⟩:=h;exact⟨h1,h2,h3,h4,h5,h6,ht,⟨h8.1,hv,h8.2.2⟩,h9,M,I,E,C,u,e⟩
theorem O4 {was:List fV}{node last:Int}:lp was node last=⟨node,last+1,0,0⟩\/(lp was node last∈was/\(lp was node last).aE=node):=by
 unfold lp;cases hf:was.find? λf=>decide (f.aE=node) with
 | none=>exact .inl rfl
 | some f=>exact .inr ⟨List.mem_of_find?_eq_some hf,by simpa using List.find?_some hf⟩
theorem fj.aD.bA (h:x.aD k){was:List fV}{last:Int}(hw:∀w∈was,w.aG)(hl:0<=last/\last<2^41):(x.a_ was last).aD k:=by
 have hn:=h.aQ;obtain⟨h1,h2,h3,h4,h5,h6,h7,h8,h9,O,M,I,E,h14,C⟩:=h;refine⟨h1,h2,h3,h4,h5,h6,h7,h8,h9,O,M,I,E,⟨?_,?_⟩,C⟩;·simp only[fj.a_,Vg];exact Vh (Wz _ _) (CD hn)
 ·intro w u;simp only[fj.a_,Wr,WV]at u;obtain⟨n,⟨hm,-⟩,rfl⟩:=u;have:=O7 hn hm;rcases O4 (was:=was) (node:=n) (last:=last) with e | ⟨e,-⟩;·rw[e];exact⟨this,⟨by show 0<=last+1;omega,by show last+1<=_;omega⟩,by simp⟩
  ·exact hw _ e
theorem fA.aQ (l:fA)(e:fU):l.aE l.aC [e]=⟨l.aA,l.aD,l.es++[e]⟩:=Glb.tJ l e
theorem fj.aD.bB (h:x.aD k){e:fU}(he:e.aG):({x with aA:={x.aA with aA:=⟨x.aA.aA.aA,x.aA.aA.aD,x.aA.aA.es++[e]⟩}}:fj).aD (k+1):=by
 obtain⟨h1,h2,h3,h4,h5,h6,h7,h8,h9,C,O,u,M,I,E⟩:=h;have el:(⟨x.aA.aA.aA,x.aA.aA.aD,x.aA.aA.es++[e]⟩:fA).aC=x.aA.aA.aC+1:=by unfold fA.aC;simp;omega
 refine⟨⟨h1.1,W7 h1.2 (by omega)⟩,by simp;omega,by rw[el];omega,?_,h5,h6,h7,h8,⟨h9.1,h9.2.1,by rw[el];exact W7 h9.2.2 (by omega)⟩,⟨C.1,W7 C.2 (by omega)⟩,O,⟨u.1,W7 u.2 (by omega)⟩,Vh M (by omega),I,E⟩;intro y hy;simp only[VK,List.mem_singleton]at hy;rcases hy with hy | rfl;·exact h4 y hy
 ·exact he
end
theorem GW (x:RX)(kind:Int)(data:List Int):(x.aF kind data).r=if kind=2 then ({x.r with aA:={x.r.aA with aA:=⟨x.r.aA.aA.aA,x.r.aA.aA.aD,x.r.aA.aA.es++[⟨x.r.aA.aC,kind,data⟩]⟩}}:fj).a_ x.r.aC x.r.aL
  else {x.r with aA:={x.r.aA with aA:=⟨x.r.aA.aA.aA,x.r.aA.aA.aD,x.r.aA.aA.es++[⟨x.r.aA.aC,kind,data⟩]⟩}}:=by
 unfold RX.aF;simp only[fj.aL,fA.aQ];split<;>rfl
theorem GV (x:RX)(kind:Int)(data:List Int):(x.aF kind data).o={x.o with aC:=x.o.aC++[{gi.aI with aC:=2,aH:=x.r.aA.aE,aE:=x.r.aL+1,aA:=⟨0,0,[⟨x.r.aA.aC,kind,data⟩]⟩}]}:=by have e:((x.r.aA.aA.aE x.r.aA.aA.aC [⟨x.r.aA.aC,kind,data⟩]).aJ (x.r.aA.aA.aC+1) 1)=[⟨x.r.aA.aC,kind,data⟩]:=Dk _ _;unfold RX.aF;simp only[fj.aL,e];split<;>rfl
theorem fj.aD.aT {k:Nat}{x:RX}(h:x.r.aD k)(hk:k<=2^28){kind:Int}{data:List Int}(hd:gF data/\data.length<=2^16)(C:ia kind):(x.aF kind data).r.aD (k+1):=by
 rw[GW];have ht:=h.aI;have m:=h.bB (e:=⟨x.r.aA.aC,kind,data⟩) ⟨hd,⟨by show _<=x.r.aA.aC;omega,by show x.r.aA.aC<=_;omega⟩,C⟩;have hl:=h.aF;have hb:=h.aC;have u:0<=x.r.aA.aA.aC:=by unfold fA.aC;omega
 split;·exact m.bA h.aG.2 ⟨u,by show x.r.aA.aA.aC<_;omega⟩
 ·exact m
theorem fj.aD.a_ {k:Nat}{x:fj}(h:x.aD k){c:Int}(h1:x.aE<=c)(h2:c<=x.aA.aA.aC):({x with aE:=c}:fj).aD k:=by obtain⟨g1,g2,g3,g4,g5,g6,g7,g8,g9,M,I,E,C,u,e⟩:=h;exact⟨g1,g2,g3,g4,g5,g6,g7,g8,⟨g9.1,by show x.aF<=c;omega,h2⟩,M,I,E,C,u,e⟩
theorem fj.aD.aR {k:Nat}{x:fj}(h:x.aD k):x.aW.aD k:=by
 unfold fj.aW;split;·rename_i c;exact h.a_ (by omega) (ky.1 c.2.1).2
 ·exact h
theorem tg (l:List fV):∀x:RX,(x.aM l).r=x.r/\(x.aM l).o.aC=x.o.aC/\(x.aM l).o.aD.length=x.o.aD.length+l.length:=by
 induction l with
 | nil=>intro x;exact⟨rfl,rfl,rfl⟩
 | cons w l ih=>intro x;obtain⟨h1,h2,h3⟩:=ih (x.to w);refine⟨h1,h2,?_⟩;show ((x.to w).aM l).o.aD.length=_;rw[h3];show (x.o.aD++[_]).length+l.length=_;simp;omega
theorem Dh (l:List fJ):∀x:RX,(x.aL l).r=x.r/\(x.aL l).o.aC=x.o.aC/\(x.aL l).o.aD.length=x.o.aD.length+l.length:=by
 induction l with
 | nil=>intro x;exact⟨rfl,rfl,rfl⟩
 | cons w l ih=>intro x;obtain⟨h1,h2,h3⟩:=ih (x.aH w);refine⟨h1,h2,?_⟩;show ((x.aH w).aL l).o.aD.length=_;rw[h3];show (x.o.aD++[_]).length+l.length=_;simp;omega
def RX.aC (j:Nat)(x:RX):Prop:=x.o.aD.length<=j/\x.o.aC.length<=j
theorem RX.aC.aA {j j':Nat}{x:RX}(h:x.aC j)(hj:j<=j'):x.aC j':=⟨Vh h.1 hj,Vh h.2 hj⟩
theorem RX.aC.aC {j:Nat}{x:RX}(h:x.aC j)(m:fJ):(x.aH m).aC (j+1):=⟨by show (x.o.aD++[_]).length<=_;simp;exact h.1,by have:=h.2;show x.o.aC.length<=_;omega⟩
theorem RX.aC.aD {j:Nat}{x:RX}(h:x.aC j)(c:gi):(x.aX c).aC (j+1):=⟨by have:=h.1;show x.o.aD.length<=_;omega,by show (x.o.aC++[_]).length<=_;simp;exact h.2⟩
theorem RX.aC.aE {j:Nat}{x:RX}(h:x.aC j)(kind:Int)(data:List Int):(x.aF kind data).aC (j+1):=by unfold RX.aC;rw[GV];exact⟨by have:=h.1;show x.o.aD.length<=_;omega,by show (x.o.aC++[_]).length<=_;simp;exact h.2⟩
theorem RX.aC.aF {j:Nat}{x:RX}(h:x.aC j){l:List fV}(hl:l.length<=21):(x.aM l).aC (j+21):=by obtain⟨-,h2,h3⟩:=tg l x;exact⟨by have:=h.1;omega,by have:=h.2;rw[h2];omega⟩
theorem RX.aC.aH {j:Nat}{x:RX}(h:x.aC j){l:List fJ}(hl:l.length<=21):(x.aL l).aC (j+21):=by obtain⟨-,h2,h3⟩:=Dh l x;exact⟨by have:=h.1;omega,by have:=h.2;rw[h2];omega⟩
def fj.aY (x:fj):fj:=({x with aI:=2,aV:=x.id,aN:=0,aH:=[],aC:=[]}:fj).a_ [] x.aL
theorem OE (x:RX):x.aN=(((({x with r:=x.r.aY}:RX).aF 0 []).on).aK):=rfl
theorem fj.aD.aV {k:Nat}{x:fj}(h:x.aD k)(hk:k<=2^28):x.aY.aD k:=by
 have hb:=h.aC;have hl:=h.aF;have e:0<=x.aA.aA.aC:=by unfold fA.aC;omega
 have h0:({x with aI:=2,aV:=x.id,aN:=0,aH:=[],aC:=[]}:fj).aD k:=by obtain⟨g1,g2,g3,g4,g5,g6,g7,g8,g9,E,g11,C,g13,g14,u⟩:=h;exact⟨g1,g2,g3,g4,g5,g6,g7,g8,g9,E,⟨Vi _,by show (0:Int)<=1;omega⟩,C,by simp,⟨by simp,by simp⟩,u⟩
 exact h0.bA (by simp) ⟨e,by show x.aA.aA.aC<_;omega⟩
theorem fj.aD.bz {k:Nat}{x:RX}(h:x.r.aD k)(hk:k<=2^28):x.aN.r.aD (k+1):=by have h1:=h.aV hk;have h2:(({x with r:=x.r.aY}:RX).aF 0 []).r.aD (k+1):=fj.aD.aT (x:={x with r:=x.r.aY}) (kind:=0) (data:=[]) h1 hk ⟨λ_ h=>by simp at h,by simp⟩ ⟨by omega,by omega⟩;rw[OE];show ((({x with r:=x.r.aY}:RX).aF 0 []).on).r.aW.aD (k+1);refine fj.aD.aR ?_;show ((({x with r:=x.r.aY}:RX).aF 0 []).aM _).r.aD (k+1);rw[(tg _ _).1];exact h2
theorem RX.aC.aG {k j:Nat}{x:RX}(h:x.r.aD k)(hk:k<=2^28)(hj:x.aC j):x.aN.aC (j+22):=by have h1:=h.aV hk;have h2:(({x with r:=x.r.aY}:RX).aF 0 []).r.aD (k+1):=fj.aD.aT (x:={x with r:=x.r.aY}) (kind:=0) (data:=[]) h1 hk ⟨λ_ h=>by simp at h,by simp⟩ ⟨by omega,by omega⟩;have h3:(({x with r:=x.r.aY}:RX).aF 0 []).aC (j+1):=RX.aC.aE (x:={x with r:=x.r.aY}) hj 0 [];have h4:=h3.aF h2.aG.1;have e:x.aN.o=((({x with r:=x.r.aY}:RX).aF 0 []).aM (({x with r:=x.r.aY}:RX).aF 0 []).r.aC).o:=rfl;unfold RX.aC at h4 ⊢;rw[e];exact⟨Vh h4.1 (by omega),Vh h4.2 (by omega)⟩
theorem tQ {w:fV}{F:Nat->Prop}{h:eX}{a:List AV}(hh:fu F h w.c a):a=w.aA:=by simp only[fV.c,fu,Rd]at hh;obtain⟨_,_,rfl,rfl,_,_,rfl,rfl,_,_,rfl,rfl,_,_,rfl,rfl,rfl⟩:=hh;rfl
def qI (P:Program)(f:FuncId):Prop:=fK P f=true/\∀(G:Nat->Prop)(h:eX)(r:Nat)(x:fj)(gg ff:AV)(g:FuncId)(fs cs:List AV)(J:Nat->eX->Prop),h[r]?=some (some (.aA 21 [x.aJ gg ff] false))->fK P g=true->x.aC.length<=2^20->J 0 h->
 (∀k h',J k h'->Rd G h' (jN x.aC) ff)->(∀k (hk:k<x.aC.length) h' H,J k h'->eW eZ h' H->fC P g (fs++[.aF (x.aC[k]).aA]++cs) H λ_ h''=>J (k+1) h'')->
 fC P f [.aC r 21 0 0,.aK g fs cs] h λ_ h'=>J x.aC.length h'
theorem Mn {P:Program}{f:FuncId}(hf:Is P f Bo):qI P f:=by
 refine⟨hf.2,λG h r x gg ff g fs cs J hr hg hl E hJ hB=>fS hf ?_⟩;have rr:=hr;simp only[fj.aJ]at rr;have lf:ik ff=some (.aA .i64 x.aC.length):=by have:=(hJ 0 h E).aC;simpa [jN] using this
 simp only[Bo,go_sem,rr,lf];obtain⟨I,hI⟩:∃I:Nat->fX->eX->Prop,∀m L h',I m L h'↔∃i:Nat,lk 1 L=.aK g fs cs/\lk 9 L=ff/\lk 10 L=.aA .i64 x.aC.length/\lk 11 L=.aA .i64 i/\J i h'/\i<=x.aC.length/\m=x.aC.length-i:=⟨_,λ_ _ _=>WA⟩;refine iM I x.aC.length ((hI _ _ _).2 ⟨0,by simp[fm,g_],by simp[fm],by simp[fm],by simp[fm],E,by omega,by omega⟩) ?_;intro m L h' hh;obtain⟨i,k1,k9,C,e,u,hi,rfl⟩:=(hI _ _ _).1 hh;simp only[FD,go_sem,C,e];refine ij (λci=>?_) (λci=>?_)
 ·simp at ci;have ci:i<x.aC.length:=by omega
  have ew:IntKind.i64.wrap ((i:Int)+1)=((i+1:Nat):Int):=by rw[gj (by omega)];omega
  obtain⟨p,c,i1,i2,i3⟩:=Rd.aD (hJ i h' u) .i64 (i:=(i:Int)) (d:=x.aC[i].c) (by omega) (by rw[show ((i:Int)).toNat=i by omega,VE,U0 ci];rfl);obtain rfl:=tQ i3;have ld:ir h' true 4 p=some (.aF x.aC[i].aA):=by rw[jr i2];rfl
  have hc:=hB i ci h';generalize x.aC[i]=w at *;simp only[fV.aA]at ld hc;simp only[go_sem,k1,k9,e,i1,ld];refine fy ⟨hg,hc _ u (eW.b1 _)⟩ ?_;intro _ h2 j2;simp only[go_sem,e,ew];exact⟨_,by omega,(hI _ _ _).2 ⟨i+1,by simp[fm,k1],by simp[fm,k9],by simp[fm,C],by simp[fm],j2,by omega,rfl⟩⟩
 ·simp at ci;have:i=x.aC.length:=by omega
  subst this;simp only[go_sem];exact u
theorem Mo (x:RX)(l:List fV)(w:fV):x.aM (l++[w])=(x.aM l).to w:=by unfold RX.aM;rw[List.foldl_append];rfl
theorem Ch {P:Program}{fe ft:FuncId}(he:qI P fe)(ht:qU P ft){L:Nat->Nat}{h:eX}{r o:Nat}{x:RX}{k j:Nat}(hx:h_ L h r o x)(hf:x.r.aD k)(hk:k<=2^28)(hj:x.aC j)(hj2:j<=2^20):
  fC P fe [.aC r 21 0 0,.aK ft [.aF [.aC r 21 0 0,.aC o 5 0 0]] []] h λ_ h'=>fB wO eZ L h r o x.on h':=by
 have C:=hf.bw hk;have hl:=hf.aG.1;have hp:=hf.aG.2;obtain⟨g,f,ra⟩:=hx.r;have row:=ra.aA;have fl:=eY.lt _ _ ra.fo;have jm:=hj.1;clear hf hj;obtain⟨J,hJ⟩:∃J:Nat->eX->Prop,∀k h',J k h'↔fB wO eZ L h r o (x.aM (x.r.aC.take k)) h':=⟨_,λ_ _=>WA⟩;have J0:J 0 h:=(hJ 0 h).2 hx.to;have J1:∀k h',J k h'->Rd (λm=>L m=2/\m<h.length) h' (jN x.r.aC) f:=by
  intro k h' hh;obtain⟨L1,x1,l1,e1⟩:=(hJ k h').1 hh;refine Rd.aE (λ_ y=>y) ?_ _ _ (eY.rd _ (λ_ y=>y) _ fl);intro m hm y hy;refine (e1.2 m hm.2 ?_).trans hy;rintro (z | z);·rw[hm.1]at z;unfold wO at z;omega
  ·exact z
 have J2:∀k (hk:k<x.r.aC.length) h' H,J k h'->eW eZ h' H->fC P ft ([.aF [.aC r 21 0 0,.aC o 5 0 0]]++[.aF (x.r.aC[k]).aA]++[]) H λ_ u=>J (k+1) u:=by
  intro k hk h' H hh hX;have T:=(hJ k h').1 hh;have e:=tg (x.r.aC.take k) x;have ek:x.r.aC.take (k+1)=x.r.aC.take k++[x.r.aC[k]]:=VA hk;have eJ:∀u,J (k+1) u↔fB wO eZ L h r o ((x.aM (x.r.aC.take k)).to x.r.aC[k]) u:=λu=>by rw[hJ,ek,Mo]
  have tl:=Xk k x.r.aC;have wp:=(hp _ (Vx hk)).aA;generalize x.r.aC[k]=w at *;generalize x.aM (x.r.aC.take k)=y at *;have ey:y.r.aA=x.r.aA:=by rw[e.1]
  have em:=e.2.2;refine fC.aA (fB.aK (T.up hX) (λ_ _ z=>z) λL1 x1=>ht.2 L1 H r o y w x1 wp (by rw[ey];exact C) ?_) λv u b=>(eJ u).2 b;have:y.o.aD.length+1<=2^21:=by omega
  exact Vh (VU 168 this) (by decide)
 have:=he.2 (λm=>L m=2/\m<h.length) h r x.r g f ft [.aF [.aC r 21 0 0,.aC o 5 0 0]] [] J row ht.1 (by omega) J0 J1 J2;refine this.aA λv h' z=>?_;have z:=(hJ _ _).1 z;rw[VB]at z;exact z
def np (p:fV->Bool):List fV->Nat->Int
 | [],_=>-1
 | w :: l,k=>if p w then k else np p l (k+1)
theorem Cj {p:fV->Bool}:∀{l:List fV}{k:Nat},l.findIdx? p=none->np p l k=-1
 | [],_,_=>rfl
 | w :: l,k,h=>by
  rw[List.findIdx?_cons]at h;by_cases c:p w=true;·simp[c]at h
  ·rw[np,U6 c];simp only[c,Vn,VI,Option.map_eq_none_iff]at h;exact Cj h
theorem Ck {p:fV->Bool}:∀{l:List fV}{k i:Nat},l.findIdx? p=some i->np p l k=((k+i:Nat):Int)/\i<l.length
 | [],_,_,h=>by simp at h
 | w :: l,k,i,h=>by
  rw[List.findIdx?_cons]at h;by_cases c:p w=true;·simp[c]at h;subst h;rw[np,U4 c];simp
  ·simp only[c,Vn,VI,Vl]at h;obtain⟨j,hj,rfl⟩:=h;rw[np,U6 c];obtain⟨a,b⟩:=Ck (k:=k+1) hj;exact⟨by rw[a];congr 1;omega,by simp;omega⟩
def v_ (P:Program)(f:FuncId):Prop:=fK P f=true/\∀(F:Nat->Prop)(h:eX)(l:List fV)(a:AV)(g:FuncId)(fs cs:List AV)(p:fV->Bool),Rd F h (jN l) a->l.length<=2^40->fK P g=true->
 (∀w∈l,fC P g (fs++[.aF w.aA]++cs) h λr h'=>r=.aE (p w)/\h'=h)->fC P f [a,.aK g fs cs] h λr h'=>r=.aA .i64 (np p l 0)/\h'=h
theorem NP {P:Program}{f:FuncId}(hf:Is P f BU):v_ P f:=by
 refine⟨hf.2,λF h l a g fs cs p ha hl hi hg=>fS hf ?_⟩;have la:ik a=some (.aA .i64 l.length):=by have:=ha.aC;simpa [jN] using this
 simp only[BU,go_sem,la];obtain⟨I,hI⟩:∃I:Nat->fX->eX->Prop,∀m L h',I m L h'↔∃i:Nat,lk 0 L=a/\lk 1 L=.aK g fs cs/\lk 7 L=.aA .i64 l.length/\lk 8 L=.aA .i64 i/\h'=h/\i<=l.length/\m=l.length-i/\np p (l.drop i) i=np p l 0:=⟨_,λ_ _ _=>WA⟩;refine iM I l.length ((hI _ _ _).2 ⟨0,by simp[fm,g_],by simp[fm,g_],by simp[fm],by simp[fm],rfl,by omega,by omega,by simp⟩) ?_;intro m L h' hh;obtain⟨i,k0,k1,k7,k8,rfl,hi2,rfl,hq⟩:=(hI _ _ _).1 hh;simp only[FM,go_sem,k7,k8];refine ij (λci=>?_) (λci=>?_)
 ·simp at ci;have ew:IntKind.i64.wrap ((i:Int)+1)=((i+1:Nat):Int):=by rw[gj (by omega)];omega
  obtain⟨q,c,i1,i2,i3⟩:=Rd.aD ha .i64 (i:=(i:Int)) (d:=l[i].c) (by omega) (by rw[show ((i:Int)).toNat=i by omega,VE,U0 ci];rfl);obtain rfl:=tQ i3;have ld:ir h' true 4 q=some (.aF l[i].aA):=by rw[jr i2];rfl
  have hc:=hg _ (Vx ci);rw[Wh ci,np]at hq;generalize l[i]=w at *;simp only[fV.aA]at ld hc;simp only[go_sem,k0,k1,k8,i1,ld];refine fy ⟨hi,hc⟩ ?_;rintro _ _ ⟨rfl,rfl⟩;cases e:p w;·rw[e]at hq;simp only[go_sem,k8,ew];exact⟨_,by omega,(hI _ _ _).2 ⟨i+1,by simp[fm,k0],by simp[fm,k1],by simp[fm,k7],by simp[fm],rfl,by omega,rfl,by simpa using hq⟩⟩
  ·rw[e]at hq;simp only[go_sem];rw[<-hq];rfl
 ·simp at ci;obtain rfl:i=l.length:=by omega
  rw[Xd]at hq;simp only[go_sem];rw[<-hq];rfl
theorem OZ {P:Program}{f:FuncId}(hf:Is P f xe){h:eX}{q:AV}{n:Int}(hq:ir h false 1 q=some (.aA .i64 n))(e:∀b,ir (h++[b]) false 1 q=some (.aA .i64 n))(w:fV):
  fC P f [.aF w.aA,q] h λr h'=>r=.aE (decide (w.aE=n))/\h'=h:=by
 refine jG (qE _ _) (fS hf ?_);simp only[xe,fV.aA,go_sem,e];exact eW.b1 _
def yB (P:Program)(f:FuncId):Prop:=
 fK P f=true/\∀(h:eX)(node last:Int),0<=last/\last<2^41->fC P f [.aA .i64 node,.aA .i64 last] h λr h'=>r=.aF (fV.mk node (last+1) 0 0).aA/\h'=h
theorem MO {P:Program}{f:FuncId}(hf:Is P f zP):yB P f:=by refine⟨hf.2,λh node last hl=>jG (II _ _) (fS hf ?_)⟩;have e1:IntKind.i64.wrap (last+1)=last+1:=gj (by omega);simp only[zP,go_sem,e1];exact⟨rfl,eW.b1 _⟩
theorem MM {was:List fV}{node last:Int}:(np (λw=>decide (w.aE=node)) was 0=-1/\lp was node last=⟨node,last+1,0,0⟩) \/
  ∃(i:Nat)(hi:i<was.length),np (λw=>decide (w.aE=node)) was 0=i/\lp was node last=was[i]:=by
 cases hf:was.findIdx? λw=>decide (w.aE=node) with
 | none=>
  refine .inl ⟨Cj hf,?_⟩;unfold lp;rw[List.findIdx?_eq_none_iff]at hf;have:was.find? (λw=>decide (w.aE=node))=none:=List.find?_eq_none.2 λw hw=>by simpa using hf w hw
  rw[this];rfl
 | some i=>
  obtain⟨a,hi⟩:=Ck (k:=0) hf;refine .inr ⟨i,hi,by rw[a];simp,?_⟩;rw[List.findIdx?_eq_some_iff_getElem]at hf;obtain⟨h1,h2,h3⟩:=hf;unfold lp;have:was.find? (λw=>decide (w.aE=node))=some was[i]:=by rw[List.find?_eq_some_iff_getElem];exact⟨h2,i,h1,rfl,λj hj=>by simpa using h3 j hj⟩
  rw[this];rfl
theorem kv.aC {lo:Nat}{h:eX}{a:AV}{l:List fV}(ho:kv lo h 4 a (l.map fV.aA)):eY (jN l) (λm=>lo<=m) h a/\gV h a:=by
 have e:∀(F:Nat->Prop)(l:List fV),fG (l.map fV.c) F h (l.map fV.aA):=by
  intro F l;induction l with
  | nil=>simp only[VO,fG]
  | cons w l ih=>simp only[Vv,fG,fV.c,fV.aA,fI,eY];exact⟨_,_,rfl,⟨_,_,rfl,rfl,_,_,rfl,rfl,_,_,rfl,rfl,_,_,rfl,rfl,rfl⟩,ih⟩
 rcases ho with⟨rfl,h0⟩ | ⟨n,off,cap,row,g,rfl,h1,h2,h3,h4,h5,h6,h7⟩
 ·have:l=[]:=by simpa using h0
  subst this;exact⟨eY.aD 4,Vd⟩
 ·have hl:(l.map fV.aA).length=(l.map fV.c).length:=by simp
  refine⟨?_,⟨row,g,h2,h5,h6⟩⟩;simp only[jN,eY];rw[hl]at h3 h4 h7 ⊢;exact .inr (.inr ⟨n,off,cap,row,g,rfl,h1,h2,h3,h4,by rw[h7];exact e _ l⟩)
theorem kv.aE {lo:Nat}{h h':eX}{sz:Nat}{a:AV}{es:List (List AV)}(ho:kv lo h sz a es)(hx:eW eZ h h'):kv lo h' sz a es:=by
 rcases ho with ho | ⟨n,off,cap,row,g,h1,h2,h3,h4⟩;·exact .inl ho
 ·exact .inr ⟨n,off,cap,row,g,h1,h2,hx.aA h3,h4⟩
theorem h_.aH {W Q L h h1 r o R R' out}{g f fv:AV}(hx:h_ L h r o ⟨R,out⟩)(X:eW eZ h h1) (row:h1[r]?=some (some (.aA 21 [R.aJ g f] false))) (e1:R'.aH=R.aH) (hW:W 6) (hg:∃f,nM L h r R g f)
  (ho:eY (jN R'.aC) (λm=>h.length<=m) h1 fv) (hc:gV h1 fv):fB W Q L h r o ⟨R',out⟩ (h1.set r (some (.aA 21 [R'.aJ g fv] false))):=by
 obtain⟨-,⟨ma,ca,aa,oa⟩,lt⟩:=hx;obtain⟨f0,ra⟩:=hg;have lr:=(UY.1 ra.aA).1;have u:=(UY.1 row).1;have hl:=X.1;have ge:∀n,h.length<=n->L n=0:=λn hn=>Vb λz=>by have:=lt n z;omega
 have ne:∀m,m≠r->(h1.set r (some (.aA 21 [R'.aJ g fv] false)))[m]?=h1[m]?:=λm hm=>UZ (λe=>hm e.symm);have st:∀m,m<h.length->m≠r->(h1.set r (some (.aA 21 [R'.aJ g fv] false)))[m]?=h[m]?:=λm hm hr=>(ne m hr).trans (X.2 m hm (λy=>y));have old:∀{m},m<h.length->kT L eZ h.length h1.length 2 m=L m:=fun {m} hm=>lP (.inr ⟨λy=>y,hm⟩);have nr:∀m,L m≠6->m≠r:=λm hm e=>hm (e▸ra.lr);refine⟨kT L eZ h.length h1.length 2,⟨⟨g,fv,U5 u,?_,?_,?_,?_,(old lr).trans ra.lr⟩,⟨ma,ca,aa,oa.aC (λm hm _=>old hm) λm hm c=>st m hm (nr m (by omega))⟩,λm hm=>by rw[U9];exact tR (λz=>by have:=lt m z;omega) hm⟩,λm hm _=>old hm,?_⟩;·rw[e1];exact eY.aC _ (λm hm=>(old hm.2).trans hm.1) (λm hm y hy=>(st m hm.2 (nr m (by omega))).trans hy) _ (eY.lt _ _ ra.go)
 ·exact ra.gc.aA (eY.lt _ _ ra.go) (λm hm y hy=>(st m hm.2 (nr m (by omega))).trans hy)
 ·exact eY.aC _ (λm hm=>tS (ge m hm.1) hm.2 (.inr hm.1)) (λm hm y hy=>(ne m (by omega)).trans hy) _ (eY.lt _ _ ho)
 ·exact hc.aA ho (λm hm y hy=>(ne m (by omega)).trans hy)
 ·exact (X.aD (eW.aI (F:=λm=>m=r) _ (λ_=>rfl)) (F'':=λm=>W (L m)\/Q m) (λ_ _ y=>y.elim) (λm _ y=>.inl (by rw[y,ra.lr];exact hW)))
def wE (P:Program)(f:FuncId):Prop:=fK P f=true/\∀(L:Nat->Nat)(h:eX)(r o:Nat)(x:RX)(k:Nat)(last:Int),h_ L h r o x->x.r.aD k->k<=2^28->0<=last/\last<2^41->
 fC P f [.aC r 21 0 0,.aA .i64 last] h λ_ h'=>fB wA eZ L h r o ⟨x.r.a_ x.r.aC last,x.o⟩ h'
theorem RR {P:Program}{f f1 f2 f3 f4 f5:FuncId}(hf:Is P f (Br f1 f2 f3 f4 f5))(h1:qL P f1)(h2:oB P f2 fq.aQ)(h3:yB P f3)(h4:Is P f4 xe)(h5:v_ P f5):wE P f:=by
 refine⟨hf.2,λL h r o x k last hx hfit hk hlast=>fS hf ?_⟩;obtain⟨R,out⟩:=x;simp only at hfit;have lt:=hx.lt;obtain⟨g,ff,ra⟩:=id hx.r;have nowc:=h1.2 h r R hx.aA (hfit.aJ hk);have hnow:=hfit.aQ;have hfl:=hfit.aG.1;have rr:=ra.aA;have lr:=(UY.1 rr).1;have rdf:=eY.rd _ (F':=λm=>L m=2/\m<h.length) (λ_ y=>y) _ (eY.lt _ _ ra.fo);have eR:∀l:List Int,(({R with aC:=(l.filter λn=>!decide (n=R.id)).map λn=>lp R.aC n last}:fj))={R with aC:=(l.filter λn=>!decide (n=R.id)).map λn=>lp R.aC n last}:=λ_=>rfl;have em:(R.a_ R.aC last)={R with aC:=(R.aM.aQ.filter λn=>!decide (n=R.id)).map λn=>lp R.aC n last}:=rfl;simp only[em];have mlen:=CD hnow;simp only[Br,go_sem];refine fZ h1.1 nowc ?_;simp only[go_sem];refine fy ⟨h2.1,h2.2 eZ h R.aM _ (vE eZ h R.aM) ((lA hnow).le (by decide))⟩ ?_;rintro w H ⟨ow,hX⟩;have lw:ik w=some (.aA .i64 R.aM.aQ.length):=(eY.rd _ (F':=λ_=>True) (λ_ _=>Vd) _ ow).aF;generalize R.aM.aQ=ms at *;simp only[go_sem,lw];obtain⟨Fl,hFl⟩:∃Fl:Int->fV,Fl=λn=>lp R.aC n last:=⟨_,rfl⟩;obtain⟨I,hI⟩:∃I:Nat->fX->eX->Prop,∀m L' h',I m L' h'↔∃(i:Nat)(a:AV),lk 0 L'=.aC r 21 0 0/\lk 1 L'=.aA .i64 last/\lk 4 L'=a/\lk 11 L'=w/\lk 12 L'=.aA .i64 ms.length/\lk 13 L'=.aA .i64 i /\
   kv H.length h' 4 a ((((ms.take i).filter λn=>!decide (n=R.id)).map Fl).map fV.aA)/\eW eZ H h'/\i<=ms.length/\m=ms.length-i:=⟨_,λ_ _ _=>WA⟩
 refine iM I ms.length ((hI _ _ _).2 ⟨0,.aD,by simp[fm,g_],by simp[fm,g_],by simp[fm],by simp[fm],by simp[fm],by simp[fm],.inl ⟨rfl,by simp⟩,eW.aC _ _,by omega,by omega⟩) ?_;intro m L' h' hh;obtain⟨i,a,k0,k1,k4,k11,k12,k13,oo,X2,hi,rfl⟩:=(hI _ _ _).1 hh;simp only[FE,go_sem,k12,k13];have X3:=hX.tr X2;have row3:=X3.aA rr;simp only[fj.aJ]at row3;refine ij (λci=>?_) (λci=>?_)
 ·simp at ci;have ci:i<ms.length:=by omega
  obtain⟨p,hp,hv'⟩:=(eY.rd _ (F':=λ_=>True) (λ_ _=>Vd) _ (eY.aC _ (λ_ x=>x) (λm hm y hy=>by rw[X2.2 m hm.2 (by simp[eZ])];exact hy) _ (eY.lt _ _ ow))).aG (i:=i) ci;have ew:IntKind.i64.wrap ((i:Int)+1)=((i+1:Nat):Int):=by rw[gj (by omega)];omega
  have tk:ms.take (i+1)=ms.take i++[ms[i]]:=VA ci;simp only[go_sem,k0,k11,k13,hp,hv'];have row4:∀b,(h'++[b])[r]?=_:=λb=>(eW.b1 b).aA row3;have row5:∀b c,(h'++[b]++[c])[r]?=_:=λb c=>(eW.b2 b c).aA row3;generalize ms[i]=n at *;by_cases c0:n=R.id;·simp only[go_sem,k0,k4,k13,row4,U3 c0,ew];refine⟨_,by omega,(hI _ _ _).2 ⟨i+1,a,by simp[fm,k0],by simp[fm,k1],by simp[fm,k4],by simp[fm,k11],by simp[fm,k12],by simp[fm],?_,X2.tr (eW.b1 _),ci,rfl⟩⟩;rw[tk,List.filter_append];simpa [c0] using oo.aE (eW.b1 (some (e_.aA 1 [[.aA .i64 n]] false)))
  ·simp only[go_sem,k1,row4,U2 c0];refine fZ h3.1 (h3.2 _ n last hlast) ?_;simp only[go_sem,fV.aA,row5,k0];have B6:∀b,(h'++[some (e_.aA 1 [[.aA .i64 n]] false)]++[b])[h'.length]?=some (some (e_.aA 1 [[.aA .i64 n]] false)):=λb=>jx _ _ _;have B6':∀b c,(h'++[some (e_.aA 1 [[.aA .i64 n]] false)]++[b]++[c])[h'.length]?=some (some (e_.aA 1 [[.aA .i64 n]] false)):=λb c=>pC _ _ _ _;have rd5:∀b c,Rd (λm=>L m=2/\m<h.length) (h'++[b]++[c]) (jN R.aC) ff:=λb c=>Rd.aE (λ_ y=>y) (λm hm y hy=>(X3.tr (eW.b2 b c)).aA hy) _ _ rdf;refine fZ h5.1 (h5.2 _ _ R.aC ff f4 [] [.aC h'.length 1 0 0] (λw=>decide (w.aE=n)) (rd5 _ _) (by omega) h4.2 (λw _=>OZ h4 (by simp only[go_sem,B6]) (λb=>by simp only[go_sem,B6']) w)) ?_;have eFl:Fl n=lp R.aC n last:=by rw[hFl]
   have lft:(((ms.take i).filter λn=>!decide (n=R.id)).map Fl).length<=21:=by have:=Wz (λn=>!decide (n=R.id)) (ms.take i);have:=Xk i ms;simp only[Vg];omega
   have fin:∀(w:fV)(h3:eX),eW eZ h' h3->lp R.aC n last=w->∃a2 h4,iu (h3++[some (.aA 4 [w.aA] false)]) 4 32 a [w.aA]=some (a2,h4)/\kv H.length h4 4 a2 ((((ms.take (i+1)).filter λn=>!decide (n=R.id)).map Fl).map fV.aA)/\eW eZ H h4:=by intro w h3 hx3 ew2;obtain⟨o2,h4,s1,s2,s3⟩:=EE (bytes:=32) (h:=h3++[some (.aA 4 [w.aA] false)]) (ys:=[w.aA]) oo (hx3.tr (eW.b1 _)) X2.1 (by simp only[Vg]at lft ⊢;simp only[Vf,Ve];omega);refine⟨o2,h4,s1,?_,((X2.tr hx3).tr (eW.b1 _)).aJ s3 (λm hm hm'=>by omega)⟩;rw[tk,List.filter_append,VJ,VJ];simpa [c0,eFl,ew2] using s2
   rcases MM (was:=R.aC) (node:=n) (last:=last) with⟨e1,e2⟩ | ⟨j,hj,e1,e2⟩
   ·rw[e1];have z0:¬(0:Int)<=-1:=by omega
    obtain⟨a2,h4,s1,s2,s3⟩:=fin _ (h'++[some (e_.aA 1 [[.aA .i64 n]] false)]++[some (e_.aA 4 [[.aA .i64 n,.aA .i64 (last+1),.aA .i64 0,.aA .i64 0]] false)]) (eW.b2 _ _) e2;rw[<-iv (lG _ 4 [_] false (some 1) (len:=1) rfl)]at s1;simp only[fV.aA,U1,Vf,Ve]at s1;simp only[go_sem,k4,k13,U2 z0,U1,Vf,Ve,s1,ew];exact⟨_,by omega,(hI _ _ _).2 ⟨i+1,a2,by simp[fm,k0],by simp[fm,k1],by simp[fm],by simp[fm,k11],by simp[fm,k12],by simp[fm],s2,s3,ci,rfl⟩⟩
   ·rw[e1];have z0:(0:Int)<=j:=by omega
    obtain⟨q,c,i1,i2,i3⟩:=Rd.aD (rd5 (some (e_.aA 1 [[.aA .i64 n]] false)) (some (e_.aA 4 [[.aA .i64 n,.aA .i64 (last+1),.aA .i64 0,.aA .i64 0]] false))) .i64 (i:=(j:Int)) (d:=R.aC[j].c) (by omega) (by rw[show ((j:Int)).toNat=j by omega,VE,U0 hj];rfl);obtain rfl:=tQ i3;have ld:ir (h'++[some (e_.aA 1 [[.aA .i64 n]] false)]++[some (e_.aA 4 [[.aA .i64 n,.aA .i64 (last+1),.aA .i64 0,.aA .i64 0]] false)]) true 4 q=some (.aF R.aC[j].aA):=by rw[jr i2];rfl
    generalize R.aC[j]=w at *;obtain⟨a2,h4,s1,s2,s3⟩:=fin w (h'++[some (e_.aA 1 [[.aA .i64 n]] false)]++[some (e_.aA 4 [w.aA] false)]) (eW.b2 _ _) e2;rw[<-iv (lG _ 4 [_] false (some 1) (len:=1) rfl)]at s1;simp only[fV.aA,U1,Vf,Ve,reduceAdd]at s1 ld;simp only[go_sem,k0,k4,k13,U3 z0,row5,i1,ld,U1,Vf,Ve,s1,ew];exact⟨_,by omega,(hI _ _ _).2 ⟨i+1,a2,by simp[fm,k0],by simp[fm,k1],by simp[fm],by simp[fm,k11],by simp[fm,k12],by simp[fm],s2,s3,ci,rfl⟩⟩
 ·simp at ci;obtain rfl:i=ms.length:=by omega
  rw[VB]at oo;obtain⟨of,cf⟩:=oo.aC;have lr3:=(UY.1 row3).1;simp only[go_sem,k0,k4,row3,of.aA,gz of.aA];subst hFl;have ff2:(R.aJ g a)=[.aA .i64 R.id,.aA .i64 R.aA.aE,.aA .i64 R.aA.aC,.aA .i64 R.aA.aF,.aA .i64 R.aA.aA.aA,.aA .i64 R.aA.aA.aD,jv R.aA.aA.es,ga R.aA.aD.aA,ga R.aA.aD.aC,ga R.aA.aD.aD,iS R.aA.aG,
   .aA .i64 R.aE,.aA .i64 R.aF,.aA .i64 R.aI,.aA .i64 R.aV,.aA .i64 R.aK,.aA .i64 R.aX,g,a,.aA .i64 R.bw,.aA .i64 R.aN]:=rfl
  have hl:=hX.1;exact h_.aH (R':={R with aC:=(ms.filter λn=>!decide (n=R.id)).map λn=>lp R.aC n last}) hx X3 row3 rfl (by unfold wA;omega) ⟨ff,ra⟩ (eY.aC _ (λm hm=>by omega) (λ_ _ _ y=>y) _ of) cf
theorem MR (dep:Nat->Nat->Bool)(lo i:Nat)(l:List (Nat×Nat×e_))(h:eX):
  mC dep lo 4 i l h=(((((l.any λx=>dep i x.1 && x.2.1 == lo) || mV h[lo]?) && ((l.any λx=>dep i x.1 && x.2.1 == lo+1) || mV h[lo+1]?)) && ((l.any λx=>dep i x.1 && x.2.1 == lo+1+1) || mV h[lo+1+1]?)) && ((l.any λx=>dep i x.1 && x.2.1 == lo+1+1+1) || mV h[lo+1+1+1]?)):=by
 simp[mC,List.range_succ,Bool.and_assoc,WG]
attribute [go_sem] MR
theorem uK {h j:eX}(i:Nat):(h++j)[h.length+i]?=j[i]?:=by rw[Vp (by omega)];congr 1;omega
structure qV (lo n2 n3:Nat)(h:eX)(l2 l3:List Int):Prop where
 ex:∃(a b:AV)(A B:Nat->Prop),h[n2]?=some (some (.aA 1 [[a]] false))/\h[n3]?=some (some (.aA 1 [[b]] false))/\(∀m,A m->lo<=m/\m≠n2/\m≠n3/\¬B m)/\(∀m,B m->lo<=m/\m≠n2/\m≠n3) /\
  eY (fN l2) A h a/\gV h a/\eY (fN l3) B h b/\gV h b
 lt:n2<h.length/\n3<h.length/\lo<=n2/\lo<=n3/\n2≠n3
theorem SQ {P:Program}{f:FuncId}(hf:Is P f xg){lo n2 n3:Nat}{h:eX}{l2 l3:List Int}(hh:qV lo n2 n3 h l2 l3)(hl:l2.length<=2^20/\l3.length<=2^20)(w:fV):
  fC P f [.aF w.aA,.aC n2 1 0 0,.aC n3 1 0 0] h λ_ h'=>qV lo n2 n3 h' (l2++[w.aE]) (l3++[w.aD])/\eW (λm=>lo<=m) h h':=by
 refine fS hf ?_;obtain⟨a,b,A,B,e2,e3,hA,hB,oa,ca,ob,cb⟩:=hh.ex;obtain⟨lt2,lt3,aa,a9,ne⟩:=hh.lt;have E2:∀x,(h++[x])[n2]?=_:=λx=>(eW.b1 x).aA e2;have E3:∀x,(h++[x])[n3]?=_:=λx=>(eW.b1 x).aA e3;have aj:∀x y z,(h++[x]++[y]++[z])[n2]?=_:=λx y z=>(eW.b3 x y z).aA e2;have ai:∀x y z,(h++[x]++[y]++[z])[n3]?=_:=λx y z=>(eW.b3 x y z).aA e3;have N2:∀n,gN (h.length+1) n (.aC n2 1 0 0)=true:=λn=>ig (by omega);have N3:∀n,gN (h.length+1) n (.aC n3 1 0 0)=true:=λn=>ig (by omega);have sa:=oa.aA;have sb:=ob.aA;simp only[xg,fV.aA,go_sem,aj,ai,N2,N3,jh];obtain⟨H4,I⟩:∃H4,H4=h++[some (e_.aA 4 [[.aA .i64 w.aE,.aA .i64 w.aC,.aA .i64 w.aD,.aA .i64 w.aH]] false)]++[some (e_.aA 1 [[.aA .i64 w.aE]] false)]++[none]:=⟨_,rfl⟩;have X4:eW eZ h H4:=by rw[I];exact eW.b3 _ _ _
 have l4:H4.length=h.length+3:=by rw[I];simp
 have c0:H4[h.length]?=some (some (e_.aA 4 [[.aA .i64 w.aE,.aA .i64 w.aC,.aA .i64 w.aD,.aA .i64 w.aH]] false)):=by rw[I];exact pC _ _ _ _
 have c1:H4[h.length+1]?=some (some (e_.aA 1 [[.aA .i64 w.aE]] false)):=by rw[I];exact p_ _ _ _ _
 have c2:H4[h.length+1+1]?=some none:=by rw[I];exact sS _ _ _ _
 have a7:eY (fN l2) (λm=>(A m/\m<h.length)\/H4.length<=m) H4 a:=eY.aC _ (λm hm=>.inl hm) (λm hm y hy=>X4.aA hy) _ (eY.lt _ _ oa);have ad:gV H4 a:=ca.aA oa (λm hm y hy=>X4.aA hy);obtain⟨a',h',s1,s2,s3,s4⟩:=CU (bytes:=8) (es:=[[.aA .i64 w.aE]]) (ys:=[[.aA .i64 w.aE]]) a7 ad (eW.aC _ _) (by simp[fG,fI,eY]) (λm hm=>.inr hm) (by simp;omega);have ae:iU H4 1 (.aG (h.length+1) 1 0 1 (some 1))=some [[.aA .i64 w.aE]]:=by simp[iU,c1,go_sem,reduceIte]
 rw[<-iv ae]at s1;rw[<-I,s1];have kk:∀m,m<H4.length->¬(A m/\m<h.length)->h'[m]?=H4[m]?:=λm hm hn=>s4.2 m hm (λz=>by rcases z with z | z;exact hn z;omega);have K0:=(kk h.length (by omega) (by omega)).trans c0;have K1:=(kk (h.length+1) (by omega) (by omega)).trans c1;have K2:=(kk (h.length+1+1) (by omega) (by omega)).trans c2;have a5:=(kk n2 (by omega) (λz=>(hA n2 z.1).2.1 rfl)).trans (X4.aA e2);have a4:=(kk n3 (by omega) (λz=>(hA n3 z.1).2.2.1 rfl)).trans (X4.aA e3);have l':=s4.1;have q0:(h.length+1+1=h.length)=False:=Vm (by omega);have q1:(h.length+1+1=n2)=False:=Vm (by omega);have q2:(h.length+1+1=n3)=False:=Vm (by omega);have ab:h.length+1+1<h'.length:=by omega
 simp only[go_sem,jh,Cl,Wl,K0,K1,K2,a5,a4,q0,q1,q2];obtain⟨H5,O⟩:∃H5,H5=h'.set (h.length+1+1) (some (e_.aA 1 [[.aA .i64 w.aD]] false)):=⟨_,rfl⟩;have l5:H5.length=h'.length:=by rw[O,U9]
 have k5:∀m,m≠h.length+1+1->H5[m]?=h'[m]?:=λm hm=>by rw[O];exact UZ (λe=>hm e.symm)
 have d2:H5[h.length+1+1]?=some (some (e_.aA 1 [[.aA .i64 w.aD]] false)):=by rw[O];exact U5 ab
 have u:gY (λm=>B m/\m<h.length) h H5:=λm hm y hy=>(k5 m (by omega)).trans ((kk m (by omega) (λz=>(hA m z.1).2.2.2 hm.1)).trans (X4.aA hy));have a6:eY (fN l3) (λm=>(B m/\m<h.length)\/H5.length<=m) H5 b:=eY.aC _ (λm hm=>.inl hm) u _ (eY.lt _ _ ob);have ac:gV H5 b:=cb.aA (eY.lt _ _ ob) u;obtain⟨b',h6,t1,t2,t3,t4⟩:=CU (bytes:=8) (es:=[[.aA .i64 w.aD]]) (ys:=[[.aA .i64 w.aD]]) a6 ac (eW.aC _ _) (by simp[fG,fI,eY]) (λm hm=>.inr hm) (by simp;omega);have af:iU H5 1 (.aG (h.length+1+1) 1 0 1 (some 1))=some [[.aA .i64 w.aD]]:=by simp[iU,d2,go_sem,reduceIte]
 rw[<-iv af]at t1;rw[<-O,t1];have C:∀m,m<H5.length->¬(B m/\m<h.length)->h6[m]?=H5[m]?:=λm hm hn=>t4.2 m hm (λz=>by rcases z with z | z;exact hn z;omega);have L0:=(C h.length (by omega) (by omega)).trans ((k5 _ (by omega)).trans K0);have L1:=(C (h.length+1) (by omega) (by omega)).trans ((k5 _ (by omega)).trans K1);have L2:=(C (h.length+1+1) (by omega) (by omega)).trans d2;have ah:=(C n2 (by omega) (λz=>(hB n2 z.1).2.1 rfl)).trans ((k5 _ (by omega)).trans a5);have ag:=(C n3 (by omega) (λz=>(hB n3 z.1).2.2 rfl)).trans ((k5 _ (by omega)).trans a4);have l6:=t4.1;have a1:=s2.aA;have Z:=t2.aA;have a8:(n2=n3)=False:=Vm ne;have U:(n3=n2)=False:=Vm (λe=>ne e.symm);have a3:n2<h6.length:=by omega
 have l63:n3<h6.length:=by omega
 have p0:(n2=h.length+1)=False:=Vm (by omega);have p1:(n2=h.length+1+1)=False:=Vm (by omega);have p2:(n3=h.length+1)=False:=Vm (by omega);have p3:(n3=h.length+1+1)=False:=Vm (by omega);simp only[go_sem,jh,Cl,Wl,L0,L1,L2,ah,ag,a8,U,a1,Z,gz a1,gz Z,a3,p0,p1,p2,p3,Xo,Bool.true_or,Bool.and_true,Xs];have k7:∀m,m≠n2->m≠n3->((h6.set n2 (some (e_.aA 1 [[a']] false))).set n3 (some (e_.aA 1 [[b']] false)))[m]?=h6[m]?:=λm z2 z3=>(UZ (λe=>z3 e.symm)).trans (UZ (λe=>z2 e.symm));have e4:fN (l2++[w.aE])=.sl 1 (l2.map (λn=>[D.aA .i64 n])++[[.aA .i64 w.aE]]):=by simp[fN]
 have e5:fN (l3++[w.aD])=.sl 1 (l3.map (λn=>[D.aA .i64 n])++[[.aA .i64 w.aD]]):=by simp[fN]
 have kA:gY (λm=>((A m/\m<h.length)\/H4.length<=m)/\m<h'.length) h' ((h6.set n2 (some (e_.aA 1 [[a']] false))).set n3 (some (e_.aA 1 [[b']] false))):=by
  rintro m ⟨hm,hlt⟩ y hy;have E:m≠n2/\m≠n3/\m≠h.length+1+1/\¬(B m/\m<h.length):=by
   rcases hm with⟨z,z'⟩ | z;·have:=hA m z;exact⟨this.2.1,this.2.2.1,by omega,λq=>this.2.2.2 q.1⟩
   ·exact⟨by omega,by omega,by omega,λq=>by omega⟩
  exact (k7 m E.1 E.2.1).trans ((C m (by omega) E.2.2.2).trans ((k5 m E.2.2.1).trans hy))
 have kB:gY (λm=>((B m/\m<h.length)\/H5.length<=m)/\m<h6.length) h6 ((h6.set n2 (some (e_.aA 1 [[a']] false))).set n3 (some (e_.aA 1 [[b']] false))):=by
  rintro m ⟨hm,hlt⟩ y hy;have E:m≠n2/\m≠n3:=by
   rcases hm with⟨z,z'⟩ | z;·exact (hB m z).2
   ·exact⟨by omega,by omega⟩
  exact (k7 m E.1 E.2).trans hy
 have a2:=eY.lt _ _ s2;have W:=eY.lt _ _ t2;refine⟨⟨⟨a',b',λm=>((A m/\m<h.length)\/H4.length<=m)/\m<h'.length,λm=>((B m/\m<h.length)\/H5.length<=m)/\m<h6.length,?_,?_,?_,?_,?_,?_,?_,?_⟩,⟨by simp;omega,by simp;omega,aa,a9,ne⟩⟩,?_⟩;·rw[UZ (λe=>ne e.symm),U5 a3]
 ·rw[U5 (by simp;omega)]
 ·rintro m ⟨hm,hlt⟩;rcases hm with⟨z,z'⟩ | z;·have:=hA m z;exact⟨this.1,this.2.1,this.2.2.1,λq=>by rcases q.1 with q | q;exact this.2.2.2 q.1;omega⟩
  ·exact⟨by omega,by omega,by omega,λq=>by rcases q.1 with q | q<;>omega⟩
 ·rintro m ⟨hm,hlt⟩;rcases hm with⟨z,z'⟩ | z;·exact hB m z
  ·exact⟨by omega,by omega,by omega⟩
 ·rw[e4];exact eY.aC _ (λm hm=>hm) kA _ a2
 ·exact s3.aA a2 kA
 ·rw[e5];exact eY.aC _ (λm hm=>hm) kB _ W
 ·exact t3.aA W kB
 ·refine⟨by simp;omega,λm hm M=>?_⟩;have nA:¬(A m/\m<h.length):=λz=>M (hA m z.1).1;have nB:¬(B m/\m<h.length):=λz=>M (hB m z.1).1;exact (k7 m (λe=>M (by omega)) (λe=>M (by omega))).trans ((C m (by omega) nB).trans ((k5 m (by omega)).trans ((kk m (by omega) nA).trans (X4.2 m hm (λy=>y)))))
theorem qV.up {lo n2 n3:Nat}{h h':eX}{l2 l3:List Int}(hh:qV lo n2 n3 h l2 l3)(hx:eW eZ h h'):qV lo n2 n3 h' l2 l3:=by obtain⟨⟨a,b,A,B,e2,e3,hA,hB,oa,ca,ob,cb⟩,lt2,lt3,u,e,ne⟩:=hh;have kA:∀F,gY F h h':=λF m hm y hy=>hx.aA hy;exact⟨⟨a,b,A,B,hx.aA e2,hx.aA e3,hA,hB,eY.aC _ (λ_ y=>y) (kA _) _ oa,ca.aA oa (kA _),eY.aC _ (λ_ y=>y) (kA _) _ ob,cb.aA ob (kA _)⟩,by have:=hx.1;omega,by have:=hx.1;omega,u,e,ne⟩
def uA (P:Program)(f:FuncId):Prop:=fK P f=true/\∀(L:Nat->Nat)(h:eX)(r o:Nat)(x:RX)(k:Nat),h_ L h r o x->x.r.aD k->k<=2^28->
 fC P f [.aF [.aC r 21 0 0,.aC o 5 0 0]] h λ_ h'=>fB wA eZ L h r o x.aK h'
theorem R0 {P:Program}{f f1 f2 f3 f4 f5 f6:FuncId}(hf:Is P f (BA f1 f2 f3 f4 f5 f6))(h1:pt P f1)(h2:Is P f2 xg)(h3:qI P f3)(h4:qL P f4)(h5:yk P f5)(u6:nQ P f6):uA P f:=by
 refine⟨hf.2,λL h r o x k hx u hk=>fS hf ?_⟩;obtain⟨R,out⟩:=x;simp only at u;have lt:=hx.lt;obtain⟨g,ff,ra⟩:=id hx.r;obtain⟨ma,ca,aa,oa⟩:=id hx.o;have rr:=ra.aA;have lr:=(UY.1 rr).1;have W:=eY.rd _ (F':=λm=>L m=2/\m<h.length) (λ_ y=>y) _ (eY.lt _ _ ra.fo);have hfl:=u.aG.1;simp only[fj.aJ]at rr;have R1:∀a,(h++[a])[r]?=_:=λa=>(eW.b1 a).aA rr;have B1:=gJ h (some (e_.aA 2 [[.aC r 21 0 0,.aC o 5 0 0]] false));have R5:∀a b c d e,(h++[a]++[b]++[c]++[d]++[e])[r]?=_:=λa b c d e=>((eW.b4 a b c d).tr (eW.b1 e)).aA rr;have NR:∀sz i o',gN (h.length+1) 4 (.aC r sz i o')=true:=λsz i o'=>ig (by omega);have NB:∀sz i o',gN (h.length+1) 4 (.aC h.length sz i o')=true:=λsz i o'=>ig (by omega);have U:∀a b c d e,mv (h++[a]++[b]++[c]++[d]++[e]) r R:=λa b c d e=>⟨g,ff,R5 a b c d e⟩;have a3:h.length+1+3=h.length+1+1+1+1:=rfl;have a2:h.length+1+2=h.length+1+1+1:=rfl;simp only[BA,go_sem,jh,R5,NR,NB,a2,a3];refine fZ h1.1 (h1.2 _ r R (U _ _ _ _ _) (u.aD hk)) ?_;simp only[go_sem,jh,R5,a2];obtain⟨H5,E⟩:∃H5,H5=h++[some (e_.aA 2 [[.aC r 21 0 0,.aC o 5 0 0]] false)]++[some (e_.aA 1 [[.aA .i64 R.id]] false)]++[some (e_.aA 1 [[.aA .i64 R.aL]] false)]++[some (e_.aA 1 [[.aG (h.length+1) 1 0 1 (some 1)]] false)]++[some (e_.aA 1 [[.aG (h.length+1+1) 1 0 1 (some 1)]] false)]:=⟨_,rfl⟩;have X5:eW eZ h H5:=by rw[E];exact (eW.b4 _ _ _ _).tr (eW.b1 _)
 have l5:H5.length=h.length+5:=by rw[E];simp
 have C:H5=h++[some (e_.aA 2 [[.aC r 21 0 0,.aC o 5 0 0]] false),some (e_.aA 1 [[.aA .i64 R.id]] false),some (e_.aA 1 [[.aA .i64 R.aL]] false),some (e_.aA 1 [[.aG (h.length+1) 1 0 1 (some 1)]] false),some (e_.aA 1 [[.aG (h.length+1+1) 1 0 1 (some 1)]] false)]:=by rw[E];simp
 have C0:H5[h.length]?=some (some (e_.aA 2 [[.aC r 21 0 0,.aC o 5 0 0]] false)):=by rw[C];exact uK 0
 have C1:H5[h.length+1]?=some (some (e_.aA 1 [[.aA .i64 R.id]] false)):=by rw[C];exact uK 1
 have C2:H5[h.length+1+1]?=some (some (e_.aA 1 [[.aA .i64 R.aL]] false)):=by rw[C];exact uK 2
 have C3:H5[h.length+1+1+1]?=some (some (e_.aA 1 [[.aG (h.length+1) 1 0 1 (some 1)]] false)):=by rw[C];exact uK 3
 have C4:H5[h.length+1+1+1+1]?=some (some (e_.aA 1 [[.aG (h.length+1+1) 1 0 1 (some 1)]] false)):=by rw[C];exact uK 4
 clear C;rw[<-E];clear E;have T0:qV (h.length+1) (h.length+1+1+1) (h.length+1+1+1+1) H5 [R.id] [R.aL]:=by
  refine⟨⟨_,_,λm=>m=h.length+1,λm=>m=h.length+1+1,C3,C4,λm hm=>⟨by omega,by omega,by omega,by omega⟩,λm hm=>⟨by omega,by omega,by omega⟩,?_,⟨_,_,C1,(λe=>by cases e),(λc hc=>by cases hc;simp)⟩,?_,⟨_,_,C2,(λe=>by cases e),(λc hc=>by cases hc;simp)⟩⟩,by omega,by omega,by omega,by omega,by omega⟩;·exact .inr (.inr ⟨_,0,some 1,_,_,rfl,rfl,C1,by simp,(λc hc=>by cases hc;simp),by simp[fG,fI,eY]⟩)
  ·exact .inr (.inr ⟨_,0,some 1,_,_,rfl,rfl,C2,by simp,(λc hc=>by cases hc;simp),by simp[fG,fI,eY]⟩)
 obtain⟨J,hJ⟩:∃J:Nat->eX->Prop,∀k h',J k h'↔qV (h.length+1) (h.length+1+1+1) (h.length+1+1+1+1) h' (R.id :: (R.aC.take k).map fV.aE) (R.aL :: (R.aC.take k).map fV.aD)/\eW (λm=>h.length+1<=m) H5 h':=⟨_,λ_ _=>WA⟩;have J1:∀k h',J k h'->Rd (λm=>L m=2/\m<h.length) h' (jN R.aC) ff:=by intro k h' hh;obtain⟨-,e⟩:=(hJ k h').1 hh;exact Rd.aE (λ_ y=>y) (λm hm y hy=>(e.2 m (by omega) (by omega)).trans (X5.aA hy)) _ _ W
 have J2:∀k (hk:k<R.aC.length) h' H,J k h'->eW eZ h' H->fC P f2 ([]++[.aF (R.aC[k]).aA]++[.aC (h.length+1+1+1) 1 0 0,.aC (h.length+1+1+1+1) 1 0 0]) H λ_ O=>J (k+1) O:=by intro k hk h' H hh hX;obtain⟨t,e⟩:=(hJ k h').1 hh;have ek:R.aC.take (k+1)=R.aC.take k++[R.aC[k]]:=VA hk;have tl:=Xk k R.aC;refine (SQ h2 (t.up hX) ⟨by simp;omega,by simp;omega⟩ R.aC[k]).aA λv O z=>(hJ _ _).2 ?_;rw[ek];refine⟨by rw[VJ,VJ];exact z.1,(e.aD (hX.aD z.2 (F'':=λm=>h.length+1<=m) (λ_ _ y=>y.elim) (λ_ _ y=>y)) (λ_ _ y=>y) (λ_ _ y=>y))⟩
 refine fy ⟨h3.1,h3.2 (λm=>L m=2/\m<h.length) H5 r R g ff f2 [] [.aC (h.length+1+1+1) 1 0 0,.aC (h.length+1+1+1+1) 1 0 0] J (X5.aA ra.aA) h2.2 (by omega) ((hJ _ _).2 ⟨by simpa using T0,eW.aC _ _⟩) J1 J2⟩ ?_;rintro _ h6 hh;obtain⟨t6,e6⟩:=(hJ _ _).1 hh;rw[VB]at t6;obtain⟨a,b,A,B,e2,e3,hA,hB,M,ca,ob,cb⟩:=t6.ex;have X6:eW eZ h h6:=⟨by have:=X5.1;have:=e6.1;omega,λm hm _=>(e6.2 m (by omega) (by omega)).trans (X5.2 m hm (λy=>y))⟩;have r6:=X6.aA rr;have l6:=X6.1;have b6:=(e6.2 h.length (by omega) (by omega)).trans C0;have sa:=M.aA;have sb:=ob.aA;have a4:=eY.rd _ (F':=A) (λ_ y=>y) _ M;have Z:=eY.rd _ (F':=B) (λ_ y=>y) _ ob;simp only[go_sem,b6,e2,e3];refine fZ h4.1 (h4.2 h6 r R ⟨g,ff,r6⟩ (u.aJ hk)) ?_;simp only[go_sem,b6,e2,e3];refine fZ h5.1 (h5.2 eZ A B h6 R.aM _ _ _ _ _ (vE eZ h6 R.aM) a4 Z (u.aO (by decide)) (by simp;omega) (by simp;omega)) ?_;simp only[go_sem,b6,r6,e2,e3];refine fZ u6.1 (u6.2 eZ h6 R.aA.aA _ _ (mX R.aA.aA h6) (u.aD hk)) ?_;have eS:R.aM.aT (R.id :: R.aC.map fV.aE) (R.aL :: R.aC.map fV.aD)=R.bu:=rfl;rw[eS];have I:=hx.up X6;have lr6:=(UY.1 r6).1;have no:R.aW=R->fB wA eZ L h r o (({r:=R,o:=out}:RX).aK) h6:=λe=>by
  have:(({r:=R,o:=out}:RX).aK)=⟨R,out⟩:=by show (⟨R.aW,out⟩:RX)=_;rw[e]
  rw[this];exact fB.aC X6 I.to
 simp only[go_sem,b6,r6];by_cases c1:R.aE<R.bu
 ·cases c2:R.aA.aA.aF R.bu;·simp only[go_sem,U3 c1];exact no (by unfold fj.aW;rw[U6 (by simp[c2])])
  ·by_cases c3:R.aA.aA.aH R.bu=R.aA.aC
   ·simp only[go_sem,b6,r6,U3 c1,U3 c3];obtain⟨g6,f6,ra6⟩:=I.r;obtain⟨ma6,ca6,aa6,a5⟩:=I.o;have e7:(({r:=R,o:=out}:RX).aK)=⟨{R with aE:=R.bu},out⟩:=by show (⟨R.aW,out⟩:RX)=_;unfold fj.aW;rw[U4 ⟨c1,c2,c3⟩]
    rw[e7];have a1:=(ra.aC (h':=h6) (λ_ _ _=>rfl) λm hm _=>X6.2 m hm (λy=>y));exact fB.aC X6 (h_.aD (R':={R with aE:=R.bu}) a1 a5 I.lt rfl rfl)
   ·simp only[go_sem,b6,r6,U3 c1,U2 c3];exact no (by unfold fj.aW;rw[U6 (λz=>c3 z.2.2)])
 ·simp only[go_sem,U2 c1];exact no (by unfold fj.aW;rw[U6 (λz=>c1 z.1)])
def yn (P:Program)(f:FuncId):Prop:=fK P f=true/\∀(F:Nat->Prop)(h:eX)(l:fA)(a:List AV)(prev:Int)(e:List fU)(b:AV),fu F h l.c a->Rd F h (gK e) b->jL l->lU e->
 fC P f [.aF a,.aA .i64 prev,b] h λr h'=>r=.aI [.aF (l.aE prev e).v,.aA .i64 (l.aI prev e)]/\h'=h
theorem vQ.p {P:Program}{f:FuncId}(hc:vQ P f):yn P f:=⟨hc.1,λF h l a prev e b ha hb hl he=>(hc.2 F h l a prev e b ha hb hl he).aC λ_ _ ⟨_,h1,h2,h3⟩=>⟨h3,_,h1▸gU.aC (gU.aA (fI.fz _ (λ_ x=>x) _ h2)) (gU.aD _ _),rfl⟩⟩
theorem jJ:¬wA 0:=λh=>h rfl
theorem fB.aA {W Q L h r o x h' m}{b:Option e_}(T:fB W Q L h r o x h')(h0:¬W (L m))(hq:¬Q m) (hb:h[m]?=some b):h'[m]?=some b:=by obtain⟨L1,x1,l1,e1⟩:=T;exact (e1.2 m (UY.1 hb).1 (λz=>z.elim h0 hq)).trans hb
theorem fB.aF {W Q L h r o x h'}(T:fB W Q L h r o x h'):mv h' r x.r:=let⟨_,x1,_⟩:=T;x1.aA
theorem h_.ge {L h r o x}(a:h_ L h r o x){m:Nat}(hm:h.length<=m):L m=0:=Vb λz=>by have:=a.lt m z;omega
theorem fB.aL {P:Program}{f:FuncId}{u:List AV}{W Q Q' L h r o x h' h3 x'}{K:AV->Prop}(T:fB W Q L h r o x h')(hx:eW eZ h' h3)(hQ:∀m,m<h.length->Q' m->Q m)
  (hc:∀L1,h_ L1 h' r o x->fC P f u h3 λv e=>K v/\fB W Q' L1 h3 r o x' e):fC P f u h3 λv e=>K v/\fB W Q L h r o x' e:=by
 obtain⟨L1,x1,l1,e1⟩:=T;refine (hc L1 x1).aA ?_;rintro v e ⟨k,b⟩;exact⟨k,fB.aE l1 e1 hQ (fB.aC hx b)⟩
theorem fB.aD {P:Program}{f:FuncId}{u:List AV}{W Q Q' L h r o x h' h3 x'}(T:fB W Q L h r o x h')(hx:eW eZ h' h3)(hQ:∀m,m<h.length->Q' m->Q m)
  (hc:∀L1,h_ L1 h' r o x->fC P f u h3 λ_ e=>fB W Q' L1 h3 r o x' e):fC P f u h3 λ_ e=>fB W Q L h r o x' e:=
 (T.aL (K:=λ_=>True) hx hQ λL1 x1=>(hc L1 x1).aA λ_ _ b=>⟨Vd,b⟩).aA λ_ _ b=>b.2
theorem fB.aH {W Q L h r o R R' out h' g f}(T:fB W Q L h r o ⟨R,out⟩ h') (row:h'[r]?=some (some (.aA 21 [R.aJ g f] false))) (e1:R'.aH=R.aH) (e2:R'.aC=R.aC) (hW:∀k,k≠0->W k):
  fB W Q L h r o ⟨R',out⟩ (h'.set r (some (.aA 21 [R'.aJ g f] false))):=by
 obtain⟨L1,x1,l1,e⟩:=T;obtain⟨g1,f1,ra⟩:=x1.r;obtain⟨ma,ca,aa,oa⟩:=x1.o;have:=ra.aA.symm.trans row;simp only[U_,e_.aA.injEq,Wc,fj.aJ]at this;obtain⟨-,⟨⟨-,-,-,-,-,-,-,-,-,-,-,-,-,-,-,-,-,rfl,rfl,-⟩,-⟩,-⟩:=this;exact fB.aE l1 e (λ_ _ y=>y) ((h_.aD (Q:=Q) ra oa x1.lt e1 e2).aG λk hk=>hW k hk)
theorem QW {F:Nat->Prop}{h:eX}{n:Nat}{t k:Int}{data:List Int}{d:AV}{G:Nat->Prop} (hb:h[n]?=some (some (.aA 3 [[.aA .i64 t,.aA .i64 k,d]] false))) (hd:Rd G h (gq data) d) (hF:∀m,G m->F m) (hn:F n):
  Rd F h (gK [⟨t,k,data⟩]) (.aG n 3 0 1 (some 1)):=by
 refine⟨_,.inr (.inr ⟨n,0,1,some 1,_,_,rfl,hn,hb,by simp,(λc hc=>by cases hc;omega),rfl⟩),?_⟩;simp only[Vv,VO,fU.c,fY,fu,Rd,V9,WU,List.take_zero];exact⟨_,_,rfl,⟨_,_,rfl,rfl,_,_,rfl,rfl,_,_,rfl,Rd.aE hF (λ_ _ _ y=>y) _ _ hd,rfl⟩,rfl⟩
def wC (P:Program)(f:FuncId):Prop:=fK P f=true/\∀(G:Nat->Prop)(L:Nat->Nat)(h:eX)(r o:Nat)(x:RX)(k j:Nat)(kind:Int)(data:List Int)(d:AV),h_ L h r o x->x.r.aD k->k<2^28->x.aC j->j<=2^20->Rd G h (gq data) d->gF data/\data.length<=2^16->ia kind->
 fC P f [.aF [.aC r 21 0 0,.aC o 5 0 0],.aA .i64 kind,d] h λv h'=>v=.aA .i64 (x.r.aL+1)/\fB wA eZ L h r o (x.aF kind data) h'
theorem RK {P:Program}{f f1 f2 f3 f4 f5:FuncId}(hf:Is P f (Bw f1 f2 f3 f4 f5))(u1:pt P f1)(u2:yn P f2)(u3:nP P f3)(u4:sK P f4)(u5:wE P f5):wC P f:=by
 refine⟨hf.2,λG L h r o x k j kind data d hx hfit hk hj hj2 hd hdata hkind=>fS hf ?_⟩;have hmore:=hfit.bB (e:=⟨x.r.aA.aC,kind,data⟩) ⟨hdata,⟨by have:=hfit.aI;show _<=x.r.aA.aC;omega,by have:=hfit.aI;show x.r.aA.aC<=_;omega⟩,hkind⟩;have hr:=GW x kind data;have ho:=GV x kind data;have elay:x.aF kind data=⟨(x.aF kind data).r,(x.aF kind data).o⟩:=rfl;rw[elay,hr,ho];obtain⟨R,out⟩:=x;simp only at hfit hmore hj ⊢;have lt:=hx.lt;obtain⟨g,ff,ra⟩:=id hx.r;have rr:=ra.aA;have lr:=(UY.1 rr).1;simp only[fj.aJ]at rr;have R1:∀a,(h++[a])[r]?=_:=λa=>(eW.b1 a).aA rr;have R2:∀a b,(h++[a]++[b])[r]?=_:=λa b=>(eW.b2 a b).aA rr;have sd:=hd.aA;have bl:=hfit.aC;have ll:=hfit.aF;have hl0:0<=R.aL:=by unfold fj.aL fA.aC;omega
 have hl1:R.aL<=2^40+k:=hfit.aF;have ew:IntKind.i64.wrap (R.aL+1)=R.aL+1:=gj (by omega);simp only[Bw,go_sem];refine fZ u1.1 (u1.2 _ r R ⟨g,ff,R1 _⟩ (hfit.aD (by omega))) ?_;obtain⟨H1,hH1⟩:∃H1,H1=h++[some (e_.aA 2 [[.aC r 21 0 0,.aC o 5 0 0]] false)]++[some (e_.aA 3 [[.aA .i64 R.aA.aC,.aA .i64 kind,d]] false)]:=⟨_,rfl⟩;have X1:eW eZ h H1:=by rw[hH1];exact eW.b2 _ _
 have l1:H1.length=h.length+2:=by rw[hH1];simp
 have C0:H1[h.length]?=some (some (e_.aA 2 [[.aC r 21 0 0,.aC o 5 0 0]] false)):=by rw[hH1];exact jx _ _ _
 have C1:H1[h.length+1]?=some (some (e_.aA 3 [[.aA .i64 R.aA.aC,.aA .i64 kind,d]] false)):=by rw[hH1];exact iF _ _ _
 have r1:=X1.aA rr;have lr1:=(UY.1 r1).1;have ne0:(r=h.length)=False:=Vm (by omega);have ap:=u2.2 (λ_=>True) H1 R.aA.aA _ R.aL [⟨R.aA.aC,kind,data⟩] (.aG (h.length+1) 3 0 1 (some 1)) (fu.aA (F:=eZ) (λ_ _=>Vd) (λ_ _ _ y=>y) _ _ (mX R.aA.aA H1)) (QW C1 (hd.up X1) (λ_ _=>Vd) Vd) (hfit.aD (by omega)) ⟨by simp,λe he=>by simp at he;subst he;show data.length<=_;omega⟩;have elaid:R.aA.aA.aE R.aL [⟨R.aA.aC,kind,data⟩]=⟨R.aA.aA.aA,R.aA.aA.aD,R.aA.aA.es++[⟨R.aA.aC,kind,data⟩]⟩:=tJ _ _;rw[elaid]at ap;simp only[fA.aM]at ap;simp only[go_sem,R1,R2,sd,gz sd];rw[<-hH1];clear hH1;refine fZ u2.1 ap ?_;rw[iG];simp only[go_sem,r1,C0,lr1,ne0];rw[ew];have hx1:=hx.up X1;have ra1:=(ra.aC (h':=H1) (λ_ _ _=>rfl) λm hm _=>X1.2 m hm (λy=>y));obtain⟨ma1,ca1,aa1,oa1⟩:=id hx1.o;obtain⟨R',hR'⟩:∃R':fj,R'={R with aA:={R.aA with aA:=⟨R.aA.aA.aA,R.aA.aA.aD,R.aA.aA.es++[⟨R.aA.aC,kind,data⟩]⟩}}:=⟨_,rfl⟩;have T1:fB wA eZ L H1 r o ⟨R',out⟩ (H1.set r (some (.aA 21 [R'.aJ g ff] false))):=h_.aD ra1 oa1 hx1.lt (by rw[hR']) (by rw[hR']);have hmore:R'.aD (k+1):=by rw[hR'];exact hmore
 obtain⟨H2,hH2⟩:∃H2,H2=H1.set r (some (.aA 21 [R'.aJ g ff] false)):=⟨_,rfl⟩;have row2:R'.aJ g ff=[.aA .i64 R.id,.aA .i64 R.aA.aE,.aA .i64 R.aA.aC,.aA .i64 R.aA.aF,.aA .i64 R.aA.aA.aA,.aA .i64 R.aA.aA.aD,jv (R.aA.aA.es++[⟨R.aA.aC,kind,data⟩]),ga R.aA.aD.aA,ga R.aA.aD.aC,ga R.aA.aD.aD,iS R.aA.aG,
  .aA .i64 R.aE,.aA .i64 R.aF,.aA .i64 R.aI,.aA .i64 R.aV,.aA .i64 R.aK,.aA .i64 R.aX,g,ff,.aA .i64 R.bw,.aA .i64 R.aN]:=by rw[hR'];rfl
 have r2:H2[r]?=some (some (.aA 21 [R'.aJ g ff] false)):=by rw[hH2];exact U5 lr1
 rw[<-hH2]at T1;rw[row2]at hH2 r2;rw[<-hH2];have eR'l:R'.aA.aA=⟨R.aA.aA.aA,R.aA.aA.aD,R.aA.aA.es++[⟨R.aA.aC,kind,data⟩]⟩:=by rw[hR']
 have eR'g:R'.aA.aE=R.aA.aE:=by rw[hR']
 have sl:=u3.2 eZ H2 R'.aA.aA _ (R.aL+1) 1 (mX R'.aA.aA H2) (hmore.aD (by omega));have es:R'.aA.aA.aJ (R.aL+1) 1=[⟨R.aA.aC,kind,data⟩]:=by rw[eR'l,<-tJ];exact Dk _ _
 rw[es,eR'l]at sl;simp only at sl;refine fy ⟨u3.1,sl⟩ ?_;rintro e1 H3 ⟨oe,-,X3⟩;have se:=oe.aA;have z2:∀m,L m=0->¬wA (L m):=λm e=>by rw[e];exact jJ
 have C2:=T1.aA (z2 _ (hx.ge (U8 _))) (λy=>y) C0;have C3:=X3.aA C2;rw[iG];have r3:=X3.aA r2;simp only[go_sem,C3,gz se,r3];have el:({gi.aI with aC:=2,aE:=R.aL+1,aA:=⟨0,0,[⟨R.aA.aC,kind,data⟩]⟩}:gi).aF e1 .aD .aD .aD .aD=[.aA .i64 2,.aA .i64 0,.aA .i64 0,.aA .i64 0,.aA .i64 (R.aL+1),.aA .i64 0,.aA .i64 0,e1,.aD,.aD,.aD,.aD,.aA .i64 0,.aA .i64 0,.aA .i64 0,.aA .i64 0,.aA .i64 0]:=rfl;have tl:=fB.aD (Q':=λm=>H2.length<=m) T1 X3 (λm hm (z:H2.length<=m)=>by rw[hH2,U9]at z;omega) λL1 x1=>(u4.2 (λm=>H2.length<=m) L1 H3 r o _ {gi.aI with aC:=2,aE:=R.aL+1,aA:=⟨0,0,[⟨R.aA.aC,kind,data⟩]⟩} e1 .aD .aD .aD .aD (x1.up X3) oe (eY.aD 1) (eY.aD 1) (eY.aD 1) (eY.aD 1) (λn hn=>x1.ge hn) (by have:=hj.2;show (out.aC.length+1)*216<=2^46;have a:out.aC.length+1<=2^21:=by {have b:out.aC.length<=j:=this;omega};exact Vh (VU 216 a) (by decide))).aA λ_ _ b=>b.aG m8;rw[el]at tl;refine fy ⟨u4.1,tl⟩ ?_;intro _ H4 T2;have D2:=T2.aA (z2 _ (hx.ge (U8 _))) (λy=>y) C0;rw[iG];simp only[go_sem,D2];have eT:(({r:=R',o:=out}:RX).aX {gi.aI with aC:=2,aE:=R.aL+1,aA:=⟨0,0,[⟨R.aA.aC,kind,data⟩]⟩})=⟨R',{out with aC:=out.aC++[{gi.aI with aC:=2,aH:=R.aA.aE,aE:=R.aL+1,aA:=⟨0,0,[⟨R.aA.aC,kind,data⟩]⟩}]}⟩:=by unfold RX.aX;simp only[eR'g]
 rw[eT]at T2;by_cases c:kind=2
 ·simp only[go_sem,U3 c,D2];have mt:=fB.aD (Q':=eZ) T2 (eW.aC _ _) (λ_ _ y=>y) λL1 x1=>u5.2 L1 H4 r o _ (k+1) R.aL x1 hmore (by omega) ⟨hl0,by omega⟩;refine fy ⟨u5.1,mt⟩ ?_;intro _ H5 T3;rw[U4 c,<-hR'];simp only[go_sem,ew];have e5:R'.aC=R.aC:=by rw[hR']
  rw[<-e5];exact fB.aC X1 T3
 ·rw[U6 c,<-hR'];simp only[go_sem,U2 c,ew];exact fB.aC X1 T2
def wD (P:Program)(f:FuncId):Prop:=fK P f=true/\∀(L:Nat->Nat)(h:eX)(r o:Nat)(x:RX)(k j:Nat),h_ L h r o x->x.r.aD k->k<2^28->x.aC j->j<2^20->
 fC P f [.aF [.aC r 21 0 0,.aC o 5 0 0]] h λ_ h'=>fB wA eZ L h r o x.aN h'
theorem RL {P:Program}{f f1 f2 f3 f4 f5 f6:FuncId}(hf:Is P f (Bx f1 f2 f3 f4 f5 f6))(u1:pt P f1)(u2:wE P f2)(u3:wC P f3)(u4:qU P f4)(u5:qI P f5)(u6:uA P f6):wD P f:=by
 refine⟨hf.2,λL h r o x k j hx u hk hj hj2=>fS hf ?_⟩;obtain⟨R,out⟩:=x;simp only at u;have lt:=hx.lt;have X1:=eW.b1 (h:=h) (some (e_.aA 2 [[.aC r 21 0 0,.aC o 5 0 0]] false));have E:=hx.up X1;obtain⟨g,ff,ra⟩:=E.r;obtain⟨ma,ca,aa,oa⟩:=E.o;have rr:=ra.aA;have lrh:r<h.length:=lt r (by rw[ra.lr];omega);have U:r<h.length+1:=by omega
 simp only[fj.aJ]at rr;have B1:=gJ h (some (e_.aA 2 [[.aC r 21 0 0,.aC o 5 0 0]] false));have ne:(r=h.length)=False:=Vm (by omega);simp only[Bx,go_sem,rr,ne,B1,U,U9,VX];have T0:fB wA eZ L (h++[some (e_.aA 2 [[.aC r 21 0 0,.aC o 5 0 0]] false)]) r o ⟨{R with aI:=2,aV:=R.id,aN:=0,aH:=[],aC:=[]},out⟩ _:=h_.aE (R':={R with aI:=2,aV:=R.id,aN:=0,aH:=[],aC:=[]}) ra oa E.lt rfl rfl;simp only[fj.aJ]at T0;have z2:∀m,h.length<=m->¬wA (L m):=λm e=>by rw[hx.ge e];exact jJ
 generalize List.set (h++[some (e_.aA 2 [[.aC r 21 0 0,.aC o 5 0 0]] false)]) r _=H1 at *;have D0:=T0.aA (z2 _ (U8 _)) (λy=>y) B1;have hl1:R.aL<=2^40+k:=u.aF;have W:0<=R.aL:=by have:=u.aC;unfold fj.aL fA.aC;omega
 have f0:({R with aI:=2,aV:=R.id,aN:=0,aH:=[],aC:=[]}:fj).aD k:=by obtain⟨g1,g2,g3,g4,g5,g6,g7,g8,g9,a2,g11,a1,g13,g14,Z⟩:=u;exact⟨g1,g2,g3,g4,g5,g6,g7,g8,g9,a2,⟨Vi _,by show (0:Int)<=1;omega⟩,a1,by simp,⟨by simp,by simp⟩,Z⟩
 have el:({R with aI:=2,aV:=R.id,aN:=0,aH:=[],aC:=[]}:fj).aL=R.aL:=rfl;refine fZ u1.1 (by have:=u1.2 H1 r _ T0.aF (f0.aD (by omega));rw[el]at this;exact this) ?_;have M:∃g f,H1[r]?=some (some (.aA 21 [({R with aI:=2,aV:=R.id,aN:=0,aH:=[],aC:=[]}:fj).aJ g f] false)):=T0.aF;obtain⟨g1,ff1,C⟩:=M;simp only[fj.aJ]at C;simp only[go_sem,D0];have mt:=fB.aD (Q':=eZ) T0 (eW.aC _ _) (λ_ _ y=>y) λL1 x1=>u2.2 L1 H1 r o _ k R.aL x1 f0 (by omega) ⟨W,by omega⟩;refine fy ⟨u2.1,mt⟩ ?_;intro _ H2 T2;have D2:=T2.aA (z2 _ (U8 _)) (λy=>y) B1;have I:({R with aI:=2,aV:=R.id,aN:=0,aH:=[],aC:=[]}:fj).a_ ({R with aI:=2,aV:=R.id,aN:=0,aH:=[],aC:=[]}:fj).aC R.aL=R.aY:=rfl;simp only[I]at T2;have f2:=u.aV (by omega);simp only[go_sem,D2];have O:=fB.aL (Q':=eZ) T2 (eW.aC _ _) (λ_ _ y=>y) λL1 x1=>u3.2 eZ L1 H2 r o ⟨R.aY,out⟩ k j 0 [] .aD x1 f2 hk hj (by omega) (Rd.aK 1) ⟨λ_ h=>by simp at h,by simp⟩ ⟨by omega,by omega⟩;refine fy ⟨u3.1,O⟩ ?_;rintro _ H3 ⟨-,T3⟩;have D3:=T3.aA (z2 _ (U8 _)) (λy=>y) B1;have f3:(({r:=R.aY,o:=out}:RX).aF 0 []).r.aD (k+1):=fj.aD.aT (x:={r:=R.aY,o:=out}) (kind:=0) (data:=[]) f2 (by omega) ⟨λ_ h=>by simp at h,by simp⟩ ⟨by omega,by omega⟩;have j3:(({r:=R.aY,o:=out}:RX).aF 0 []).aC (j+1):=RX.aC.aE (x:={r:=R.aY,o:=out}) hj 0 [];simp only[go_sem,D3];have et:=fB.aD (Q':=eZ) T3 (eW.aC _ _) (λ_ _ y=>y) λL1 x1=>(Ch u5 u4 x1 f3 (by omega) j3 (by omega)).aA λ_ _ b=>b.aG m8;refine fy ⟨u5.1,et⟩ ?_;intro _ H4 T4;have D4:=T4.aA (z2 _ (U8 _)) (λy=>y) B1;have f4:(({r:=R.aY,o:=out}:RX).aF 0 []).on.r.aD (k+1):=by show (RX.aM _ _).r.aD (k+1);rw[(tg _ _).1];exact f3
 simp only[go_sem,D4];have st:=fB.aD (Q':=eZ) T4 (eW.aC _ _) (λ_ _ y=>y) λL1 x1=>u6.2 L1 H4 r o _ (k+1) x1 f4 (by omega);refine fy ⟨u6.1,st⟩ ?_;intro _ H5 T5;simp only[go_sem];exact fB.aC X1 T5
end Glb
