/-
  A library of its own.
-/
import Derived.Test.YtdeiamnhnfmilaaGreatGlbRafA
import Derived.Test.YtdeiamnhnfmilaaGreatGlbLaid
set_option linter.unusedSimpArgs false
set_option linter.unusedVariables false
set_option maxRecDepth 10000
set_option maxHeartbeats 8000000
open Nat (reduceAdd)
namespace Glb
open Go
variable {P:Program}{f f1 f2 f3 f4 f5:FuncId}
theorem zE:∀(l:List Int)(a:Int),kM l->(∀m∈l,a<=m/\m<=7)->a<=8->(l.length:Int)<=8-a
 | [],a,_,_,h=>by simp;omega
 | x :: l,a,h1,h2,h3=>by have h4:=Y_.1 h1;have hx:=h2 x ς;have:=zE l (x+1) h4.2 (λm hm=>⟨by have:=h4.1 m hm;omega,(h2 m (by simp[hm])).2⟩) ω;simp only[Xf];omega
theorem nE {x:fI}(h:x.aF=true):x.aH 7:=by obtain⟨-,⟨h1,h2⟩,⟨h3,h4⟩,⟨h5,h6⟩,-⟩:=xb.1 h;have a:=zE _ 1 h1 h2 ω;have b:=zE _ 1 h3 h4 ω;have c:=zE _ 1 h5 h6 ω;exact⟨ω,ω,ω⟩
theorem fI.aH.le {x:fI}{a b:Nat}(h:x.aH a)(e:a<=b):x.aH b:=⟨Xg h.1 e,Xg h.2.1 e,Xg h.2.2 e⟩
theorem wC {l:List Int}(h:(iG l).2=0):(iG l).1.aF=true:=by
 simp only[iG]at h ⊢;by_cases c:(jz.aA (some l)).2.aD=0
 ·have c':¬(jz.aA (some l)).2.aD≠0:=by simpa using c
  rw[WY c']at h ⊢;by_cases o:(jz.aA (some l)).1.aF=true;·rw[WW o];exact o
  ·rw[WY o]at h;cases h
 ·rw[WW c]at h;exact absurd h c
theorem fP.aR (x:fP)(h:x.aD.aF=true):∀k,k<=x.aA.es.length->(x.aK k).1.aF=true/\x.aA.aA<=(x.aK k).2/\(x.aK k).2<=x.aA.aA+k
 | 0,_=>⟨h,W9 _,Int.le_of_eq (by show x.aA.aA=_;simp)⟩
 | k+1,hk=>by
  rw[fP.aS hk];split;·rename_i c;exact⟨wC c.2,by show x.aA.aA<=x.aA.aA+1+k;omega,by show x.aA.aA+1+(k:Int)<=_;omega⟩
  ·obtain⟨a,b,c⟩:=fP.aR x h k ω;exact⟨a,b,ω⟩
theorem fP.aQ {x:fP}(h:x.aD.aF=true):x.of.1.aF=true/\x.aA.aA<=x.of.2/\x.of.2<=x.aA.aC:=fP.aR x h _ (WX _)
def fS.aG (w:fS):Prop:=(1<=w.aA/\w.aA<=7)/\(0<=w.aD/\w.aD<=2^41)/\(0<=w.aC/\w.aC<=2^40)
theorem fS.aG.aA {w:fS}(h:w.aG):w.aJ:=by obtain⟨⟨h1,h2⟩,⟨h3,h4⟩,h5,h6⟩:=h;exact⟨⟨ω,h3,h5⟩,ω,ω,ω⟩
def gw.aG (e:gw):Prop:=(gT e.aD/\e.aD.length<=2^16)/\iA e.aA/\iA e.aC
structure fy.aG (k:Nat)(x:fy):Prop where
 aD:0<=x.aA.aA.aA/\x.aA.aA.aA<=2^40+k
 aF:x.aA.aA.es.length<=k
 aJ:x.aA.aA.aC<=2^40+k
 aI:∀e∈x.aA.aA.es,e.aG
 aH:x.aA.aD.aF=true
 aU:gT x.aA.aG/\x.aA.aG.length<=2^16
 aG:0<=x.aA.aC/\x.aA.aC<=2^40
 aO:iA x.aA.aE/\iA x.aA.aF/\iA x.aA.aA.aD
 aP:x.aA.aA.aA<=x.aI/\x.aI<=x.aD/\x.aD<=x.aA.aA.aC
 aY:0<=x.aF/\x.aF<=k
 aX:0<=x.aM/\x.aM<=1
 bL:0<=x.bG/\x.bG<=k
 aZ:x.aJ.length<=k+1
 aE:x.aC.length<=21/\∀w∈x.aC,w.aG
 id:1<=x.id/\x.id<=7
theorem fy.aG.aA {k k':Nat}{x:fy}(h:x.aG k)(hk:k<=k'):x.aG k':=by obtain⟨h1,h2,h3,h4,h5,h6,h7,h8,h9,h10,E,h12,h13,u,e⟩:=h;exact⟨⟨h1.1,ω⟩,ω,ω,h4,h5,h6,h7,h8,h9,ω,E,ω,ω,u,e⟩
section
variable {k:Nat} {x:fy}
theorem fy.aG.bJ (h:x.aG k)(hk:k<=2^28):mS x.aA.aA.es:=⟨by have:=h.aF;omega,λe he=>by have:=(h.aI e he).1.2;omega⟩
theorem fy.aG.aC (h:x.aG k)(hk:k<=2^28):kh x.aA.aA:=⟨h.aD.1,by have:=h.aD.2;omega,h.bJ hk⟩
theorem fy.aG.aL (h:x.aG k)(hk:k<=2^28):x.aA.aO:=⟨⟨h.aD.1,by have:=h.aD.2;omega⟩,by have:=h.aF;omega,λe he=>⟨(h.aI e he).1.1,by have:=(h.aI e he).1.2;omega⟩,(nE h.aH).le ω⟩
theorem fy.aG.bA (h:x.aG k)(hk:k<=2^28):x.aA.aP:=⟨h.aC hk,(nE h.aH).le ω,by have:=h.aU.2;omega⟩
theorem fy.aG.aQ (h:x.aG k):x.aN.aF=true:=(fP.aQ h.aH).1
theorem fy.aG.aM (h:x.aG k){n:Nat}(hn:7<=n):x.aN.aH n:=(nE h.aQ).le hn
end
theorem zT {x:fI}(h:x.aF=true):x.aI.length<=14:=by have u:=zO (x.aA++x.aC);have f:=nE h;simp only[WT]at u;have:=f.1;have:=f.2.1;simp only[fI.aI];omega
theorem D8 {x:fI}(h:x.aF=true):x.aM.length<=21:=by have u:=zO (x.aA++x.aC++x.aD);have f:=nE h;simp only[WT]at u;have:=f.1;have:=f.2.1;have:=f.2.2;simp only[fI.aM];omega
theorem QS {x:fI}(h:x.aF=true){n:Int}(hn:n∈x.aM):1<=n/\n<=7:=by
 obtain⟨-,⟨-,h2⟩,⟨-,h4⟩,⟨-,h6⟩,-⟩:=xb.1 h;have:=((J6 _).2 n).1 hn;simp only[Xe]at this;rcases this with (a | a) | a;·exact h2 n a
 ·exact h4 n a
 ·exact h6 n a
section
variable {k:Nat} {x:fy}
theorem fy.aG.aK (h:x.aG k)(l:Int):(x.aW l).aG k:=by obtain⟨h1,h2,h3,h4,h5,h6,h7,h8,h9,I,E,u,h13,h14,e⟩:=h;exact⟨h1,h2,h3,h4,h5,h6,h7,h8,h9,I,E,u,by simp[fy.aW],⟨by simp[fy.aW],by simp[fy.aW]⟩,e⟩
theorem fy.aG.aW (h:x.aG k){t v:Int}(ht:0<=t/\t<=2^40)(hv:iA v):({x with aA:={x.aA with aC:=t,aF:=v}}:fy).aG k:=by obtain⟨h1,h2,h3,h4,h5,h6,h7,h8,h9,U,O,I,E,u,e⟩:=h;exact⟨h1,h2,h3,h4,h5,h6,ht,⟨h8.1,hv,h8.2.2⟩,h9,U,O,I,E,u,e⟩
theorem QR {was:List fS}{node last:Int}:mE was node last=⟨node,last+1,0,0⟩\/(mE was node last∈was/\(mE was node last).aA=node):=by
 unfold mE;cases hf:was.find? λf=>decide (f.aA=node) with
 | none=>exact .inl rfl
 | some f=>exact .inr ⟨List.mem_of_find?_eq_some hf,by simpa using List.find?_some hf⟩
theorem fy.aG.bC (h:x.aG k){was:List fS}{last:Int}(hw:∀w∈was,w.aG)(hl:0<=last/\last<2^41):(x.bD was last).aG k:=by
 have hn:=h.aQ;obtain⟨h1,h2,h3,h4,h5,h6,h7,h8,h9,W,U,O,I,h14,E⟩:=h;refine⟨h1,h2,h3,h4,h5,h6,h7,h8,h9,W,U,O,I,⟨?_,?_⟩,E⟩;·simp only[fy.bD,Xd];exact Xg (YN _ _) (D8 hn)
 ·intro w u;simp only[fy.bD,XO,Zg]at u;obtain⟨n,⟨hm,-⟩,rfl⟩:=u;have:=QS hn hm;rcases QR (was:=was) (node:=n) (last:=last) with e | ⟨e,-⟩;·rw[e];exact⟨this,⟨by show 0<=last+1;omega,by show last+1<=_;omega⟩,ς⟩
  ·exact hw _ e
theorem fG.aQ (l:fG)(e:gw):l.aE l.aC [e]=⟨l.aA,l.aD,l.es++[e]⟩:=Glb.tw l e
theorem fy.aG.bD (h:x.aG k){e:gw}(he:e.aG):({x with aA:={x.aA with aA:=⟨x.aA.aA.aA,x.aA.aA.aD,x.aA.aA.es++[e]⟩}}:fy).aG (k+1):=by
 obtain⟨h1,h2,h3,h4,h5,h6,h7,h8,h9,E,W,u,U,O,I⟩:=h;have el:(⟨x.aA.aA.aA,x.aA.aA.aD,x.aA.aA.es++[e]⟩:fG).aC=x.aA.aA.aC+1:=by unfold fG.aC;simp;omega
 refine⟨⟨h1.1,Y9 h1.2 ω⟩,by simp;omega,by rw[el];omega,?_,h5,h6,h7,h8,⟨h9.1,h9.2.1,by rw[el];exact Y9 h9.2.2 ω⟩,⟨E.1,Y9 E.2 ω⟩,W,⟨u.1,Y9 u.2 ω⟩,Xg U ω,O,I⟩;intro y hy;simp only[Xe,XN]at hy;rcases hy with hy | rfl;·exact h4 y hy
 ·exact he
end
theorem Iu (x:RX)(kind:Int)(data:List Int):(x.aF kind data).r=if kind=2 then ({x.r with aA:={x.r.aA with aA:=⟨x.r.aA.aA.aA,x.r.aA.aA.aD,x.r.aA.aA.es++[⟨x.r.aA.aC,kind,data⟩]⟩}}:fy).bD x.r.aC x.r.aO
  else {x.r with aA:={x.r.aA with aA:=⟨x.r.aA.aA.aA,x.r.aA.aA.aD,x.r.aA.aA.es++[⟨x.r.aA.aC,kind,data⟩]⟩}}:=by
 unfold RX.aF;simp only[fy.aO,fG.aQ];split<;>rfl
theorem It (x:RX)(kind:Int)(data:List Int):(x.aF kind data).o={x.o with aC:=x.o.aC++[{gE.aI with aC:=2,aH:=x.r.aA.aE,aE:=x.r.aO+1,aA:=⟨0,0,[⟨x.r.aA.aC,kind,data⟩]⟩}]}:=by have e:((x.r.aA.aA.aE x.r.aA.aA.aC [⟨x.r.aA.aC,kind,data⟩]).aH (x.r.aA.aA.aC+1) 1)=[⟨x.r.aA.aC,kind,data⟩]:=EK _ _;unfold RX.aF;simp only[fy.aO,e];split<;>rfl
theorem fy.aG.aT {k:Nat}{x:RX}(h:x.r.aG k)(hk:k<=2^28){kind:Int}{data:List Int}(hd:gT data/\data.length<=2^16)(E:iA kind):(x.aF kind data).r.aG (k+1):=by
 rw[Iu];have ht:=h.aG;have m:=h.bD (e:=⟨x.r.aA.aC,kind,data⟩) ⟨hd,⟨by show _<=x.r.aA.aC;omega,by show x.r.aA.aC<=_;omega⟩,E⟩;have hl:=h.aJ;have hb:=h.aD;have u:0<=x.r.aA.aA.aC:=by unfold fG.aC;omega
 split;·exact m.bC h.aE.2 ⟨u,by show x.r.aA.aA.aC<_;omega⟩
 ·exact m
theorem fy.aG.bz {k:Nat}{x:fy}(h:x.aG k){c:Int}(h1:x.aD<=c)(h2:c<=x.aA.aA.aC):({x with aD:=c}:fy).aG k:=by obtain⟨g1,g2,g3,g4,g5,g6,g7,g8,g9,U,O,I,E,u,e⟩:=h;exact⟨g1,g2,g3,g4,g5,g6,g7,g8,⟨g9.1,by show x.aI<=c;omega,h2⟩,U,O,I,E,u,e⟩
theorem fy.aG.aR {k:Nat}{x:fy}(h:x.aG k):x.aY.aG k:=by
 unfold fy.aY;split;·rename_i c;exact h.bz ω (lF.1 c.2.1).2
 ·exact h
theorem uK (l:List fS):∀x:RX,(x.aN l).r=x.r/\(x.aN l).o.aC=x.o.aC/\(x.aN l).o.aA.length=x.o.aA.length+l.length:=by
 induction l with
 | nil=>intro x;exact⟨rfl,rfl,rfl⟩
 | cons w l ih=>intro x;obtain⟨h1,h2,h3⟩:=ih (x.to w);refine⟨h1,h2,?_⟩;show ((x.to w).aN l).o.aA.length=_;rw[h3];show (x.o.aA++[_]).length+l.length=_;simp;omega
theorem EH (l:List fF):∀x:RX,(x.aK l).r=x.r/\(x.aK l).o.aC=x.o.aC/\(x.aK l).o.aA.length=x.o.aA.length+l.length:=by
 induction l with
 | nil=>intro x;exact⟨rfl,rfl,rfl⟩
 | cons w l ih=>intro x;obtain⟨h1,h2,h3⟩:=ih (x.aI w);refine⟨h1,h2,?_⟩;show ((x.aI w).aK l).o.aA.length=_;rw[h3];show (x.o.aA++[_]).length+l.length=_;simp;omega
def RX.aC (j:Nat)(x:RX):Prop:=x.o.aA.length<=j/\x.o.aC.length<=j
theorem RX.aC.aA {j j':Nat}{x:RX}(h:x.aC j)(hj:j<=j'):x.aC j':=⟨Xg h.1 hj,Xg h.2 hj⟩
theorem RX.aC.aC {j:Nat}{x:RX}(h:x.aC j)(m:fF):(x.aI m).aC (j+1):=⟨by show (x.o.aA++[_]).length<=_;simp;exact h.1,by have:=h.2;show x.o.aC.length<=_;omega⟩
theorem RX.aC.aD {j:Nat}{x:RX}(h:x.aC j)(c:gE):(x.aX c).aC (j+1):=⟨by have:=h.1;show x.o.aA.length<=_;omega,by show (x.o.aC++[_]).length<=_;simp;exact h.2⟩
theorem RX.aC.aE {j:Nat}{x:RX}(h:x.aC j)(kind:Int)(data:List Int):(x.aF kind data).aC (j+1):=by unfold RX.aC;rw[It];exact⟨by have:=h.1;show x.o.aA.length<=_;omega,by show (x.o.aC++[_]).length<=_;simp;exact h.2⟩
theorem RX.aC.aF {j:Nat}{x:RX}(h:x.aC j){l:List fS}(hl:l.length<=21):(x.aN l).aC (j+21):=by obtain⟨-,h2,h3⟩:=uK l x;exact⟨by have:=h.1;omega,by have:=h.2;rw[h2];omega⟩
theorem RX.aC.aH {j:Nat}{x:RX}(h:x.aC j){l:List fF}(hl:l.length<=21):(x.aK l).aC (j+21):=by obtain⟨-,h2,h3⟩:=EH l x;exact⟨by have:=h.1;omega,by have:=h.2;rw[h2];omega⟩
def fy.bE (x:fy):fy:=({x with aE:=2,aR:=x.id,aM:=0,aJ:=[],aC:=[]}:fy).bD [] x.aO
theorem Ql (x:RX):x.aL=(((({x with r:=x.r.bE}:RX).aF 0 []).on).aM):=rfl
theorem fy.aG.aV {k:Nat}{x:fy}(h:x.aG k)(hk:k<=2^28):x.bE.aG k:=by
 have hb:=h.aD;have hl:=h.aJ;have e:0<=x.aA.aA.aC:=by unfold fG.aC;omega
 have h0:({x with aE:=2,aR:=x.id,aM:=0,aJ:=[],aC:=[]}:fy).aG k:=by obtain⟨g1,g2,g3,g4,g5,g6,g7,g8,g9,I,g11,E,g13,g14,u⟩:=h;exact⟨g1,g2,g3,g4,g5,g6,g7,g8,g9,I,⟨W9 _,by show (0:Int)<=1;omega⟩,E,ς,⟨ς,ς⟩,u⟩
 exact h0.bC ς ⟨e,by show x.aA.aA.aC<_;omega⟩
theorem fy.aG.bB {k:Nat}{x:RX}(h:x.r.aG k)(hk:k<=2^28):x.aL.r.aG (k+1):=by have h1:=h.aV hk;have h2:(({x with r:=x.r.bE}:RX).aF 0 []).r.aG (k+1):=fy.aG.aT (x:={x with r:=x.r.bE}) (kind:=0) (data:=[]) h1 hk ⟨λ_ h=>by simp at h,ς⟩ ⟨ω,ω⟩;rw[Ql];show ((({x with r:=x.r.bE}:RX).aF 0 []).on).r.aY.aG (k+1);refine fy.aG.aR ?_;show ((({x with r:=x.r.bE}:RX).aF 0 []).aN _).r.aG (k+1);rw[(uK _ _).1];exact h2
theorem RX.aC.aG {k j:Nat}{x:RX}(h:x.r.aG k)(hk:k<=2^28)(hj:x.aC j):x.aL.aC (j+22):=by have h1:=h.aV hk;have h2:(({x with r:=x.r.bE}:RX).aF 0 []).r.aG (k+1):=fy.aG.aT (x:={x with r:=x.r.bE}) (kind:=0) (data:=[]) h1 hk ⟨λ_ h=>by simp at h,ς⟩ ⟨ω,ω⟩;have h3:(({x with r:=x.r.bE}:RX).aF 0 []).aC (j+1):=RX.aC.aE (x:={x with r:=x.r.bE}) hj 0 [];have h4:=h3.aF h2.aE.1;have e:x.aL.o=((({x with r:=x.r.bE}:RX).aF 0 []).aN (({x with r:=x.r.bE}:RX).aF 0 []).r.aC).o:=rfl;unfold RX.aC at h4 ⊢;rw[e];exact⟨Xg h4.1 ω,Xg h4.2 ω⟩
variable {P:Program}{f f1 f2 f3 f4 f5:FuncId}
theorem zB {w:fS}{F:Nat->Prop}{h:fu}{a:List AV}(hh:fH F h w.c a):a=w.aF:=by simp only[fS.c,fH,Rd]at hh;obtain⟨_,_,rfl,rfl,_,_,rfl,rfl,_,_,rfl,rfl,_,_,rfl,rfl,rfl⟩:=hh;rfl
def sk (P:Program)(f:FuncId):Prop:=fZ P f=true/\∀(G:Nat->Prop)(h:fu)(r:Nat)(x:fy)(gg ff:AV)(g:FuncId)(fs cs:List AV)(J:Nat->fu->Prop),h[r]?=some (some (.aA 21 [x.aL gg ff] false))->fZ P g=true->x.aC.length<=2^20->J 0 h->
 (∀k h',J k h'->Rd G h' (oY x.aC) ff)->(∀k (hk:k<x.aC.length) h' H,J k h'->fq fB h' H->fO P g (fs++[.aF (x.aC[k]).aF]++cs) H λ_ h''=>J (k+1) h'')->
 fO P f [.aA r 21 0 0,.aL g fs cs] h λ_ h'=>J x.aC.length h'
theorem Oa (hf:Is P f CE):sk P f:=by
 refine⟨hf.2,λG h r x gg ff g fs cs J hr hg hl O hJ hB=>gy hf ?_⟩;have rr:=hr;simp only[fy.aL]at rr;have lf:iJ ff=some (ι x.aC.length):=by have:=(hJ 0 h O).aC;simpa [oY] using this
 simp only[CE,go_sem,rr,lf];obtain⟨I,hI⟩:∃I:Nat->gx->fu->Prop,∀m L h',I m L h'↔∃i:Nat,lk 1 L=.aL g fs cs/\lk 9 L=ff/\lk 10 L=ι x.aC.length/\lk 11 L=ι i/\J i h'/\i<=x.aC.length/\m=x.aC.length-i:=⟨_,λ_ _ _=>YD⟩;refine iP I x.aC.length ((hI _ _ _).2 ⟨0,by simp[fE,iw],by simp[fE],by simp[fE],by simp[fE],O,ω,ω⟩) ?_;intro m L h' hh;obtain⟨i,k1,k9,E,e,u,hi,rfl⟩:=(hI _ _ _).1 hh;simp only[Hc,go_sem,E,e];refine iQ (λci=>?_) (λci=>?_)
 ·simp at ci;have ci:i<x.aC.length:=ω;have ew:IntKind.i64.wrap ((i:Int)+1)=((i+1:Nat):Int):=by rw[gF ω];omega
  obtain⟨p,c,i1,i2,i3⟩:=Rd.aD (hJ i h' u) .i64 (i:=(i:Int)) (d:=x.aC[i].c) ω (by rw[show ((i:Int)).toNat=i by omega,XR,WU ci];rfl);obtain rfl:=zB i3;have ld:iK h' true 4 p=some (.aF x.aC[i].aF):=by rw[jN i2];rfl
  have hc:=hB i ci h';generalize x.aC[i]=w at *;simp only[fS.aF]at ld hc;simp only[go_sem,k1,k9,e,i1,ld];refine fK ⟨hg,hc _ u (fq.b1 _)⟩ ?_;intro _ h2 j2;simp only[go_sem,e,ew];exact⟨_,ω,(hI _ _ _).2 ⟨i+1,by simp[fE,k1],by simp[fE,k9],by simp[fE,E],by simp[fE],j2,ω,rfl⟩⟩
 ·simp at ci;have:i=x.aC.length:=ω;subst this;simp only[go_sem];exact u
theorem Ob (x:RX)(l:List fS)(w:fS):x.aN (l++[w])=(x.aN l).to w:=by unfold RX.aN;rw[List.foldl_append];rfl
theorem Dz {fe ft:FuncId}(he:sk P fe)(ht:sM P ft){L:Nat->Nat}{h:fu}{r o:Nat}{x:RX}{k j:Nat}(hx:iv L h r o x)(hf:x.r.aG k)(hk:k<=2^28)(hj:x.aC j)(hj2:j<=2^20):
  fO P fe [.aA r 21 0 0,.aL ft [.aF [.aA r 21 0 0,.aA o 5 0 0]] []] h λ_ h'=>fJ wO fB L h r o x.on h':=by
 have E:=hf.bA hk;have hl:=hf.aE.1;have hp:=hf.aE.2;obtain⟨g,f,ra⟩:=hx.r;have row:=ra.aA;have fl:=fA.lt _ _ ra.fo;have jm:=hj.1;clear hf hj;obtain⟨J,hJ⟩:∃J:Nat->fu->Prop,∀k h',J k h'↔fJ wO fB L h r o (x.aN (x.r.aC.take k)) h':=⟨_,λ_ _=>YD⟩;have J0:J 0 h:=(hJ 0 h).2 hx.to;have J1:∀k h',J k h'->Rd (λm=>L m=2/\m<h.length) h' (oY x.r.aC) f:=by
  intro k h' hh;obtain⟨L1,x1,l1,e1⟩:=(hJ k h').1 hh;refine Rd.aE (λ_ y=>y) ?_ _ _ (fA.rd _ (λ_ y=>y) _ fl);intro m hm y hy;refine (e1.2 m hm.2 ?_).trans hy;rintro (z | z);·rw[hm.1]at z;unfold wO at z;omega
  ·exact z
 have J2:∀k (hk:k<x.r.aC.length) h' H,J k h'->fq fB h' H->fO P ft ([.aF [.aA r 21 0 0,.aA o 5 0 0]]++[.aF (x.r.aC[k]).aF]++[]) H λ_ u=>J (k+1) u:=by
  intro k hk h' H hh hX;have T:=(hJ k h').1 hh;have e:=uK (x.r.aC.take k) x;have ek:x.r.aC.take (k+1)=x.r.aC.take k++[x.r.aC[k]]:=XE hk;have eJ:∀u,J (k+1) u↔fJ wO fB L h r o ((x.aN (x.r.aC.take k)).to x.r.aC[k]) u:=λu=>by rw[hJ,ek,Ob]
  have tl:=Zz k x.r.aC;have wp:=(hp _ (Xq hk)).aA;generalize x.r.aC[k]=w at *;generalize x.aN (x.r.aC.take k)=y at *;have ey:y.r.aA=x.r.aA:=by rw[e.1]
  have em:=e.2.2;refine fO.aA (fJ.aK (T.up hX) (λ_ _ z=>z) λL1 x1=>ht.2 L1 H r o y w x1 wp (by rw[ey];exact E) ?_) λv u b=>(eJ u).2 b;have:y.o.aA.length+1<=2^21:=ω;exact Xg (XZ 168 this) δ
 have:=he.2 (λm=>L m=2/\m<h.length) h r x.r g f ft [.aF [.aA r 21 0 0,.aA o 5 0 0]] [] J row ht.1 ω J0 J1 J2;refine this.aA λv h' z=>?_;have z:=(hJ _ _).1 z;rw[XF]at z;exact z
variable {P:Program}{f f1 f2 f3 f4 f5:FuncId}
def oq (p:fS->Bool):List fS->Nat->Int
 | [],_=>-1
 | w :: l,k=>if p w then k else oq p l (k+1)
theorem DB {p:fS->Bool}:∀{l:List fS}{k:Nat},l.findIdx? p=none->oq p l k=-1
 | [],_,_=>rfl
 | w :: l,k,h=>by
  rw[List.findIdx?_cons]at h;by_cases c:p w=true;·simp[c]at h
  ·rw[oq,WY c];simp only[c,Xt,XS,Option.map_eq_none_iff]at h;exact DB h
theorem DD {p:fS->Bool}:∀{l:List fS}{k i:Nat},l.findIdx? p=some i->oq p l k=((k+i:Nat):Int)/\i<l.length
 | [],_,_,h=>by simp at h
 | w :: l,k,i,h=>by
  rw[List.findIdx?_cons]at h;by_cases c:p w=true;·simp[c]at h;subst h;rw[oq,WW c];simp
  ·simp only[c,Xt,XS,Xn]at h;obtain⟨j,hj,rfl⟩:=h;rw[oq,WY c];obtain⟨a,b⟩:=DD (k:=k+1) hj;exact⟨by rw[a];congr 1;omega,by simp;omega⟩
def xH (P:Program)(f:FuncId):Prop:=fZ P f=true/\∀(F:Nat->Prop)(h:fu)(l:List fS)(a:AV)(g:FuncId)(fs cs:List AV)(p:fS->Bool),Rd F h (oY l) a->l.length<=2^40->fZ P g=true->
 (∀w∈l,fO P g (fs++[.aF w.aF]++cs) h λr h'=>r=.aE (p w)/\h'=h)->fO P f [a,.aL g fs cs] h λr h'=>r=.aD .i64 (oq p l 0)/\h'=h
theorem Pz (hf:Is P f Dh):xH P f:=by
 refine⟨hf.2,λF h l a g fs cs p ha hl hi hg=>gy hf ?_⟩;have la:iJ a=some (ι l.length):=by have:=ha.aC;simpa [oY] using this
 simp only[Dh,go_sem,la];obtain⟨I,hI⟩:∃I:Nat->gx->fu->Prop,∀m L h',I m L h'↔∃i:Nat,lk 0 L=a/\lk 1 L=.aL g fs cs/\lk 7 L=ι l.length/\lk 8 L=ι i/\h'=h/\i<=l.length/\m=l.length-i/\oq p (l.drop i) i=oq p l 0:=⟨_,λ_ _ _=>YD⟩;refine iP I l.length ((hI _ _ _).2 ⟨0,by simp[fE,iw],by simp[fE,iw],by simp[fE],by simp[fE],rfl,ω,ω,ς⟩) ?_;intro m L h' hh;obtain⟨i,k0,k1,k7,k8,rfl,hi2,rfl,hq⟩:=(hI _ _ _).1 hh;simp only[Hl,go_sem,k7,k8];refine iQ (λci=>?_) (λci=>?_)
 ·simp at ci;have ew:IntKind.i64.wrap ((i:Int)+1)=((i+1:Nat):Int):=by rw[gF ω];omega
  obtain⟨q,c,i1,i2,i3⟩:=Rd.aD ha .i64 (i:=(i:Int)) (d:=l[i].c) ω (by rw[show ((i:Int)).toNat=i by omega,XR,WU ci];rfl);obtain rfl:=zB i3;have ld:iK h' true 4 q=some (.aF l[i].aF):=by rw[jN i2];rfl
  have hc:=hg _ (Xq ci);rw[YL ci,oq]at hq;generalize l[i]=w at *;simp only[fS.aF]at ld hc;simp only[go_sem,k0,k1,k8,i1,ld];refine fK ⟨hi,hc⟩ ?_;rintro _ _ ⟨rfl,rfl⟩;cases e:p w;·rw[e]at hq;simp only[go_sem,k8,ew];exact⟨_,ω,(hI _ _ _).2 ⟨i+1,by simp[fE,k0],by simp[fE,k1],by simp[fE,k7],by simp[fE],rfl,ω,rfl,by simpa using hq⟩⟩
  ·rw[e]at hq;simp only[go_sem];rw[<-hq];rfl
 ·simp at ci;obtain rfl:i=l.length:=ω;rw[ZB]at hq;simp only[go_sem];rw[<-hq];rfl
theorem QO (hf:Is P f yF){h:fu}{q:AV}{n:Int}(hq:iK h false 1 q=some (ι n))(e:∀b,iK (h++[b]) false 1 q=some (ι n))(w:fS):
  fO P f [.aF w.aF,q] h λr h'=>r=.aE (decide (w.aA=n))/\h'=h:=by
 refine kx (tO _ _) (gy hf ?_);simp only[yF,fS.aF,go_sem,e];exact fq.b1 _
def Ah (P:Program)(f:FuncId):Prop:=
 fZ P f=true/\∀(h:fu)(node last:Int),0<=last/\last<2^41->fO P f [.aD .i64 node,.aD .i64 last] h λr h'=>r=.aF (fS.mk node (last+1) 0 0).aF/\h'=h
theorem OC (hf:Is P f Ba):Ah P f:=by refine⟨hf.2,λh node last hl=>kx (J8 _ _) (gy hf ?_)⟩;have e1:IntKind.i64.wrap (last+1)=last+1:=gF ω;simp only[Ba,go_sem,e1];exact⟨rfl,fq.b1 _⟩
theorem OA {was:List fS}{node last:Int}:(oq (λw=>decide (w.aA=node)) was 0=-1/\mE was node last=⟨node,last+1,0,0⟩) \/
  ∃(i:Nat)(hi:i<was.length),oq (λw=>decide (w.aA=node)) was 0=i/\mE was node last=was[i]:=by
 cases hf:was.findIdx? λw=>decide (w.aA=node) with
 | none=>
  refine .inl ⟨DB hf,?_⟩;unfold mE;rw[List.findIdx?_eq_none_iff]at hf;have:was.find? (λw=>decide (w.aA=node))=none:=List.find?_eq_none.2 λw hw=>by simpa using hf w hw
  rw[this];rfl
 | some i=>
  obtain⟨a,hi⟩:=DD (k:=0) hf;refine .inr ⟨i,hi,by rw[a];simp,?_⟩;rw[List.findIdx?_eq_some_iff_getElem]at hf;obtain⟨h1,h2,h3⟩:=hf;unfold mE;have:was.find? (λw=>decide (w.aA=node))=some was[i]:=by rw[List.find?_eq_some_iff_getElem];exact⟨h2,i,h1,rfl,λj hj=>by simpa using h3 j hj⟩
  rw[this];rfl
theorem lK.aC {lo:Nat}{h:fu}{a:AV}{l:List fS}(ho:lK lo h 4 a (l.map fS.aF)):fA (oY l) (λm=>lo<=m) h a/\ic h a:=by
 have e:∀(F:Nat->Prop)(l:List fS),fQ (l.map fS.c) F h (l.map fS.aF):=by
  intro F l;induction l with
  | nil=>simp only[Yb,fQ]
  | cons w l ih=>simp only[XD,fQ,fS.c,fS.aF,fU,fA];exact⟨_,_,rfl,⟨_,_,rfl,rfl,_,_,rfl,rfl,_,_,rfl,rfl,_,_,rfl,rfl,rfl⟩,ih⟩
 rcases ho with⟨rfl,h0⟩ | ⟨n,off,cap,row,g,rfl,h1,h2,h3,h4,h5,h6,h7⟩
 ·have:l=[]:=by simpa using h0
  subst this;exact⟨fA.aD 4,Xb⟩
 ·have hl:(l.map fS.aF).length=(l.map fS.c).length:=by simp
  refine⟨?_,⟨row,g,h2,h5,h6⟩⟩;simp only[oY,fA];rw[hl]at h3 h4 h7 ⊢;exact .inr (.inr ⟨n,off,cap,row,g,rfl,h1,h2,h3,h4,by rw[h7];exact e _ l⟩)
variable {P:Program}{f f1 f2 f3 f4 f5:FuncId}
theorem lK.aE {lo:Nat}{h h':fu}{sz:Nat}{a:AV}{es:List (List AV)}(ho:lK lo h sz a es)(hx:fq fB h h'):lK lo h' sz a es:=by
 rcases ho with ho | ⟨n,off,cap,row,g,h1,h2,h3,h4⟩;·exact .inl ho
 ·exact .inr ⟨n,off,cap,row,g,h1,h2,hx.aA h3,h4⟩
theorem iv.aH {W Q L h h1 r o R R' out}{g f fv:AV}(hx:iv L h r o ⟨R,out⟩)(X:fq fB h h1) (row:h1[r]?=ar 21 [R.aL g f]) (e1:R'.aJ=R.aJ) (hW:W 6) (hg:∃f,oP L h r R g f)
  (ho:fA (oY R'.aC) (λm=>h.length<=m) h1 fv) (hc:ic h1 fv):fJ W Q L h r o ⟨R',out⟩ (h1.set r (some (.aA 21 [R'.aL g fv] false))):=by
 obtain⟨-,⟨ma,ca,aa,oa⟩,lt⟩:=hx;obtain⟨f0,ra⟩:=hg;have lr:=(WR.1 ra.aA).1;have u:=(WR.1 row).1;have hl:=X.1;have ge:∀n,h.length<=n->L n=0:=λn hn=>W6 λz=>by have:=lt n z;omega
 have ne:∀m,m≠r->(h1.set r (some (.aA 21 [R'.aL g fv] false)))[m]?=h1[m]?:=λm hm=>WS (λe=>hm e.symm);have st:∀m,m<h.length->m≠r->(h1.set r (some (.aA 21 [R'.aL g fv] false)))[m]?=h[m]?:=λm hm hr=>(ne m hr).trans (X.2 m hm (λy=>y));have old:∀{m},m<h.length->me L fB h.length h1.length 2 m=L m:=fun {m} hm=>mM (.inr ⟨λy=>y,hm⟩);have nr:∀m,L m≠6->m≠r:=λm hm e=>hm (e▸ra.lr);refine⟨me L fB h.length h1.length 2,⟨⟨g,fv,W0 u,?_,?_,?_,?_,(old lr).trans ra.lr⟩,⟨ma,ca,aa,oa.aC (λm hm _=>old hm) λm hm c=>st m hm (nr m ω)⟩,λm hm=>by rw[W4];exact vj (λz=>by have:=lt m z;omega) hm⟩,λm hm _=>old hm,?_⟩;·rw[e1];exact fA.aC _ (λm hm=>(old hm.2).trans hm.1) (λm hm y hy=>(st m hm.2 (nr m ω)).trans hy) _ (fA.lt _ _ ra.go)
 ·exact ra.gc.aA (fA.lt _ _ ra.go) (λm hm y hy=>(st m hm.2 (nr m ω)).trans hy)
 ·exact fA.aC _ (λm hm=>vk (ge m hm.1) hm.2 (.inr hm.1)) (λm hm y hy=>(ne m ω).trans hy) _ (fA.lt _ _ ho)
 ·exact hc.aA ho (λm hm y hy=>(ne m ω).trans hy)
 ·exact (X.aD (fq.aH (F:=λm=>m=r) _ (λ_=>rfl)) (F'':=λm=>W (L m)\/Q m) (λ_ _ y=>y.elim) (λm _ y=>.inl (by rw[y,ra.lr];exact hW)))
def xW (P:Program)(f:FuncId):Prop:=fZ P f=true/\∀(L:Nat->Nat)(h:fu)(r o:Nat)(x:RX)(k:Nat)(last:Int),iv L h r o x->x.r.aG k->k<=2^28->0<=last/\last<2^41->
 fO P f [.aA r 21 0 0,.aD .i64 last] h λ_ h'=>fJ wA fB L h r o ⟨x.r.bD x.r.aC last,x.o⟩ h'
theorem TY (hf:Is P f (CI f1 f2 f3 f4 f5))(h1:sw P f1)(h2:pJ P f2 fI.aM)(h3:Ah P f3)(h4:Is P f4 yF)(h5:xH P f5):xW P f:=by
 refine⟨hf.2,λL h r o x k last hx hfit hk hlast=>gy hf ?_⟩;obtain⟨R,out⟩:=x;simp only at hfit;have lt:=hx.lt;obtain⟨g,ff,ra⟩:=id hx.r;have nowc:=h1.2 h r R hx.aA (hfit.aL hk);have hnow:=hfit.aQ;have hfl:=hfit.aE.1;have rr:=ra.aA;have lr:=(WR.1 rr).1;have rdf:=fA.rd _ (F':=λm=>L m=2/\m<h.length) (λ_ y=>y) _ (fA.lt _ _ ra.fo);have eR:∀l:List Int,(({R with aC:=(l.filter λn=>!decide (n=R.id)).map λn=>mE R.aC n last}:fy))={R with aC:=(l.filter λn=>!decide (n=R.id)).map λn=>mE R.aC n last}:=λ_=>rfl;have em:(R.bD R.aC last)={R with aC:=(R.aN.aM.filter λn=>!decide (n=R.id)).map λn=>mE R.aC n last}:=rfl;simp only[em];have mlen:=D8 hnow;simp only[CI,go_sem];refine gH h1.1 nowc ?_;simp only[go_sem];refine fK ⟨h2.1,h2.2 fB h R.aN _ (w9 fB h R.aN) ((nE hnow).le δ)⟩ ?_;rintro w H ⟨ow,hX⟩;have lw:iJ w=some (ι R.aN.aM.length):=(fA.rd _ (F':=λ_=>True) (λ_ _=>Xb) _ ow).aF;generalize R.aN.aM=ms at *;simp only[go_sem,lw];obtain⟨Fl,hFl⟩:∃Fl:Int->fS,Fl=λn=>mE R.aC n last:=⟨_,rfl⟩;obtain⟨I,hI⟩:∃I:Nat->gx->fu->Prop,∀m L' h',I m L' h'↔∃(i:Nat)(a:AV),lk 0 L'=.aA r 21 0 0/\lk 1 L'=ι last/\lk 4 L'=a/\lk 11 L'=w/\lk 12 L'=ι ms.length/\lk 13 L'=ι i /\
   lK H.length h' 4 a ((((ms.take i).filter λn=>!decide (n=R.id)).map Fl).map fS.aF)/\fq fB H h'/\i<=ms.length/\m=ms.length-i:=⟨_,λ_ _ _=>YD⟩
 refine iP I ms.length ((hI _ _ _).2 ⟨0,.aC,by simp[fE,iw],by simp[fE,iw],by simp[fE],by simp[fE],by simp[fE],by simp[fE],.inl ⟨rfl,ς⟩,fq.aC _ _,ω,ω⟩) ?_;intro m L' h' hh;obtain⟨i,a,k0,k1,k4,k11,k12,k13,oo,X2,hi,rfl⟩:=(hI _ _ _).1 hh;simp only[Hd,go_sem,k12,k13];have X3:=hX.tr X2;have row3:=X3.aA rr;simp only[fy.aL]at row3;refine iQ (λci=>?_) (λci=>?_)
 ·simp at ci;have ci:i<ms.length:=ω;obtain⟨p,hp,hv'⟩:=(fA.rd _ (F':=λ_=>True) (λ_ _=>Xb) _ (fA.aC _ (λ_ x=>x) (λm hm y hy=>by rw[X2.2 m hm.2 (by simp[fB])];exact hy) _ (fA.lt _ _ ow))).aG (i:=i) ci;have ew:IntKind.i64.wrap ((i:Int)+1)=((i+1:Nat):Int):=by rw[gF ω];omega
  have tk:ms.take (i+1)=ms.take i++[ms[i]]:=XE ci;simp only[go_sem,k0,k11,k13,hp,hv'];have row4:∀b,(h'++[b])[r]?=_:=λb=>(fq.b1 b).aA row3;have row5:∀b c,(h'++[b]++[c])[r]?=_:=λb c=>(fq.b2 b c).aA row3;generalize ms[i]=n at *;by_cases c0:n=R.id;·simp only[go_sem,k0,k4,k13,row4,WZ c0,ew];refine⟨_,ω,(hI _ _ _).2 ⟨i+1,a,by simp[fE,k0],by simp[fE,k1],by simp[fE,k4],by simp[fE,k11],by simp[fE,k12],by simp[fE],?_,X2.tr (fq.b1 _),ci,rfl⟩⟩;rw[tk,List.filter_append];simpa [c0] using oo.aE (fq.b1 (some (fC.aA 1 [[ι n]] false)))
  ·simp only[go_sem,k1,row4,WV c0];refine gH h3.1 (h3.2 _ n last hlast) ?_;simp only[go_sem,fS.aF,row5,k0];have B6:∀b,(h'++[some (fC.aA 1 [[ι n]] false)]++[b])[h'.length]?=ar 1 [[ι n]]:=λb=>kr _ _ _;have B6':∀b c,(h'++[some (fC.aA 1 [[ι n]] false)]++[b]++[c])[h'.length]?=ar 1 [[ι n]]:=λb c=>qB _ _ _ _;have rd5:∀b c,Rd (λm=>L m=2/\m<h.length) (h'++[b]++[c]) (oY R.aC) ff:=λb c=>Rd.aE (λ_ y=>y) (λm hm y hy=>(X3.tr (fq.b2 b c)).aA hy) _ _ rdf;refine gH h5.1 (h5.2 _ _ R.aC ff f4 [] [.aA h'.length 1 0 0] (λw=>decide (w.aA=n)) (rd5 _ _) ω h4.2 (λw _=>QO h4 (by simp only[go_sem,B6]) (λb=>by simp only[go_sem,B6']) w)) ?_;have eFl:Fl n=mE R.aC n last:=by rw[hFl]
   have lft:(((ms.take i).filter λn=>!decide (n=R.id)).map Fl).length<=21:=by have:=YN (λn=>!decide (n=R.id)) (ms.take i);have:=Zz i ms;simp only[Xd];omega
   have fin:∀(w:fS)(h3:fu),fq fB h' h3->mE R.aC n last=w->∃a2 h4,iL (h3++[some (.aA 4 [w.aF] false)]) 4 32 a [w.aF]=some (a2,h4)/\lK H.length h4 4 a2 ((((ms.take (i+1)).filter λn=>!decide (n=R.id)).map Fl).map fS.aF)/\fq fB H h4:=by intro w h3 hx3 ew2;obtain⟨o2,h4,s1,s2,s3⟩:=F8 (bytes:=32) (h:=h3++[some (.aA 4 [w.aF] false)]) (ys:=[w.aF]) oo (hx3.tr (fq.b1 _)) X2.1 (by simp only[Xd]at lft ⊢;simp only[Xf,Xi];omega);refine⟨o2,h4,s1,?_,((X2.tr hx3).tr (fq.b1 _)).aJ s3 (λm hm hm'=>ω)⟩;rw[tk,List.filter_append,XU,XU];simpa [c0,eFl,ew2] using s2
   rcases OA (was:=R.aC) (node:=n) (last:=last) with⟨e1,e2⟩ | ⟨j,hj,e1,e2⟩;·rw[e1];have z0:¬(0:Int)<=-1:=ω;obtain⟨a2,h4,s1,s2,s3⟩:=fin _ (h'++[some (fC.aA 1 [[ι n]] false)]++[some (fC.aA 4 [[ι n,ι (last+1),ι 0,ι 0]] false)]) (fq.b2 _ _) e2;rw[<-iR (mH _ 4 [_] false (some 1) (len:=1) rfl)]at s1;simp only[fS.aF,WT,Xf,Xi]at s1;simp only[go_sem,k4,k13,WV z0,WT,Xf,Xi,s1,ew];exact⟨_,ω,(hI _ _ _).2 ⟨i+1,a2,by simp[fE,k0],by simp[fE,k1],by simp[fE],by simp[fE,k11],by simp[fE,k12],by simp[fE],s2,s3,ci,rfl⟩⟩
   ·rw[e1];have z0:(0:Int)<=j:=ω;obtain⟨q,c,i1,i2,i3⟩:=Rd.aD (rd5 (some (fC.aA 1 [[ι n]] false)) (some (fC.aA 4 [[ι n,ι (last+1),ι 0,ι 0]] false))) .i64 (i:=(j:Int)) (d:=R.aC[j].c) ω (by rw[show ((j:Int)).toNat=j by omega,XR,WU hj];rfl);obtain rfl:=zB i3;have ld:iK (h'++[some (fC.aA 1 [[ι n]] false)]++[some (fC.aA 4 [[ι n,ι (last+1),ι 0,ι 0]] false)]) true 4 q=some (.aF R.aC[j].aF):=by rw[jN i2];rfl
    generalize R.aC[j]=w at *;obtain⟨a2,h4,s1,s2,s3⟩:=fin w (h'++[some (fC.aA 1 [[ι n]] false)]++[some (fC.aA 4 [w.aF] false)]) (fq.b2 _ _) e2;rw[<-iR (mH _ 4 [_] false (some 1) (len:=1) rfl)]at s1;simp only[fS.aF,WT,Xf,Xi,reduceAdd]at s1 ld;simp only[go_sem,k0,k4,k13,WZ z0,row5,i1,ld,WT,Xf,Xi,s1,ew];exact⟨_,ω,(hI _ _ _).2 ⟨i+1,a2,by simp[fE,k0],by simp[fE,k1],by simp[fE],by simp[fE,k11],by simp[fE,k12],by simp[fE],s2,s3,ci,rfl⟩⟩
 ·simp at ci;obtain rfl:i=ms.length:=ω;rw[XF]at oo;obtain⟨of,cf⟩:=oo.aC;have lr3:=(WR.1 row3).1;simp only[go_sem,k0,k4,row3,of.aA,gV of.aA];subst hFl;have ff2:(R.aL g a)=[ι R.id,ι R.aA.aE,ι R.aA.aC,ι R.aA.aF,ι R.aA.aA.aA,ι R.aA.aA.aD,kE R.aA.aA.es,gO R.aA.aD.aA,gO R.aA.aD.aC,gO R.aA.aD.aD,jx R.aA.aG,
   ι R.aD,ι R.aI,ι R.aE,ι R.aR,ι R.aF,ι R.aT,g,a,ι R.bG,ι R.aM]:=rfl
  have hl:=hX.1;exact iv.aH (R':={R with aC:=(ms.filter λn=>!decide (n=R.id)).map λn=>mE R.aC n last}) hx X3 row3 rfl (by unfold wA;omega) ⟨ff,ra⟩ (fA.aC _ (λm hm=>ω) (λ_ _ _ y=>y) _ of) cf
variable {P:Program}{f f1 f2 f3 f4 f5:FuncId}
theorem OG (dep:Nat->Nat->Bool)(lo i:Nat)(l:List (Nat×Nat×fC))(h:fu):
  nv dep lo 4 i l h=(((((l.any λx=>dep i x.1 && x.2.1 == lo) || nU h[lo]?) && ((l.any λx=>dep i x.1 && x.2.1 == lo+1) || nU h[lo+1]?)) && ((l.any λx=>dep i x.1 && x.2.1 == lo+1+1) || nU h[lo+1+1]?)) && ((l.any λx=>dep i x.1 && x.2.1 == lo+1+1+1) || nU h[lo+1+1+1]?)):=by
 simp[nv,List.range_succ,Bool.and_assoc,YW]
attribute [go_sem] OG
theorem wa {h j:fu}(i:Nat):(h++j)[h.length+i]?=j[i]?:=by rw[XA ω];congr 1;omega
structure sN (lo n2 n3:Nat)(h:fu)(l2 l3:List Int):Prop where
 ex:∃(a b:AV)(A B:Nat->Prop),h[n2]?=some (some (.aA 1 [[a]] false))/\h[n3]?=some (some (.aA 1 [[b]] false))/\(∀m,A m->lo<=m/\m≠n2/\m≠n3/\¬B m)/\(∀m,B m->lo<=m/\m≠n2/\m≠n3) /\
  fA (f_ l2) A h a/\ic h a/\fA (f_ l3) B h b/\ic h b
 lt:n2<h.length/\n3<h.length/\lo<=n2/\lo<=n3/\n2≠n3
theorem UU (hf:Is P f yH){lo n2 n3:Nat}{h:fu}{l2 l3:List Int}(hh:sN lo n2 n3 h l2 l3)(hl:l2.length<=2^20/\l3.length<=2^20)(w:fS):
  fO P f [.aF w.aF,.aA n2 1 0 0,.aA n3 1 0 0] h λ_ h'=>sN lo n2 n3 h' (l2++[w.aA]) (l3++[w.aC])/\fq (λm=>lo<=m) h h':=by
 refine gy hf ?_;obtain⟨a,b,A,B,e2,e3,hA,hB,oa,ca,ob,cb⟩:=hh.ex;obtain⟨lt2,lt3,ac,ab,ne⟩:=hh.lt;have E2:∀x,(h++[x])[n2]?=_:=λx=>(fq.b1 x).aA e2;have E3:∀x,(h++[x])[n3]?=_:=λx=>(fq.b1 x).aA e3;have am:∀x y z,(h++[x]++[y]++[z])[n2]?=_:=λx y z=>(fq.b3 x y z).aA e2;have al:∀x y z,(h++[x]++[y]++[z])[n3]?=_:=λx y z=>(fq.b3 x y z).aA e3;have N2:∀n,ij (h.length+1) n (.aA n2 1 0 0)=true:=λn=>iN ω;have N3:∀n,ij (h.length+1) n (.aA n3 1 0 0)=true:=λn=>iN ω;have sa:=oa.aA;have sb:=ob.aA;simp only[yH,fS.aF,go_sem,am,al,N2,N3,kj];obtain⟨H4,O⟩:∃H4,H4=h++[some (fC.aA 4 [[.aD .i64 w.aA,.aD .i64 w.aD,.aD .i64 w.aC,.aD .i64 w.aI]] false)]++[some (fC.aA 1 [[.aD .i64 w.aA]] false)]++[none]:=⟨_,rfl⟩;have X4:fq fB h H4:=by rw[O];exact fq.b3 _ _ _
 have l4:H4.length=h.length+3:=by rw[O];simp
 have c0:H4[h.length]?=some (some (fC.aA 4 [[.aD .i64 w.aA,.aD .i64 w.aD,.aD .i64 w.aC,.aD .i64 w.aI]] false)):=by rw[O];exact qB _ _ _ _
 have c1:H4[h.length+1]?=some (some (fC.aA 1 [[.aD .i64 w.aA]] false)):=by rw[O];exact rB _ _ _ _
 have c2:H4[h.length+1+1]?=some none:=by rw[O];exact uD _ _ _ _
 have a9:fA (f_ l2) (λm=>(A m/\m<h.length)\/H4.length<=m) H4 a:=fA.aC _ (λm hm=>.inl hm) (λm hm y hy=>X4.aA hy) _ (fA.lt _ _ oa);have ah:ic H4 a:=ca.aA oa (λm hm y hy=>X4.aA hy);obtain⟨a',h',s1,s2,s3,s4⟩:=Em (bytes:=8) (es:=[[.aA .i64 w.aA]]) (ys:=[[.aD .i64 w.aA]]) a9 ah (fq.aC _ _) (by simp[fQ,fU,fA]) (λm hm=>.inr hm) (by simp;omega);have ae:jD H4 1 (.aG (h.length+1) 1 0 1 (some 1))=some [[.aD .i64 w.aA]]:=by simp[jD,c1,go_sem,reduceIte]
 rw[<-iR ae]at s1;rw[<-O,s1];have kk:∀m,m<H4.length->¬(A m/\m<h.length)->h'[m]?=H4[m]?:=λm hm hn=>s4.2 m hm (λz=>by rcases z with z | z;exact hn z;omega);have K0:=(kk h.length ω ω).trans c0;have K1:=(kk (h.length+1) ω ω).trans c1;have K2:=(kk (h.length+1+1) ω ω).trans c2;have a7:=(kk n2 ω (λz=>(hA n2 z.1).2.1 rfl)).trans (X4.aA e2);have a6:=(kk n3 ω (λz=>(hA n3 z.1).2.2.1 rfl)).trans (X4.aA e3);have l':=s4.1;have q0:(h.length+1+1=h.length)=False:=Xp ω;have q1:(h.length+1+1=n2)=False:=Xp ω;have q2:(h.length+1+1=n3)=False:=Xp ω;have af:h.length+1+1<h'.length:=ω;simp only[go_sem,kj,DE,Yz,K0,K1,K2,a7,a6,q0,q1,q2];obtain⟨H5,W⟩:∃H5,H5=h'.set (h.length+1+1) (some (fC.aA 1 [[.aD .i64 w.aC]] false)):=⟨_,rfl⟩;have l5:H5.length=h'.length:=by rw[W,W4]
 have k5:∀m,m≠h.length+1+1->H5[m]?=h'[m]?:=λm hm=>by rw[W];exact WS (λe=>hm e.symm)
 have d2:H5[h.length+1+1]?=some (some (fC.aA 1 [[.aD .i64 w.aC]] false)):=by rw[W];exact W0 af
 have u:ik (λm=>B m/\m<h.length) h H5:=λm hm y hy=>(k5 m ω).trans ((kk m ω (λz=>(hA m z.1).2.2.2 hm.1)).trans (X4.aA hy));have a8:fA (f_ l3) (λm=>(B m/\m<h.length)\/H5.length<=m) H5 b:=fA.aC _ (λm hm=>.inl hm) u _ (fA.lt _ _ ob);have ag:ic H5 b:=cb.aA (fA.lt _ _ ob) u;obtain⟨b',h6,t1,t2,t3,t4⟩:=Em (bytes:=8) (es:=[[.aA .i64 w.aC]]) (ys:=[[.aD .i64 w.aC]]) a8 ag (fq.aC _ _) (by simp[fQ,fU,fA]) (λm hm=>.inr hm) (by simp;omega);have ai:jD H5 1 (.aG (h.length+1+1) 1 0 1 (some 1))=some [[.aD .i64 w.aC]]:=by simp[jD,d2,go_sem,reduceIte]
 rw[<-iR ai]at t1;rw[<-W,t1];have E:∀m,m<H5.length->¬(B m/\m<h.length)->h6[m]?=H5[m]?:=λm hm hn=>t4.2 m hm (λz=>by rcases z with z | z;exact hn z;omega);have L0:=(E h.length ω ω).trans ((k5 _ ω).trans K0);have L1:=(E (h.length+1) ω ω).trans ((k5 _ ω).trans K1);have L2:=(E (h.length+1+1) ω ω).trans d2;have ak:=(E n2 ω (λz=>(hB n2 z.1).2.1 rfl)).trans ((k5 _ ω).trans a7);have aj:=(E n3 ω (λz=>(hB n3 z.1).2.2 rfl)).trans ((k5 _ ω).trans a6);have l6:=t4.1;have a3:=s2.aA;have a2:=t2.aA;have aa:(n2=n3)=False:=Xp ne;have Z:(n3=n2)=False:=Xp (λe=>ne e.symm);have a5:n2<h6.length:=ω;have l63:n3<h6.length:=ω;have p0:(n2=h.length+1)=False:=Xp ω;have p1:(n2=h.length+1+1)=False:=Xp ω;have p2:(n3=h.length+1)=False:=Xp ω;have p3:(n3=h.length+1+1)=False:=Xp ω;simp only[go_sem,kj,DE,Yz,L0,L1,L2,ak,aj,aa,Z,a3,a2,gV a3,gV a2,a5,p0,p1,p2,p3,ZD,ZE,Bool.and_true,ZI];have k7:∀m,m≠n2->m≠n3->((h6.set n2 (some (fC.aA 1 [[a']] false))).set n3 (some (fC.aA 1 [[b']] false)))[m]?=h6[m]?:=λm z2 z3=>(WS (λe=>z3 e.symm)).trans (WS (λe=>z2 e.symm));have e4:f_ (l2++[w.aA])=.sl 1 (l2.map (λn=>[D.aA .i64 n])++[[.aA .i64 w.aA]]):=by simp[f_]
 have e5:f_ (l3++[w.aC])=.sl 1 (l3.map (λn=>[D.aA .i64 n])++[[.aA .i64 w.aC]]):=by simp[f_]
 have kA:ik (λm=>((A m/\m<h.length)\/H4.length<=m)/\m<h'.length) h' ((h6.set n2 (some (fC.aA 1 [[a']] false))).set n3 (some (fC.aA 1 [[b']] false))):=by
  rintro m ⟨hm,hlt⟩ y hy;have I:m≠n2/\m≠n3/\m≠h.length+1+1/\¬(B m/\m<h.length):=by
   rcases hm with⟨z,z'⟩ | z;·have:=hA m z;exact⟨this.2.1,this.2.2.1,ω,λq=>this.2.2.2 q.1⟩
   ·exact⟨ω,ω,ω,λq=>ω⟩
  exact (k7 m I.1 I.2.1).trans ((E m ω I.2.2.2).trans ((k5 m I.2.2.1).trans hy))
 have kB:ik (λm=>((B m/\m<h.length)\/H5.length<=m)/\m<h6.length) h6 ((h6.set n2 (some (fC.aA 1 [[a']] false))).set n3 (some (fC.aA 1 [[b']] false))):=by
  rintro m ⟨hm,hlt⟩ y hy;have I:m≠n2/\m≠n3:=by
   rcases hm with⟨z,z'⟩ | z;·exact (hB m z).2
   ·exact⟨ω,ω⟩
  exact (k7 m I.1 I.2).trans hy
 have a4:=fA.lt _ _ s2;have a1:=fA.lt _ _ t2;refine⟨⟨⟨a',b',λm=>((A m/\m<h.length)\/H4.length<=m)/\m<h'.length,λm=>((B m/\m<h.length)\/H5.length<=m)/\m<h6.length,?_,?_,?_,?_,?_,?_,?_,?_⟩,⟨by simp;omega,by simp;omega,ac,ab,ne⟩⟩,?_⟩;·rw[WS (λe=>ne e.symm),W0 a5]
 ·rw[W0 (by simp;omega)]
 ·rintro m ⟨hm,hlt⟩;rcases hm with⟨z,z'⟩ | z;·have:=hA m z;exact⟨this.1,this.2.1,this.2.2.1,λq=>by rcases q.1 with q | q;exact this.2.2.2 q.1;omega⟩
  ·exact⟨ω,ω,ω,λq=>by rcases q.1 with q | q<;>omega⟩
 ·rintro m ⟨hm,hlt⟩;rcases hm with⟨z,z'⟩ | z;·exact hB m z
  ·exact⟨ω,ω,ω⟩
 ·rw[e4];exact fA.aC _ (λm hm=>hm) kA _ a4
 ·exact s3.aA a4 kA
 ·rw[e5];exact fA.aC _ (λm hm=>hm) kB _ a1
 ·exact t3.aA a1 kB
 ·refine⟨by simp;omega,λm hm U=>?_⟩;have nA:¬(A m/\m<h.length):=λz=>U (hA m z.1).1;have nB:¬(B m/\m<h.length):=λz=>U (hB m z.1).1;exact (k7 m (λe=>U ω) (λe=>U ω)).trans ((E m ω nB).trans ((k5 m ω).trans ((kk m ω nA).trans (X4.2 m hm (λy=>y)))))
theorem sN.up {lo n2 n3:Nat}{h h':fu}{l2 l3:List Int}(hh:sN lo n2 n3 h l2 l3)(hx:fq fB h h'):sN lo n2 n3 h' l2 l3:=by obtain⟨⟨a,b,A,B,e2,e3,hA,hB,oa,ca,ob,cb⟩,lt2,lt3,u,e,ne⟩:=hh;have kA:∀F,ik F h h':=λF m hm y hy=>hx.aA hy;exact⟨⟨a,b,A,B,hx.aA e2,hx.aA e3,hA,hB,fA.aC _ (λ_ y=>y) (kA _) _ oa,ca.aA oa (kA _),fA.aC _ (λ_ y=>y) (kA _) _ ob,cb.aA ob (kA _)⟩,by have:=hx.1;omega,by have:=hx.1;omega,u,e,ne⟩
def vQ (P:Program)(f:FuncId):Prop:=fZ P f=true/\∀(L:Nat->Nat)(h:fu)(r o:Nat)(x:RX)(k:Nat),iv L h r o x->x.r.aG k->k<=2^28->
 fO P f [.aF [.aA r 21 0 0,.aA o 5 0 0]] h λ_ h'=>fJ wA fB L h r o x.aM h'
theorem Ue {f6:FuncId}(hf:Is P f (CR f1 f2 f3 f4 f5 f6))(h1:qm P f1)(h2:Is P f2 yH)(h3:sk P f3)(h4:sw P f4)(h5:zX P f5)(u6:pO P f6):vQ P f:=by
 refine⟨hf.2,λL h r o x k hx u hk=>gy hf ?_⟩;obtain⟨R,out⟩:=x;simp only at u;have lt:=hx.lt;obtain⟨g,ff,ra⟩:=id hx.r;obtain⟨ma,ca,aa,oa⟩:=id hx.o;have rr:=ra.aA;have lr:=(WR.1 rr).1;have a1:=fA.rd _ (F':=λm=>L m=2/\m<h.length) (λ_ y=>y) _ (fA.lt _ _ ra.fo);have hfl:=u.aE.1;simp only[fy.aL]at rr;have R1:∀a,(h++[a])[r]?=_:=λa=>(fq.b1 a).aA rr;have B1:=h_ h (some (fC.aA 2 [[.aA r 21 0 0,.aA o 5 0 0]] false));have R5:∀a b c d e,(h++[a]++[b]++[c]++[d]++[e])[r]?=_:=λa b c d e=>((fq.b4 a b c d).tr (fq.b1 e)).aA rr;have NR:∀sz i o',ij (h.length+1) 4 (.aA r sz i o')=true:=λsz i o'=>iN ω;have NB:∀sz i o',ij (h.length+1) 4 (.aA h.length sz i o')=true:=λsz i o'=>iN ω;have Z:∀a b c d e,nO (h++[a]++[b]++[c]++[d]++[e]) r R:=λa b c d e=>⟨g,ff,R5 a b c d e⟩;have a3:h.length+1+3=h.length+1+1+1+1:=rfl;have a2:h.length+1+2=h.length+1+1+1:=rfl;simp only[CR,go_sem,kj,R5,NR,NB,a2,a3];refine gH h1.1 (h1.2 _ r R (Z _ _ _ _ _) (u.aC hk)) ?_;simp only[go_sem,kj,R5,a2];obtain⟨H5,I⟩:∃H5,H5=h++[some (fC.aA 2 [[.aA r 21 0 0,.aA o 5 0 0]] false)]++[some (fC.aA 1 [[ι R.id]] false)]++[some (fC.aA 1 [[ι R.aO]] false)]++[some (fC.aA 1 [[.aG (h.length+1) 1 0 1 (some 1)]] false)]++[some (fC.aA 1 [[.aG (h.length+1+1) 1 0 1 (some 1)]] false)]:=⟨_,rfl⟩;have X5:fq fB h H5:=by rw[I];exact (fq.b4 _ _ _ _).tr (fq.b1 _)
 have l5:H5.length=h.length+5:=by rw[I];simp
 have E:H5=h++[some (fC.aA 2 [[.aA r 21 0 0,.aA o 5 0 0]] false),some (fC.aA 1 [[ι R.id]] false),some (fC.aA 1 [[ι R.aO]] false),some (fC.aA 1 [[.aG (h.length+1) 1 0 1 (some 1)]] false),some (fC.aA 1 [[.aG (h.length+1+1) 1 0 1 (some 1)]] false)]:=by rw[I];simp
 have C0:H5[h.length]?=ar 2 [[.aA r 21 0 0,.aA o 5 0 0]]:=by rw[E];exact wa 0
 have C1:H5[h.length+1]?=ar 1 [[ι R.id]]:=by rw[E];exact wa 1
 have C2:H5[h.length+1+1]?=ar 1 [[ι R.aO]]:=by rw[E];exact wa 2
 have C3:H5[h.length+1+1+1]?=ar 1 [[.aG (h.length+1) 1 0 1 (some 1)]]:=by rw[E];exact wa 3
 have C4:H5[h.length+1+1+1+1]?=ar 1 [[.aG (h.length+1+1) 1 0 1 (some 1)]]:=by rw[E];exact wa 4
 clear E;rw[<-I];clear I;have T0:sN (h.length+1) (h.length+1+1+1) (h.length+1+1+1+1) H5 [R.id] [R.aO]:=by
  refine⟨⟨_,_,λm=>m=h.length+1,λm=>m=h.length+1+1,C3,C4,λm hm=>⟨ω,ω,ω,ω⟩,λm hm=>⟨ω,ω,ω⟩,?_,⟨_,_,C1,(λe=>by cases e),(λc hc=>by cases hc;simp)⟩,?_,⟨_,_,C2,(λe=>by cases e),(λc hc=>by cases hc;simp)⟩⟩,ω,ω,ω,ω,ω⟩;·exact .inr (.inr ⟨_,0,some 1,_,_,rfl,rfl,C1,ς,(λc hc=>by cases hc;simp),by simp[fQ,fU,fA]⟩)
  ·exact .inr (.inr ⟨_,0,some 1,_,_,rfl,rfl,C2,ς,(λc hc=>by cases hc;simp),by simp[fQ,fU,fA]⟩)
 obtain⟨J,hJ⟩:∃J:Nat->fu->Prop,∀k h',J k h'↔sN (h.length+1) (h.length+1+1+1) (h.length+1+1+1+1) h' (R.id :: (R.aC.take k).map fS.aA) (R.aO :: (R.aC.take k).map fS.aC)/\fq (λm=>h.length+1<=m) H5 h':=⟨_,λ_ _=>YD⟩;have J1:∀k h',J k h'->Rd (λm=>L m=2/\m<h.length) h' (oY R.aC) ff:=by intro k h' hh;obtain⟨-,e⟩:=(hJ k h').1 hh;exact Rd.aE (λ_ y=>y) (λm hm y hy=>(e.2 m ω ω).trans (X5.aA hy)) _ _ a1
 have J2:∀k (hk:k<R.aC.length) h' H,J k h'->fq fB h' H->fO P f2 ([]++[.aF (R.aC[k]).aF]++[.aA (h.length+1+1+1) 1 0 0,.aA (h.length+1+1+1+1) 1 0 0]) H λ_ W=>J (k+1) W:=by intro k hk h' H hh hX;obtain⟨t,e⟩:=(hJ k h').1 hh;have ek:R.aC.take (k+1)=R.aC.take k++[R.aC[k]]:=XE hk;have tl:=Zz k R.aC;refine (UU h2 (t.up hX) ⟨by simp;omega,by simp;omega⟩ R.aC[k]).aA λv W z=>(hJ _ _).2 ?_;rw[ek];refine⟨by rw[XU,XU];exact z.1,(e.aD (hX.aD z.2 (F'':=λm=>h.length+1<=m) (λ_ _ y=>y.elim) (λ_ _ y=>y)) (λ_ _ y=>y) (λ_ _ y=>y))⟩
 refine fK ⟨h3.1,h3.2 (λm=>L m=2/\m<h.length) H5 r R g ff f2 [] [.aA (h.length+1+1+1) 1 0 0,.aA (h.length+1+1+1+1) 1 0 0] J (X5.aA ra.aA) h2.2 ω ((hJ _ _).2 ⟨by simpa using T0,fq.aC _ _⟩) J1 J2⟩ ?_;rintro _ h6 hh;obtain⟨t6,e6⟩:=(hJ _ _).1 hh;rw[XF]at t6;obtain⟨a,b,A,B,e2,e3,hA,hB,U,ca,ob,cb⟩:=t6.ex;have X6:fq fB h h6:=⟨by have:=X5.1;have:=e6.1;omega,λm hm _=>(e6.2 m ω ω).trans (X5.2 m hm (λy=>y))⟩;have r6:=X6.aA rr;have l6:=X6.1;have b6:=(e6.2 h.length ω ω).trans C0;have sa:=U.aA;have sb:=ob.aA;have a6:=fA.rd _ (F':=A) (λ_ y=>y) _ U;have a4:=fA.rd _ (F':=B) (λ_ y=>y) _ ob;simp only[go_sem,b6,e2,e3];refine gH h4.1 (h4.2 h6 r R ⟨g,ff,r6⟩ (u.aL hk)) ?_;simp only[go_sem,b6,e2,e3];refine gH h5.1 (h5.2 fB A B h6 R.aN _ _ _ _ _ (w9 fB h6 R.aN) a6 a4 (u.aM δ) (by simp;omega) (by simp;omega)) ?_;simp only[go_sem,b6,r6,e2,e3];refine gH u6.1 (u6.2 fB h6 R.aA.aA _ _ (m8 R.aA.aA h6) (u.aC hk)) ?_;have eS:R.aN.aJ (R.id :: R.aC.map fS.aA) (R.aO :: R.aC.map fS.aC)=R.bC:=rfl;rw[eS];have O:=hx.up X6;have lr6:=(WR.1 r6).1;have no:R.aY=R->fJ wA fB L h r o (({r:=R,o:=out}:RX).aM) h6:=λe=>by
  have:(({r:=R,o:=out}:RX).aM)=⟨R,out⟩:=by show (⟨R.aY,out⟩:RX)=_;rw[e]
  rw[this];exact fJ.aC X6 O.to
 simp only[go_sem,b6,r6];by_cases c1:R.aD<R.bC
 ·cases c2:R.aA.aA.aF R.bC;·simp only[go_sem,WZ c1];exact no (by unfold fy.aY;rw[WY (by simp[c2])])
  ·by_cases c3:R.aA.aA.aJ R.bC=R.aA.aC
   ·simp only[go_sem,b6,r6,WZ c1,WZ c3];obtain⟨g6,f6,ra6⟩:=O.r;obtain⟨ma6,ca6,aa6,a7⟩:=O.o;have e7:(({r:=R,o:=out}:RX).aM)=⟨{R with aD:=R.bC},out⟩:=by show (⟨R.aY,out⟩:RX)=_;unfold fy.aY;rw[WW ⟨c1,c2,c3⟩]
    rw[e7];have a5:=(ra.aC (h':=h6) (λ_ _ _=>rfl) λm hm _=>X6.2 m hm (λy=>y));exact fJ.aC X6 (iv.aD (R':={R with aD:=R.bC}) a5 a7 O.lt rfl rfl)
   ·simp only[go_sem,b6,r6,WZ c1,WV c3];exact no (by unfold fy.aY;rw[WY (λz=>c3 z.2.2)])
 ·simp only[go_sem,WV c1];exact no (by unfold fy.aY;rw[WY (λz=>c1 z.1)])
variable {P:Program}{f f1 f2 f3 f4 f5:FuncId}
def zZ (P:Program)(f:FuncId):Prop:=fZ P f=true/\∀(F:Nat->Prop)(h:fu)(l:fG)(a:List AV)(prev:Int)(e:List gw)(b:AV),fH F h l.c a->Rd F h (gZ e) b->kh l->mS e->
 fO P f [.aF a,.aD .i64 prev,b] h λr h'=>r=.aI [.aF (l.aE prev e).v,.aD .i64 (l.aI prev e)]/\h'=h
theorem xr.p (hc:xr P f):zZ P f:=⟨hc.1,λF h l a prev e b ha hb hl he=>(hc.2 F h l a prev e b ha hb hl he).aC λ_ _ ⟨_,h1,h2,h3⟩=>⟨h3,_,h1▸iu.aD (iu.aA (fU.fz _ (λ_ x=>x) _ h2)) (iu.aC _ _),rfl⟩⟩
theorem kl:¬wA 0:=λh=>h rfl
theorem fJ.aA {W Q L h r o x h' m}{b:Option fC}(T:fJ W Q L h r o x h')(h0:¬W (L m))(hq:¬Q m) (hb:h[m]?=some b):h'[m]?=some b:=by obtain⟨L1,x1,l1,e1⟩:=T;exact (e1.2 m (WR.1 hb).1 (λz=>z.elim h0 hq)).trans hb
theorem fJ.aF {W Q L h r o x h'}(T:fJ W Q L h r o x h'):nO h' r x.r:=let⟨_,x1,_⟩:=T;x1.aA
theorem iv.ge {L h r o x}(a:iv L h r o x){m:Nat}(hm:h.length<=m):L m=0:=W6 λz=>by have:=a.lt m z;omega
theorem fJ.aL {u:List AV}{W Q Q' L h r o x h' h3 x'}{K:AV->Prop}(T:fJ W Q L h r o x h')(hx:fq fB h' h3)(hQ:∀m,m<h.length->Q' m->Q m)
  (hc:∀L1,iv L1 h' r o x->fO P f u h3 λv e=>K v/\fJ W Q' L1 h3 r o x' e):fO P f u h3 λv e=>K v/\fJ W Q L h r o x' e:=by
 obtain⟨L1,x1,l1,e1⟩:=T;refine (hc L1 x1).aA ?_;rintro v e ⟨k,b⟩;exact⟨k,fJ.aE l1 e1 hQ (fJ.aC hx b)⟩
theorem fJ.aD {u:List AV}{W Q Q' L h r o x h' h3 x'}(T:fJ W Q L h r o x h')(hx:fq fB h' h3)(hQ:∀m,m<h.length->Q' m->Q m)
  (hc:∀L1,iv L1 h' r o x->fO P f u h3 λ_ e=>fJ W Q' L1 h3 r o x' e):fO P f u h3 λ_ e=>fJ W Q L h r o x' e:=
 (T.aL (K:=λ_=>True) hx hQ λL1 x1=>(hc L1 x1).aA λ_ _ b=>⟨Xb,b⟩).aA λ_ _ b=>b.2
theorem fJ.aH {W Q L h r o R R' out h' g f}(T:fJ W Q L h r o ⟨R,out⟩ h') (row:h'[r]?=ar 21 [R.aL g f]) (e1:R'.aJ=R.aJ) (e2:R'.aC=R.aC) (hW:∀k,k≠0->W k):
  fJ W Q L h r o ⟨R',out⟩ (h'.set r (some (.aA 21 [R'.aL g f] false))):=by
 obtain⟨L1,x1,l1,e⟩:=T;obtain⟨g1,f1,ra⟩:=x1.r;obtain⟨ma,ca,aa,oa⟩:=x1.o;have:=ra.aA.symm.trans row;simp only[W8,fC.aA.injEq,Yv,fy.aL]at this;obtain⟨-,⟨⟨-,-,-,-,-,-,-,-,-,-,-,-,-,-,-,-,-,rfl,rfl,-⟩,-⟩,-⟩:=this;exact fJ.aE l1 e (λ_ _ y=>y) ((iv.aD (Q:=Q) ra oa x1.lt e1 e2).aG λk hk=>hW k hk)
theorem SY {F:Nat->Prop}{h:fu}{n:Nat}{t k:Int}{data:List Int}{d:AV}{G:Nat->Prop} (hb:h[n]?=ar 3 [[ι t,ι k,d]]) (hd:Rd G h (gG data) d) (hF:∀m,G m->F m) (hn:F n):
  Rd F h (gZ [⟨t,k,data⟩]) (.aG n 3 0 1 (some 1)):=by
 refine⟨_,.inr (.inr ⟨n,0,1,some 1,_,_,rfl,hn,hb,ς,(λc hc=>by cases hc;omega),rfl⟩),?_⟩;simp only[XD,Yb,gw.c,gB,fH,Rd,Yt,Zo,List.take_zero];exact⟨_,_,rfl,⟨_,_,rfl,rfl,_,_,rfl,rfl,_,_,rfl,Rd.aE hF (λ_ _ _ y=>y) _ _ hd,rfl⟩,rfl⟩
def xU (P:Program)(f:FuncId):Prop:=fZ P f=true/\∀(G:Nat->Prop)(L:Nat->Nat)(h:fu)(r o:Nat)(x:RX)(k j:Nat)(kind:Int)(data:List Int)(d:AV),iv L h r o x->x.r.aG k->k<2^28->x.aC j->j<=2^20->Rd G h (gG data) d->gT data/\data.length<=2^16->iA kind->
 fO P f [.aF [.aA r 21 0 0,.aA o 5 0 0],.aD .i64 kind,d] h λv h'=>v=.aD .i64 (x.r.aO+1)/\fJ wA fB L h r o (x.aF kind data) h'
theorem TQ (hf:Is P f (CN f1 f2 f3 f4 f5))(u1:qm P f1)(u2:zZ P f2)(u3:oT P f3)(u4:uk P f4)(u5:xW P f5):xU P f:=by
 refine⟨hf.2,λG L h r o x k j kind data d hx hfit hk hj hj2 hd hdata hkind=>gy hf ?_⟩;have hmore:=hfit.bD (e:=⟨x.r.aA.aC,kind,data⟩) ⟨hdata,⟨by have:=hfit.aG;show _<=x.r.aA.aC;omega,by have:=hfit.aG;show x.r.aA.aC<=_;omega⟩,hkind⟩;have hr:=Iu x kind data;have ho:=It x kind data;have elay:x.aF kind data=⟨(x.aF kind data).r,(x.aF kind data).o⟩:=rfl;rw[elay,hr,ho];obtain⟨R,out⟩:=x;simp only at hfit hmore hj ⊢;have lt:=hx.lt;obtain⟨g,ff,ra⟩:=id hx.r;have rr:=ra.aA;have lr:=(WR.1 rr).1;simp only[fy.aL]at rr;have R1:∀a,(h++[a])[r]?=_:=λa=>(fq.b1 a).aA rr;have R2:∀a b,(h++[a]++[b])[r]?=_:=λa b=>(fq.b2 a b).aA rr;have sd:=hd.aA;have bl:=hfit.aD;have ll:=hfit.aJ;have hl0:0<=R.aO:=by unfold fy.aO fG.aC;omega
 have hl1:R.aO<=2^40+k:=hfit.aJ;have ew:IntKind.i64.wrap (R.aO+1)=R.aO+1:=gF ω;simp only[CN,go_sem];refine gH u1.1 (u1.2 _ r R ⟨g,ff,R1 _⟩ (hfit.aC ω)) ?_;obtain⟨H1,hH1⟩:∃H1,H1=h++[some (fC.aA 2 [[.aA r 21 0 0,.aA o 5 0 0]] false)]++[some (fC.aA 3 [[ι R.aA.aC,ι kind,d]] false)]:=⟨_,rfl⟩;have X1:fq fB h H1:=by rw[hH1];exact fq.b2 _ _
 have l1:H1.length=h.length+2:=by rw[hH1];simp
 have C0:H1[h.length]?=ar 2 [[.aA r 21 0 0,.aA o 5 0 0]]:=by rw[hH1];exact kr _ _ _
 have C1:H1[h.length+1]?=ar 3 [[ι R.aA.aC,ι kind,d]]:=by rw[hH1];exact jy _ _ _
 have r1:=X1.aA rr;have lr1:=(WR.1 r1).1;have ne0:(r=h.length)=False:=Xp ω;have ap:=u2.2 (λ_=>True) H1 R.aA.aA _ R.aO [⟨R.aA.aC,kind,data⟩] (.aG (h.length+1) 3 0 1 (some 1)) (fH.aA (F:=fB) (λ_ _=>Xb) (λ_ _ _ y=>y) _ _ (m8 R.aA.aA H1)) (SY C1 (hd.up X1) (λ_ _=>Xb) Xb) (hfit.aC ω) ⟨ς,λe he=>by simp at he;subst he;show data.length<=_;omega⟩;have elaid:R.aA.aA.aE R.aO [⟨R.aA.aC,kind,data⟩]=⟨R.aA.aA.aA,R.aA.aA.aD,R.aA.aA.es++[⟨R.aA.aC,kind,data⟩]⟩:=tw _ _;rw[elaid]at ap;simp only[fG.aN]at ap;simp only[go_sem,R1,R2,sd,gV sd];rw[<-hH1];clear hH1;refine gH u2.1 ap ?_;rw[iY];simp only[go_sem,r1,C0,lr1,ne0];rw[ew];have hx1:=hx.up X1;have ra1:=(ra.aC (h':=H1) (λ_ _ _=>rfl) λm hm _=>X1.2 m hm (λy=>y));obtain⟨ma1,ca1,aa1,oa1⟩:=id hx1.o;obtain⟨R',hR'⟩:∃R':fy,R'={R with aA:={R.aA with aA:=⟨R.aA.aA.aA,R.aA.aA.aD,R.aA.aA.es++[⟨R.aA.aC,kind,data⟩]⟩}}:=⟨_,rfl⟩;have T1:fJ wA fB L H1 r o ⟨R',out⟩ (H1.set r (some (.aA 21 [R'.aL g ff] false))):=iv.aD ra1 oa1 hx1.lt (by rw[hR']) (by rw[hR']);have hmore:R'.aG (k+1):=by rw[hR'];exact hmore
 obtain⟨H2,hH2⟩:∃H2,H2=H1.set r (some (.aA 21 [R'.aL g ff] false)):=⟨_,rfl⟩;have row2:R'.aL g ff=[ι R.id,ι R.aA.aE,ι R.aA.aC,ι R.aA.aF,ι R.aA.aA.aA,ι R.aA.aA.aD,kE (R.aA.aA.es++[⟨R.aA.aC,kind,data⟩]),gO R.aA.aD.aA,gO R.aA.aD.aC,gO R.aA.aD.aD,jx R.aA.aG,
  ι R.aD,ι R.aI,ι R.aE,ι R.aR,ι R.aF,ι R.aT,g,ff,ι R.bG,ι R.aM]:=by rw[hR'];rfl
 have r2:H2[r]?=ar 21 [R'.aL g ff]:=by rw[hH2];exact W0 lr1
 rw[<-hH2]at T1;rw[row2]at hH2 r2;rw[<-hH2];have eR'l:R'.aA.aA=⟨R.aA.aA.aA,R.aA.aA.aD,R.aA.aA.es++[⟨R.aA.aC,kind,data⟩]⟩:=by rw[hR']
 have eR'g:R'.aA.aE=R.aA.aE:=by rw[hR']
 have sl:=u3.2 fB H2 R'.aA.aA _ (R.aO+1) 1 (m8 R'.aA.aA H2) (hmore.aC ω);have es:R'.aA.aA.aH (R.aO+1) 1=[⟨R.aA.aC,kind,data⟩]:=by rw[eR'l,<-tw];exact EK _ _
 rw[es,eR'l]at sl;simp only at sl;refine fK ⟨u3.1,sl⟩ ?_;rintro e1 H3 ⟨oe,-,X3⟩;have se:=oe.aA;have z2:∀m,L m=0->¬wA (L m):=λm e=>by rw[e];exact kl
 have C2:=T1.aA (z2 _ (hx.ge (WX _))) (λy=>y) C0;have C3:=X3.aA C2;rw[iY];have r3:=X3.aA r2;simp only[go_sem,C3,gV se,r3];have el:({gE.aI with aC:=2,aE:=R.aO+1,aA:=⟨0,0,[⟨R.aA.aC,kind,data⟩]⟩}:gE).aF e1 .aC .aC .aC .aC=[ι 2,ι 0,ι 0,ι 0,ι (R.aO+1),ι 0,ι 0,e1,.aC,.aC,.aC,.aC,ι 0,ι 0,ι 0,ι 0,ι 0]:=rfl;have tl:=fJ.aD (Q':=λm=>H2.length<=m) T1 X3 (λm hm (z:H2.length<=m)=>by rw[hH2,W4]at z;omega) λL1 x1=>(u4.2 (λm=>H2.length<=m) L1 H3 r o _ {gE.aI with aC:=2,aE:=R.aO+1,aA:=⟨0,0,[⟨R.aA.aC,kind,data⟩]⟩} e1 .aC .aC .aC .aC (x1.up X3) oe (fA.aD 1) (fA.aD 1) (fA.aD 1) (fA.aD 1) (λn hn=>x1.ge hn) (by have:=hj.2;show (out.aC.length+1)*216<=2^46;have a:out.aC.length+1<=2^21:=by {have b:out.aC.length<=j:=this;omega};exact Xg (XZ 216 a) δ)).aA λ_ _ b=>b.aG nZ;rw[el]at tl;refine fK ⟨u4.1,tl⟩ ?_;intro _ H4 T2;have D2:=T2.aA (z2 _ (hx.ge (WX _))) (λy=>y) C0;rw[iY];simp only[go_sem,D2];have eT:(({r:=R',o:=out}:RX).aX {gE.aI with aC:=2,aE:=R.aO+1,aA:=⟨0,0,[⟨R.aA.aC,kind,data⟩]⟩})=⟨R',{out with aC:=out.aC++[{gE.aI with aC:=2,aH:=R.aA.aE,aE:=R.aO+1,aA:=⟨0,0,[⟨R.aA.aC,kind,data⟩]⟩}]}⟩:=by unfold RX.aX;simp only[eR'g]
 rw[eT]at T2;by_cases c:kind=2
 ·simp only[go_sem,WZ c,D2];have mt:=fJ.aD (Q':=fB) T2 (fq.aC _ _) (λ_ _ y=>y) λL1 x1=>u5.2 L1 H4 r o _ (k+1) R.aO x1 hmore ω ⟨hl0,ω⟩;refine fK ⟨u5.1,mt⟩ ?_;intro _ H5 T3;rw[WW c,<-hR'];simp only[go_sem,ew];have e5:R'.aC=R.aC:=by rw[hR']
  rw[<-e5];exact fJ.aC X1 T3
 ·rw[WY c,<-hR'];simp only[go_sem,WV c,ew];exact fJ.aC X1 T2
variable {P:Program}{f f1 f2 f3 f4 f5:FuncId}
def xV (P:Program)(f:FuncId):Prop:=fZ P f=true/\∀(L:Nat->Nat)(h:fu)(r o:Nat)(x:RX)(k j:Nat),iv L h r o x->x.r.aG k->k<2^28->x.aC j->j<2^20->
 fO P f [.aF [.aA r 21 0 0,.aA o 5 0 0]] h λ_ h'=>fJ wA fB L h r o x.aL h'
theorem TR {f6:FuncId}(hf:Is P f (CO f1 f2 f3 f4 f5 f6))(u1:qm P f1)(u2:xW P f2)(u3:xU P f3)(u4:sM P f4)(u5:sk P f5)(u6:vQ P f6):xV P f:=by
 refine⟨hf.2,λL h r o x k j hx u hk hj hj2=>gy hf ?_⟩;obtain⟨R,out⟩:=x;simp only at u;have lt:=hx.lt;have X1:=fq.b1 (h:=h) (some (fC.aA 2 [[.aA r 21 0 0,.aA o 5 0 0]] false));have I:=hx.up X1;obtain⟨g,ff,ra⟩:=I.r;obtain⟨ma,ca,aa,oa⟩:=I.o;have rr:=ra.aA;have lrh:r<h.length:=lt r (by rw[ra.lr];omega);have Z:r<h.length+1:=ω;simp only[fy.aL]at rr;have B1:=h_ h (some (fC.aA 2 [[.aA r 21 0 0,.aA o 5 0 0]] false));have ne:(r=h.length)=False:=Xp ω;simp only[CO,go_sem,rr,ne,B1,Z,W4,Yi];have T0:fJ wA fB L (h++[some (fC.aA 2 [[.aA r 21 0 0,.aA o 5 0 0]] false)]) r o ⟨{R with aE:=2,aR:=R.id,aM:=0,aJ:=[],aC:=[]},out⟩ _:=iv.aE (R':={R with aE:=2,aR:=R.id,aM:=0,aJ:=[],aC:=[]}) ra oa I.lt rfl rfl;simp only[fy.aL]at T0;have z2:∀m,h.length<=m->¬wA (L m):=λm e=>by rw[hx.ge e];exact kl
 generalize List.set (h++[some (fC.aA 2 [[.aA r 21 0 0,.aA o 5 0 0]] false)]) r _=H1 at *;have D0:=T0.aA (z2 _ (WX _)) (λy=>y) B1;have hl1:R.aO<=2^40+k:=u.aJ;have a1:0<=R.aO:=by have:=u.aD;unfold fy.aO fG.aC;omega
 have f0:({R with aE:=2,aR:=R.id,aM:=0,aJ:=[],aC:=[]}:fy).aG k:=by obtain⟨g1,g2,g3,g4,g5,g6,g7,g8,g9,a4,g11,a3,g13,g14,a2⟩:=u;exact⟨g1,g2,g3,g4,g5,g6,g7,g8,g9,a4,⟨W9 _,by show (0:Int)<=1;omega⟩,a3,ς,⟨ς,ς⟩,a2⟩
 have el:({R with aE:=2,aR:=R.id,aM:=0,aJ:=[],aC:=[]}:fy).aO=R.aO:=rfl;refine gH u1.1 (by have:=u1.2 H1 r _ T0.aF (f0.aC ω);rw[el]at this;exact this) ?_;have U:∃g f,H1[r]?=ar 21 [({R with aE:=2,aR:=R.id,aM:=0,aJ:=[],aC:=[]}:fy).aL g f]:=T0.aF;obtain⟨g1,ff1,E⟩:=U;simp only[fy.aL]at E;simp only[go_sem,D0];have mt:=fJ.aD (Q':=fB) T0 (fq.aC _ _) (λ_ _ y=>y) λL1 x1=>u2.2 L1 H1 r o _ k R.aO x1 f0 ω ⟨a1,ω⟩;refine fK ⟨u2.1,mt⟩ ?_;intro _ H2 T2;have D2:=T2.aA (z2 _ (WX _)) (λy=>y) B1;have O:({R with aE:=2,aR:=R.id,aM:=0,aJ:=[],aC:=[]}:fy).bD ({R with aE:=2,aR:=R.id,aM:=0,aJ:=[],aC:=[]}:fy).aC R.aO=R.bE:=rfl;simp only[O]at T2;have f2:=u.aV ω;simp only[go_sem,D2];have W:=fJ.aL (Q':=fB) T2 (fq.aC _ _) (λ_ _ y=>y) λL1 x1=>u3.2 fB L1 H2 r o ⟨R.bE,out⟩ k j 0 [] .aC x1 f2 hk hj ω (Rd.aK 1) ⟨λ_ h=>by simp at h,ς⟩ ⟨ω,ω⟩;refine fK ⟨u3.1,W⟩ ?_;rintro _ H3 ⟨-,T3⟩;have D3:=T3.aA (z2 _ (WX _)) (λy=>y) B1;have f3:(({r:=R.bE,o:=out}:RX).aF 0 []).r.aG (k+1):=fy.aG.aT (x:={r:=R.bE,o:=out}) (kind:=0) (data:=[]) f2 ω ⟨λ_ h=>by simp at h,ς⟩ ⟨ω,ω⟩;have j3:(({r:=R.bE,o:=out}:RX).aF 0 []).aC (j+1):=RX.aC.aE (x:={r:=R.bE,o:=out}) hj 0 [];simp only[go_sem,D3];have et:=fJ.aD (Q':=fB) T3 (fq.aC _ _) (λ_ _ y=>y) λL1 x1=>(Dz u5 u4 x1 f3 ω j3 ω).aA λ_ _ b=>b.aG nZ;refine fK ⟨u5.1,et⟩ ?_;intro _ H4 T4;have D4:=T4.aA (z2 _ (WX _)) (λy=>y) B1;have f4:(({r:=R.bE,o:=out}:RX).aF 0 []).on.r.aG (k+1):=by show (RX.aN _ _).r.aG (k+1);rw[(uK _ _).1];exact f3
 simp only[go_sem,D4];have st:=fJ.aD (Q':=fB) T4 (fq.aC _ _) (λ_ _ y=>y) λL1 x1=>u6.2 L1 H4 r o _ (k+1) x1 f4 ω;refine fK ⟨u6.1,st⟩ ?_;intro _ H5 T5;simp only[go_sem];exact fJ.aC X1 T5
end Glb
