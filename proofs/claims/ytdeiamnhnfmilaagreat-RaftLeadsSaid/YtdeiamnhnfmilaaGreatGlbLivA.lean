/-
  A library of its own.
-/
import Derived.Test.YtdeiamnhnfmilaaGreatGlbRdsA
import Derived.Test.YtdeiamnhnfmilaaGreatGlbNetB
set_option linter.unusedSimpArgs false
set_option linter.unusedVariables false
set_option maxRecDepth 10000
namespace Glb
open Go
abbrev C3:fI:=lZ 3
def jr (i:Int):List Int:=[1,2,3].filter λn=>!decide (n=i)
theorem yX {P:Int->Prop}{i:Int}(h:1<=i/\i<=3)(h1:P 1)(h2:P 2)(h3:P 3):P i:=by
 rcases (by omega:i=1\/i=2\/i=3) with rfl | rfl | rfl;·exact h1
 ·exact h2
 ·exact h3
theorem E8 {i:Int}(h:1<=i/\i<=3):i∈C3.aI:=yX (P:=λi=>i∈C3.aI) h δ δ δ
theorem Q_ {i:Int}(h:4<=i/\i<=5):i∉C3.aI:=by
 rcases (by omega:i=4\/i=5) with rfl | rfl;·decide
 ·decide
theorem WI {i j:Int}(hi:1<=i/\i<=3)(hj:1<=j/\j<=3)(h:i≠j):C3.aE [i,j]=true:=by rcases (by omega:i=1\/i=2\/i=3) with rfl | rfl | rfl<;>rcases (by omega:j=1\/j=2\/j=3) with rfl | rfl | rfl<;>first | decide | exact absurd rfl h
theorem WH {i:Int}(hi:1<=i/\i<=3):C3.aE [i]=false:=yX (P:=λi=>C3.aE [i]=false) hi δ δ δ
theorem pX {i n:Int}:n∈jr i↔(1<=n/\n<=3)/\n≠i:=by unfold jr;simp only[Zg,XC,List.not_mem_nil,or_false,Zw,Ym];omega
def fy.bK (r:fy):Prop:=¬(r.aD<r.bC/\r.aA.aA.aF r.bC=true/\r.aA.aA.aJ r.bC=r.aA.aC)
structure jg (r:fy):Prop where
 aA:r.aA.aA.aA=0
 aD:r.aA.aD=C3
 es:∀e∈r.aA.aA.es,e.aC≠2
 aC:r.aA.aE=1
 aF:r.aI=r.aD
 id:(1<=r.id/\r.id<=3)\/(r.aE=0/\4<=r.id/\r.id<=5)
 aI:r.aE=0\/r.aE=1\/r.aE=2
 gr:r.aJ=if r.aE=1 then [r.id] else []
 fl:r.aC.map fS.aA=if r.aE=2 then jr r.id else []
 nx:∀f∈r.aC,1<=f.aD/\0<=f.aC/\f.aC+1<=f.aD
 aE:10<=r.aT/\r.aT<=19
 aG:r.bG=0
 ld:r.aE=2->r.aR=r.id/\r.bK
structure lU (m:fF):Prop where
 aD:1<=m.aC/\m.aC<=4
 aC:1<=m.aE/\m.aE<=3
 aA:1<=m.to/\m.to<=3
 ne:m.aE≠m.to
 aE:m.aK=1
 es:∀e∈m.es,e.aC≠2
def fy.aK (r:fy)(t:Int):fy:=if r.aA.aC<t then {r with aA:={r.aA with aC:=t,aF:=0},aE:=0,aR:=0,aC:=[],aJ:=[]} else r
def fy.vd (r:fy)(to:Int)(ok:Bool):fF:={fF.aJ with aC:=2,to:=to,ok:=ok,aE:=r.id,aK:=1,aD:=r.aA.aC}
def fy.ad (r:fy)(to:Int)(ok:Bool)(i:Int)(rd:Int):fF:={fF.aJ with aC:=4,to:=to,ok:=ok,aA:=i,aM:=rd,aE:=r.id,aK:=1,aD:=r.aA.aC}
def fy.a_ (r:fy)(f:fS):fF:=f.aH r.id r.aA r.aD r.bG
def fy.bB (r:fy):fy:={r with aE:=2,aR:=r.id,aM:=0,aJ:=[],aC:=(jr r.id).map λn=>⟨n,r.aA.aA.aC+1,0,0⟩,aA:={r.aA with aA:={r.aA.aA with es:=r.aA.aA.es++[⟨r.aA.aC,0,[]⟩]}}}
def fy.bI (r:fy)(d:Int):fy:={r with aA:={r.aA with aC:=r.aA.aC+1,aF:=r.id},aE:=1,aR:=0,aF:=0,aT:=k_ d,aC:=[],aJ:=[r.id]}
section
variable {r:fy} {m:fF}
theorem jg.aJ (h:jg r):r.aN=C3:=(Ee h.es _ (WX _)).trans h.aD
theorem wQ {r:fy}(h1:∀e∈r.aA.aA.es,e.aC≠2)(h2:r.aA.aD=C3):r.aN=C3:=(Ee h1 _ (WX _)).trans h2
theorem jg.aK (h:jg r)(t:Int):jg (r.aK t):=by
 unfold fy.aK;split;·exact⟨h.aA,h.aD,h.es,h.aC,h.aF,h.id.imp (λz=>z) λz=>⟨rfl,z.2⟩,.inl rfl,rfl,rfl,nofun,h.aE,h.aG,λz=>(by cases z)⟩
 ·exact h
theorem wx {y:RX}(h1:y.r.aN=C3)(h2:y.r.aE=2->1<=y.r.id/\y.r.id<=3):y.aA.r={y.r with aI:=if y.r.aD<=y.r.aI then y.r.aI else y.r.aD}/\y.aA.o.aA=y.o.aA:=by
 have e:y.r.aZ=y.r:=by unfold fy.aZ;rw[WY];rintro⟨a,-,c⟩;unfold fy.bz at c;rw[h1]at c;exact of_decide_eq_false c (E8 (h2 a))
 unfold RX.aA;simp only[e];split<;>exact⟨rfl,rfl⟩
theorem uL {y:RX}(h1:y.r.aN=C3)(h2:y.r.aE=2->1<=y.r.id/\y.r.id<=3)(h3:y.r.aI=y.r.aD):y.aA.r=y.r/\y.aA.o.aA=y.o.aA:=by obtain⟨a,b⟩:=wx h1 h2;rw[WW ω]at a;exact⟨a,b⟩
theorem qL (r:fy):∃c,r.aD<=c/\r.aY={r with aD:=c}:=by
 unfold fy.aY;split;·rename_i c;exact⟨_,Int.le_of_lt c.1,rfl⟩
 ·exact⟨r.aD,W9 _,rfl⟩
theorem EI (r:fy):r.aY.bK:=by
 unfold fy.aY;split;·intro z;exact absurd z.1 (by show ¬r.bC<r.bC;omega)
 ·rename_i c;exact c
theorem HA:∀(l:List fS)(x:RX),(x.aN l).r=x.r/\(x.aN l).o.aA=x.o.aA++l.map λf=>{x.r.a_ f with aE:=x.r.id,aK:=x.r.aA.aE,aD:=x.r.aA.aC}
 | [],x=>⟨rfl,by simp[RX.aN]⟩
 | f :: l,x=>by obtain⟨a,b⟩:=HA l (x.to f);have a':(x.aN (f :: l)).r=x.r:=a;refine⟨a',?_⟩;have b':(x.aN (f :: l)).o.aA=(x.to f).o.aA++l.map λf=>{(x.to f).r.a_ f with aE:=(x.to f).r.id,aK:=(x.to f).r.aA.aE,aD:=(x.to f).r.aA.aC}:=b;rw[b'];show (x.o.aA++[_])++_=_;rw[Xl];rfl
theorem JO (r:fy)(f:fS):({r.a_ f with aE:=r.id,aK:=r.aA.aE,aD:=r.aA.aC}:fF)=r.a_ f:=by unfold fy.a_ fS.aH;split<;>rfl
theorem Eg (x:RX):x.on.r=x.r/\x.on.o.aA=x.o.aA++x.r.aC.map x.r.a_:=by obtain⟨a,b⟩:=HA x.r.aC x;refine⟨a,b.trans ?_⟩;congr 1;exact List.map_congr_left λf _=>JO _ _
theorem Ip (x:RX){k:Int}(hk:k≠2)(d:List Int):(x.aF k d).r={x.r with aA:={x.r.aA with aA:={x.r.aA.aA with es:=x.r.aA.aA.es++[⟨x.r.aA.aC,k,d⟩]}}}/\(x.aF k d).o.aA=x.o.aA:=by unfold RX.aF;simp only;rw[WY hk];refine⟨?_,rfl⟩;show ({x.r with aA:={x.r.aA with aA:=x.r.aA.aA.aE x.r.aO _}}:fy)=_;rw[show x.r.aO=x.r.aA.aA.aC from rfl,tw]
theorem Qm {x:RX}(h1:∀e∈x.r.aA.aA.es,e.aC≠2)(h2:x.r.aA.aD=C3):x.aL.r=x.r.bB.aY/\x.aL.o.aA=x.o.aA++x.r.bB.aC.map x.r.bB.a_:=by
 obtain⟨z,hz⟩:∃z:RX,z={x with r:=({x.r with aE:=2,aR:=x.r.id,aM:=0,aJ:=[],aC:=[]}:fy).bD [] x.r.aO}:=⟨_,rfl⟩;have e:x.aL=((z.aF 0 []).on).aM:=by rw[hz];rfl
 obtain⟨a,b⟩:=Ip z (k:=0) δ [];obtain⟨c,d⟩:=Eg (z.aF 0 []);have el:(z.aF 0 []).r=x.r.bB:=by
  rw[a,hz];have en:({x.r with aE:=2,aR:=x.r.id,aM:=0,aJ:=[],aC:=[]}:fy).aN=C3:=wQ h1 h2;unfold fy.bD;rw[en];have em:C3.aM=[1,2,3]:=by decide
  rw[em];rfl
 rw[e];refine⟨?_,?_⟩;·show (z.aF 0 []).on.r.aY=_;rw[c,el]
 ·show (z.aF 0 []).on.o.aA=_;rw[d,b,el,hz]
end
inductive iD (r:fy) (m:fF):fy->List fF->Prop
 | aJ (h:m.aD<r.aA.aC) (l:List fF) (hl:l=if m.aC=1 then [r.vd m.aE false] else if m.aC=3 then [r.ad m.aE false 0 0] else []):iD r m r l
 | aD (h:r.aA.aC<=m.aD) (k:m.aC=1) (g:ku m.aD (r.aK m.aD).aA.aF r.aA.aA m=false):iD r m (r.aK m.aD) [(r.aK m.aD).vd m.aE false]
 | aE (h:r.aA.aC<=m.aD) (k:m.aC=1) (g:ku m.aD (r.aK m.aD).aA.aF r.aA.aA m=true):iD r m {r.aK m.aD with aF:=0,aA:={(r.aK m.aD).aA with aF:=m.aE}} [(r.aK m.aD).vd m.aE true]
 | aI (h:r.aA.aC<=m.aD) (k:m.aC=2) (g:¬((r.aK m.aD).aE=1/\m.ok=true)):iD r m (r.aK m.aD) []
 | aH (h:r.aA.aC=m.aD) (k:m.aC=2) (g:r.aE=1/\m.ok=true) (a:Int):iD r m {r.bB.aY with aI:=a} (r.bB.aC.map r.bB.a_)
 | aC (h:r.aA.aC<=m.aD) (k:m.aC=4) (g:(r.aK m.aD).aE≠2):iD r m (r.aK m.aD) []
 | aF (h:r.aA.aC=m.aD) (k:m.aC=4) (g:r.aE=2) (i:Nat) (hi:i<r.aC.length) (hn:r.aC[i].aA=m.aE) (c a:Int) (l:List fF) (z:fy) (hz:z={r with aC:=r.aC.set i (r.aC[i].aE m),aD:=c,aI:=a}) (hc:z={(if m.ok=true then ({r with aC:=r.aC.set i (r.aC[i].aE m)}:fy).aY else {r with aC:=r.aC.set i (r.aC[i].aE m)}) with aI:=a}) (hl:l=if m.ok=false\/(r.aC[i].aE m).aD<=r.aA.aA.aC then [z.a_ (r.aC[i].aE m)] else []):iD r m z l
 | aG (h:r.aA.aC=m.aD) (k:m.aC=3) (g:r.aE=2):iD r m r []
 | aA (h:r.aA.aC<=m.aD) (k:m.aC=3) (g:(r.aK m.aD).aE≠2) (y:RX) (hy:y=({r:={(r.aK m.aD).aW m.aE with aF:=0},o:=(r.aK m.aD).aH.o}:RX).aG m) (a:Int) (l:List fF) (hl:l=y.o.aA):iD r m {y.r with aI:=a} l
section
variable {r:fy} {m:fF}
theorem sS (r:fy){t:Int}(h:r.aA.aC<=t):(r.aK t).aA.aC=t:=by
 unfold fy.aK;split;·rfl
 ·omega
theorem qA (r:fy)(t:Int):(r.aK t).aA.aA=r.aA.aA/\(r.aK t).aA.aD=r.aA.aD/\(r.aK t).aA.aE=r.aA.aE/\(r.aK t).id=r.id/\(r.aK t).aF=r.aF/\(r.aK t).aT=r.aT/\(r.aK t).aD=r.aD/\(r.aK t).aI=r.aI:=by unfold fy.aK;split<;>exact⟨rfl,rfl,rfl,rfl,rfl,rfl,rfl,rfl⟩
theorem AY (r:fy){t:Int}(h:(r.aK t).aE≠0)(ht:r.aA.aC<=t):r.aK t=r/\r.aA.aC=t:=by
 unfold fy.aK at h ⊢;split;·rename_i c;rw[WW c]at h;exact absurd rfl h
 ·exact⟨rfl,ω⟩
theorem Vq (hg:r.aA.aE=1)(t:Int):(if r.aH.r.aA.aC<t then (r.aH.aJ t 0).aO 0 else r.aH).r=r.aK t/\(if r.aH.r.aA.aC<t then (r.aH.aJ t 0).aO 0 else r.aH).o.aA=[]:=by
 unfold fy.aK;by_cases c:r.aA.aC<t;·rw[WW (show r.aH.r.aA.aC<t from c),WW c];exact⟨rfl,rfl⟩
 ·rw[WY (show ¬r.aH.r.aA.aC<t from c),WY c];exact⟨rfl,rfl⟩
theorem jg.of (h:jg r){s:fy}(e1:s.aA.aA=r.aA.aA)(e2:s.aA.aD=r.aA.aD):s.aN=C3:=wQ (by rw[e1];exact h.es) (e2.trans h.aD)
theorem RX.aZ (x:RX)(m:fF):(x.aG m).r.id=x.r.id/\(x.aG m).r.aE=x.r.aE/\(x.aG m).r.aA.aD=x.r.aA.aD/\(∀e∈(x.aG m).r.aA.aA.es,e∈x.r.aA.aA.es\/e∈m.es):=by
 unfold RX.aG;split;·exact⟨rfl,rfl,rfl,λe he=>.inl he⟩
 ·split;·exact⟨rfl,rfl,rfl,λe he=>.inl he⟩
  ·simp only;split;·exact⟨rfl,rfl,rfl,λe he=>.inl he⟩
   ·split;·exact⟨rfl,rfl,rfl,λe he=>Qh he⟩
    ·exact⟨rfl,rfl,rfl,λe he=>.inl he⟩
theorem LP {x y:RX}(h:x.r=y.r)(hm:x.o.aA=y.o.aA)(m:fF):(x.aG m).r=(y.aG m).r/\(x.aG m).o.aA=(y.aG m).o.aA:=by
 obtain⟨a,o⟩:=x;obtain⟨b,p⟩:=y;obtain rfl:a=b:=h;have hm:o.aA=p.aA:=hm;unfold RX.aG;split;·exact⟨rfl,Y5 (·++_) hm⟩
 ·split;·exact⟨rfl,Y5 (·++_) hm⟩
  ·simp only;split;·exact⟨rfl,hm⟩
   ·split;·exact⟨rfl,Y5 (·++_) hm⟩
    ·exact⟨rfl,Y5 (·++_) hm⟩
theorem jg.aN (h:jg r)(hm:lU m)(I:m.to=r.id):iD r m (r.bA m).r (r.bA m).o.aA:=by
 have E:1<=r.id/\r.id<=3:=I▸hm.aA;have hv:r.aH.r.bz m.aE=true:=by show r.bz m.aE=true;unfold fy.bz;rw[h.aJ];exact WZ (E8 hm.aC)
 have c0:¬(¬m.aK=r.aH.r.aA.aE\/m.aC<1\/5<m.aC\/(m.aC=1/\r.aH.r.bz m.aE=false)):=by
  rintro (z | z | z | z);·exact z (hm.aE.trans h.aC.symm)
  ·have:=hm.aD;omega
  ·have:=hm.aD;omega
  ·rw[hv]at z;cases z.2
 obtain⟨t1,t2⟩:=Vq h.aC m.aD;obtain⟨Y,hY⟩:∃Y,Y=(if r.aH.r.aA.aC<m.aD then (r.aH.aJ m.aD 0).aO 0 else r.aH):=⟨_,rfl⟩;rw[<-hY]at t1 t2;obtain⟨b1,b2,b3,b4,b5,b6,b7,b8⟩:=qA r m.aD;have bc:=h.aK m.aD;unfold fy.bA RX.aT;rw[WY c0];simp only;rw[<-hY];have same:∀(l:List fF)(y:RX),y.r=r.aK m.aD->y.o.aA=l->y.aA.r=r.aK m.aD/\y.aA.o.aA=l:=λl y e1 e2=>by obtain⟨a,b⟩:=uL (y:=y) (by rw[e1];exact bc.aJ) (λ_=>by rw[e1,b4];exact E) (by rw[e1];exact bc.aF);exact⟨a.trans e1,b.trans e2⟩
 by_cases lo:m.aD<r.aA.aC
 ·have eb:r.aK m.aD=r:=by unfold fy.aK;rw[WY ω]
  rw[WW (by rw[t1,eb];exact lo)];have fin:∀(y:RX)(l:List fF),y.r=r.aK m.aD->y.o.aA=l->l=(if m.aC=1 then [r.vd m.aE false] else if m.aC=3 then [r.ad m.aE false 0 0] else [])->iD r m y.aA.r y.aA.o.aA:=λy l e1 e2 e3=>by obtain⟨a,b⟩:=same l y e1 e2;rw[a,b,eb];exact .aJ lo _ e3
  split;·rename_i k;refine fin _ [r.vd m.aE false] t1 ?_ (by rw[WW k]);show Y.o.aA++[_]=_;rw[t2,t1,eb,h.aC];rfl
  ·rename_i k;split;·rename_i k3;refine fin _ [r.ad m.aE false 0 0] t1 ?_ (by rw[WY k,WW (by have:=hm.aD;omega)]);show Y.o.aA++[_]=_;rw[t2,t1,eb,h.aC];rfl
   ·rename_i k3;exact fin _ [] t1 t2 (by rw[WY k,WY (λz=>k3 (.inl z))])
 ·have hi:r.aA.aC<=m.aD:=ω;have bt:=sS r hi;rw[WY (by rw[t1,bt];omega)];by_cases k1:m.aC=1
  ·rw[WW k1];unfold RX.aS;simp only;have eg:ku Y.r.aA.aC Y.r.aA.aF Y.r.aA.aA m=ku m.aD (r.aK m.aD).aA.aF r.aA.aA m:=by rw[t1,bt,b1]
   rw[eg];cases g:ku m.aD (r.aK m.aD).aA.aF r.aA.aA m;·simp only[Xt,XS];obtain⟨a,b⟩:=same [(r.aK m.aD).vd m.aE false] (Y.aI {fF.aJ with aC:=2,to:=m.aE,ok:=false}) t1 (by show Y.o.aA++[_]=_;rw[t2,t1,b3,h.aC];unfold fy.vd;rfl);rw[a,b];exact .aD hi k1 g
   ·simp only[Yc];obtain⟨W,hW⟩:∃W:RX,W=if ({Y with r:={Y.r with aF:=0}}:RX).r.aA.aF=m.aE then ({Y with r:={Y.r with aF:=0}}:RX) else ({Y with r:={Y.r with aF:=0}}:RX).aJ ({Y with r:={Y.r with aF:=0}}:RX).r.aA.aC m.aE:=⟨_,rfl⟩
    have w1:W.r={r.aK m.aD with aF:=0,aA:={(r.aK m.aD).aA with aF:=m.aE}}/\W.o.aA=[]:=by
     rw[hW,<-t1];split;·rename_i c;refine⟨?_,t2⟩;show ({Y.r with aF:=0}:fy)=_;have c':Y.r.aA.aF=m.aE:=c;rw[<-c']
     ·exact⟨rfl,t2⟩
    rw[<-hW];obtain⟨a,b⟩:=uL (y:=W.aI {fF.aJ with aC:=2,to:=m.aE,ok:=true}) (by show W.r.aN=C3;rw[w1.1];exact bc.of rfl rfl) (λ_=>by show 1<=W.r.id/\W.r.id<=3;rw[w1.1];show 1<=(r.aK m.aD).id/\(r.aK m.aD).id<=3;rw[b4];exact E) (by show W.r.aI=W.r.aD;rw[w1.1];exact bc.aF);have a':(W.aI {fF.aJ with aC:=2,to:=m.aE,ok:=true}).aA.r=W.r:=a;rw[a',b,w1.1];have em:(W.aI {fF.aJ with aC:=2,to:=m.aE,ok:=true}).o.aA=[(r.aK m.aD).vd m.aE true]:=by show W.o.aA++[_]=_;rw[w1.2,w1.1];show [_]=_;unfold fy.vd;simp only[b3,h.aC]
    rw[em];exact .aE hi k1 g
  ·rw[WY k1];by_cases k2:m.aC=2
   ·rw[WW k2];unfold RX.aU;by_cases c:(r.aK m.aD).aE=1/\m.ok=true
    ·obtain⟨eb,et⟩:=AY r (t:=m.aD) ω hi;rw[eb]at c t1;have eg:=h.gr;rw[WW c.1]at eg;rw[WY (by
      rw[t1];rintro (z | z | z | z);·exact z c.1
      ·rw[c.2]at z;cases z
      ·rw[eg]at z;have:=XN.1 z;exact hm.ne (this.trans I.symm)
      ·have:r.bz m.aE=true:=hv;rw[this]at z;cases z)]
     simp only;obtain⟨V,hV⟩:∃V:RX,V={Y with r:={Y.r with aJ:=Y.r.aJ++[m.aE]}}:=⟨_,rfl⟩;have v1:V.r={r with aJ:=r.aJ++[m.aE]}:=by rw[hV,t1]
     have vn:V.r.aN=C3:=by rw[v1];exact h.of rfl rfl
     have vg:V.r.aJ=[r.id,m.aE]:=by rw[v1];show r.aJ++_=_;rw[eg];rfl
     have wv:V.r.aN.aE V.r.aJ=true:=by rw[vn,vg];exact WI E hm.aC (λz=>hm.ne (z.symm.trans I.symm))
     rw[WW (by rw[hV]at wv;exact wv),<-hV];obtain⟨l1,l2⟩:=Qm (x:=V) (by rw[v1];exact h.es) (by rw[v1];exact h.aD);have vl:V.r.bB=r.bB:=by rw[v1];rfl
     have vm:V.o.aA=[]:=by rw[hV];exact t2
     rw[vl]at l1 l2;rw[vm,Yg]at l2;obtain⟨cm,-,hs⟩:=qL r.bB;have ln:V.aL.r.aN=C3:=by
      rw[l1,hs];refine wQ (λe he=>?_) h.aD;rcases Xe.1 he with z | z;·exact h.es e z
      ·rw[XN.1 z];exact (by decide:(0:Int)≠2)
     obtain⟨a,b⟩:=wx (y:=V.aL) ln (λ_=>by rw[l1,hs];exact E);rw[a,b,l1,l2];exact .aH et k2 c _
    ·have e:(if ¬Y.r.aE=1\/m.ok=false\/m.aE∈Y.r.aJ\/Y.r.bz m.aE=false then Y else (let y:RX:={Y with r:={Y.r with aJ:=Y.r.aJ++[m.aE]}};if y.r.aN.aE y.r.aJ then y.aL else y))=Y:=by
      rw[WW];rw[t1];by_cases q:(r.aK m.aD).aE=1;·exact .inr (.inl (by cases e:m.ok<;>simp_all))
      ·exact .inl q
     rw[e];obtain⟨a,b⟩:=same [] Y t1 t2;rw[a,b];exact .aI hi k2 c
   ·rw[WY k2];by_cases k4:m.aC=4
    ·rw[WW k4];unfold RX.aP;by_cases c:(r.aK m.aD).aE=2
     ·obtain⟨eb,et⟩:=AY r (t:=m.aD) ω hi;rw[eb]at c t1;rw[WY (by rw[t1];exact λz=>z c)];have fl:=h.fl;rw[WW c]at fl;have a1:m.aE∈r.aC.map fS.aA:=by rw[fl];exact pX.2 ⟨hm.aC,by rw[<-I];exact hm.ne⟩
      have hs:(rO r.aC m.aE).isSome=true:=by unfold rO;rw[List.findIdx?_isSome,Zr];obtain⟨f,f1,f2⟩:=XO.1 a1;exact⟨f,f1,WZ f2⟩
      obtain⟨i,U⟩:=Y6.1 hs;obtain⟨il,u⟩:=HL U;rw[t1,U];simp only;have eg:(r.aC[i]?).getD ⟨0,0,0,0⟩=r.aC[i]:=by rw[WU il];rfl
      rw[eg];obtain⟨Z,hZ⟩:∃Z:RX,Z=if m.ok=true then RX.aM {Y with r:={r with aC:=r.aC.set i (r.aC[i].aE m)}} else {Y with r:={r with aC:=r.aC.set i (r.aC[i].aE m)}}:=⟨_,rfl⟩
      rw[<-hZ];have z0:Z.r=(if m.ok=true then ({r with aC:=r.aC.set i (r.aC[i].aE m)}:fy).aY else {r with aC:=r.aC.set i (r.aC[i].aE m)})/\Z.o.aA=[]:=by rw[hZ];split<;>exact⟨rfl,t2⟩
      obtain⟨c',O⟩:∃c',Z.r={r with aC:=r.aC.set i (r.aC[i].aE m),aD:=c'}:=by
       rw[z0.1];split;·obtain⟨c',-,e⟩:=qL ({r with aC:=r.aC.set i (r.aC[i].aE m)}:fy);exact⟨c',e⟩
       ·exact⟨r.aD,rfl⟩
      have zn:Z.r.aN=C3:=by rw[O];exact h.of rfl rfl
      have zl:Z.r.aO=r.aA.aA.aC:=by rw[O];rfl
      rw[zl];have fin:∀(y:RX)(l:List fF),y.r=Z.r->y.o.aA=l->(∀a,l=if m.ok=false\/(r.aC[i].aE m).aD<=r.aA.aA.aC then [({Z.r with aI:=a}:fy).a_ (r.aC[i].aE m)] else [])->iD r m y.aA.r y.aA.o.aA:=λy l e1 e2 e3=>by obtain⟨a,b⟩:=wx (y:=y) (by rw[e1];exact zn) (λ_=>by rw[e1,O];exact E);rw[a,b,e1,e2];exact .aF et k4 c i il u c' (if Z.r.aD<=Z.r.aI then Z.r.aI else Z.r.aD) l {Z.r with aI:=if Z.r.aD<=Z.r.aI then Z.r.aI else Z.r.aD} (by rw[O]) (by rw[<-z0.1]) (e3 _)
      split;·rename_i q;refine fin _ [Z.r.a_ (r.aC[i].aE m)] rfl ?_ (λa=>by rw[WW q];rfl);show Z.o.aA++[_]=_;rw[z0.2];show [_]=_;congr 1;exact JO _ _
      ·rename_i q;exact fin _ [] rfl z0.2 (λa=>by rw[WY q])
     ·rw[WW (show ¬Y.r.aE=2 by rw[t1];exact c)];obtain⟨a,b⟩:=same [] Y t1 t2;rw[a,b];exact .aC hi k4 c
    ·rw[WY k4];have k3:m.aC=3:=by have:=hm.aD;omega
     by_cases c:Y.r.aE=2
     ·rw[WW c];rw[t1]at c;obtain⟨eb,et⟩:=AY r (t:=m.aD) ω hi;obtain⟨a,b⟩:=same [] Y t1 t2;rw[a,b,eb];exact .aG et k3 (eb▸c)
     ·rw[WY c,WW k3];rw[t1]at c;obtain⟨W,hW⟩:∃W:RX,W={Y with r:={Y.r.aW m.aE with aF:=0}}:=⟨_,rfl⟩;rw[<-hW];obtain⟨p1,p2,p3,p4⟩:=RX.aZ W m;have wl:W.r.aA.aA=r.aA.aA/\W.r.aA.aD=r.aA.aD/\W.r.id=r.id/\W.r.aE=0:=by rw[hW,t1];exact⟨b1,b2,b4,rfl⟩
      have wn:(W.aG m).r.aN=C3:=wQ (λe he=>(p4 e he).elim (λz=>h.es e (wl.1▸z)) (hm.es e)) (p3.trans (wl.2.1.trans h.aD));obtain⟨a,b⟩:=wx (y:=W.aG m) wn (λz=>by rw[p2,wl.2.2.2]at z;cases z);rw[a,b];obtain⟨q1,q2⟩:=LP (x:=W) (y:={r:={(r.aK m.aD).aW m.aE with aF:=0},o:=(r.aK m.aD).aH.o}) (by rw[hW,t1]) (by rw[hW];exact t2) m;rw[q1,q2];exact .aA hi k3 c _ rfl _ _ rfl
end
inductive mB (r:fy) (d:Int):fy->List fF->Prop
 | aC (g:r.aE=2) (h:1<=r.aM):mB r d {r with aM:=0} (r.aC.map r.a_)
 | aF (g:r.aE=2) (h:r.aM<1):mB r d {r with aM:=r.aM+1} []
 | aD (g:r.aE≠2) (i:1<=r.id/\r.id<=3) (h:r.aT<=r.aF+1):mB r d (r.bI d) ((jr r.id).map (uz r.id 1 (r.aA.aC+1) r.aA.aA.aC r.aA.aA.aL))
 | aE (g:r.aE≠2) (h:r.id<=3->r.aF+1<r.aT):mB r d {r with aF:=r.aF+1} []
section
variable {r s:fy} {m:fF} {l:List fF} {d:Int}
theorem JI:∀(l:List fF)(x:RX),(x.aK l).r=x.r/\(x.aK l).o.aA=x.o.aA++l.map λm=>{m with aE:=x.r.id,aK:=x.r.aA.aE,aD:=x.r.aA.aC}
 | [],x=>⟨rfl,by simp[RX.aK]⟩
 | m :: l,x=>by obtain⟨a,b⟩:=JI l (x.aI m);refine⟨a,?_⟩;have b':(x.aK (m :: l)).o.aA=(x.aI m).o.aA++l.map λm=>{m with aE:=x.r.id,aK:=x.r.aA.aE,aD:=x.r.aA.aC}:=b;rw[b'];show (x.o.aA++[_])++_=_;rw[Xl];rfl
theorem LY (id term:Int)(lg:fG):jY id 1 term lg C3=(jr id).map (uz id 1 term lg.aC lg.aL):=by
 unfold jY jr;have e:C3.aI=[1,2,3]:=by decide
 rw[e];congr 1;refine List.filter_congr λn _=>?_;by_cases c:n=id<;>simp[c]
theorem jg.aM (h:jg r)(ht:r.aA.aC<2^40)(hl:r.aA.aA.aC<2^40)(d:Int):mB r d (r.aV d).r (r.aV d).o.aA:=by
 unfold fy.aV;by_cases c:r.aE=2
 ·have hid:1<=r.id/\r.id<=3:=h.id.elim (λz=>z) λz=>ω;rw[WW c];by_cases b:r.aM+1≥2;·rw[WW b];obtain⟨o1,o2⟩:=Eg ({r with aM:=0}:fy).aH;obtain⟨a1,a2⟩:=uL (y:=({r with aM:=0}:fy).aH.on) (by rw[o1];exact h.of rfl rfl) (λ_=>by rw[o1];exact hid) (by rw[o1];exact h.aF);rw[a1,a2,o1,o2];exact .aC c ω
  ·rw[WY b];obtain⟨a1,a2⟩:=uL (y:=({r with aM:=r.aM+1}:fy).aH) (h.of rfl rfl) (λ_=>hid) h.aF;rw[a1,a2];exact .aF c ω
 ·rw[WY c];simp only;have hn:({r with aF:=r.aF+1}:fy).aN=C3:=h.of rfl rfl;by_cases q:r.aT<=r.aF+1/\({r with aF:=r.aF+1}:fy).bz r.id=true/\r.aA.aC<2^40/\({r with aF:=r.aF+1}:fy).aO<2^40
  ·rw[WW q];have hid:1<=r.id/\r.id<=3:=by refine h.id.elim (λz=>z) λz=>?_;have:=q.2.1;unfold fy.bz at this;rw[hn]at this;exact absurd (of_decide_eq_true this) (Q_ z.2)
   obtain⟨z,hz⟩:∃z:RX,z=⟨r.bI d,((({r with aF:=r.aF+1}:fy).aH.aJ (r.aA.aC+1) r.id).aO 0).o⟩:=⟨_,rfl⟩;have e:({r with aF:=r.aF+1}:fy).aH.aV d=if z.r.aN.aE z.r.aJ then z.aL else z.aK (jY z.r.id z.r.aA.aE z.r.aA.aC z.r.aA.aA z.r.aN):=by rw[hz];rfl
   have zn:z.r.aN=C3:=by rw[hz];exact h.of rfl rfl
   have zg:z.r.aJ=[r.id]:=by rw[hz];rfl
   rw[e,zn,zg,WH hid,WY δ];obtain⟨s1,s2⟩:=JI (jY z.r.id z.r.aA.aE z.r.aA.aC z.r.aA.aA C3) z;obtain⟨a1,a2⟩:=uL (y:=z.aK (jY z.r.id z.r.aA.aE z.r.aA.aC z.r.aA.aA C3)) (by rw[s1];exact zn) (λ_=>by rw[s1,hz];exact hid) (by rw[s1,hz];exact h.aF);rw[a1,a2,s1,s2];have zo:z.o.aA=[]:=by rw[hz];rfl
   have zr:z.r=r.bI d:=by rw[hz]
   have zg:z.r.aA.aE=1:=by rw[zr];exact h.aC
   rw[zo,Yg,zg,LY,zr,List.map_map];exact .aD c hid q.1
  ·rw[WY q];obtain⟨a1,a2⟩:=uL (y:=({r with aF:=r.aF+1}:fy).aH) hn (λz=>absurd z c) h.aF;rw[a1,a2];refine .aE c λhi=>?_;have hid:1<=r.id/\r.id<=3:=h.id.elim (λz=>z) λz=>ω;refine Int.not_le.1 λz=>q ⟨z,?_,ht,hl⟩;unfold fy.bz;rw[hn];exact WZ (E8 hid)
theorem pD (h1:∀e∈r.aA.aA.es,e.aC≠2)(h2:r.aA.aA.aA=0)(h3:r.aA.aE=1)(hi:1<=r.id/\r.id<=3){f:fS}(hf:f.aA∈jr r.id)(hn:1<=f.aD):lU (r.a_ f)/\(r.a_ f).aC=3/\(r.a_ f).to=f.aA/\(r.a_ f).aE=r.id/\(r.a_ f).aD=r.aA.aC/\(r.a_ f).aA=f.aD-1/\(r.a_ f).aH=r.aA.aA.aJ (f.aD-1)/\(r.a_ f).es=r.aA.aA.aH f.aD 8/\(r.a_ f).aI=r.aD:=by obtain⟨n1,n2⟩:=pX.1 hf;unfold fy.a_ fS.aH;rw[WY ω];exact⟨⟨⟨(by decide:(1:Int)<=3),(by decide:(3:Int)<=4)⟩,hi,n1,λz=>n2 z.symm,h3,λe he=>h1 e (U4 he)⟩,rfl,rfl,rfl,rfl,rfl,rfl,rfl,rfl⟩
theorem jg.aH (h:jg r){f:fS}(hf:f∈r.aC):r.aE=2/\f.aA∈jr r.id:=by
 have:=h.fl;have hm:=List.mem_map_of_mem (f:=fS.aA) hf;rw[this]at hm;split at hm;·exact⟨by assumption,hm⟩
 ·cases hm
structure lP (r:fy)(a:fF):Prop where
 aC:lU a
 aA:a.aE=r.id
 aE:a.aD=r.aA.aC
 aD:a.aC=3->r.aE=2/\(a.es≠[]->a.aA+a.es.length<=r.aA.aA.aC)
theorem zK {r':fy}(h1:∀e∈r.aA.aA.es,e.aC≠2)(h2:r.aA.aA.aA=0)(h3:r.aA.aE=1)(hi:1<=r.id/\r.id<=3){f:fS}(hf:f.aA∈jr r.id)(hn:1<=f.aD)(e1:r'.aA=r.aA)(e2:r'.id=r.id)(e3:r'.aE=2):lP r' (r.a_ f):=by
 obtain⟨a1,a2,a3,a4,a5,a6,a7,a8,a9⟩:=pD h1 h2 h3 hi hf hn;refine⟨a1,a4.trans e2.symm,by rw[a5,e1],λ_=>⟨e3,λz=>?_⟩⟩;rw[a8]at z ⊢;rw[a6,e1];unfold fG.aH at z ⊢;by_cases c:f.aD<=r.aA.aA.aA\/r.aA.aA.aC<f.aD\/(8:Int)<1;·rw[WW c]at z;exact absurd rfl z
 ·rw[WY c];have l1:((r.aA.aA.es.drop (f.aD-r.aA.aA.aA-1).toNat).take (8:Int).toNat).length<=r.aA.aA.es.length-(f.aD-r.aA.aA.aA-1).toNat:=by rw[W7,Xk];omega
  have l2:r.aA.aA.aC=r.aA.aA.aA+r.aA.aA.es.length:=rfl;omega
theorem mB.aJ (t:mB r d s l)(h:jg r):jg s/\(∀a∈l,lP s a/\a.aC≠2):=by
 cases t with
 | aC g b=>have hid:1<=r.id/\r.id<=3:=h.id.elim (λz=>z) λz=>ω;refine⟨⟨h.aA,h.aD,h.es,h.aC,h.aF,h.id,h.aI,h.gr,h.fl,h.nx,h.aE,h.aG,h.ld⟩,λa ha=>?_⟩;obtain⟨f,hf,rfl⟩:=XO.1 ha;have k:=(pD h.es h.aA h.aC hid (h.aH hf).2 (h.nx f hf).1).2.1;exact⟨zK (r':={r with aM:=0}) h.es h.aA h.aC hid (h.aH hf).2 (h.nx f hf).1 rfl rfl g,λz=>absurd (k.symm.trans z) δ⟩
 | aF g b=>exact⟨⟨h.aA,h.aD,h.es,h.aC,h.aF,h.id,h.aI,h.gr,h.fl,h.nx,h.aE,h.aG,h.ld⟩,λa ha=>(by cases ha)⟩
 | aD g i b=>
  refine⟨⟨h.aA,h.aD,h.es,h.aC,h.aF,.inl i,.inr (.inl rfl),rfl,rfl,λf hf=>(by cases hf),?_,h.aG,λz=>(by cases z)⟩,λa ha=>?_⟩;·have e:(r.bI d).aT=10+d % 10:=rfl;rw[e];omega
  ·obtain⟨n,hn,rfl⟩:=XO.1 ha;obtain⟨n1,n2⟩:=pX.1 hn;exact⟨⟨⟨⟨(by decide:(1:Int)<=1),(by decide:(1:Int)<=4)⟩,i,n1,λz=>n2 z.symm,rfl,λe he=>(by cases he)⟩,rfl,rfl,λz=>absurd z (by decide:¬(1:Int)=3)⟩,(by decide:(1:Int)≠2)⟩
 | aE g b=>exact⟨⟨h.aA,h.aD,h.es,h.aC,h.aF,h.id,h.aI,h.gr,h.fl,h.nx,h.aE,h.aG,h.ld⟩,λa ha=>(by cases ha)⟩
theorem zj (h:jg r)(hid:1<=r.id/\r.id<=3):∀e∈r.bB.aA.aA.es,e.aC≠2:=λe he=>by
 rcases Xe.1 he with z | z;·exact h.es e z
 ·rw[XN.1 z];exact (by decide:(0:Int)≠2)
theorem HW {f:fS}(m:fF)(h:1<=f.aD/\0<=f.aC/\f.aC+1<=f.aD):(f.aE m).aA=f.aA/\1<=(f.aE m).aD/\0<=(f.aE m).aC/\(f.aE m).aC+1<=(f.aE m).aD:=by
 unfold fS.aE;split
 ·split;·exact⟨rfl,by show 1<=max _ _;omega,by show 0<=max _ _;omega,by show max _ _+1<=max _ _;omega⟩
  ·exact⟨rfl,by show 1<=max _ _;omega,h.2.1,by show f.aC+1<=max _ _;omega⟩
 ·exact⟨rfl,h⟩
theorem IA {l:List fS}{i:Nat}{g:fS}(hi:i<l.length) (h:g.aA=l[i].aA):(l.set i g).map fS.aA=l.map fS.aA:=by rw[Zk,h,<-ZC fS.aA (h:=by simpa using hi),YP]
theorem E4 {s:fy}{a:fF}{to:Int}{ok:Bool}(ha:a=r.vd to ok)(hid:1<=s.id/\s.id<=3)(hto:1<=to/\to<=3)(hn:to≠s.id)(e1:s.id=r.id)(e2:s.aA.aC=r.aA.aC):lP s a:=by subst ha;exact⟨⟨⟨(by decide:(1:Int)<=2),(by decide:(2:Int)<=4)⟩,by rw[e1]at hid;exact hid,hto,λz=>hn (z.symm.trans e1.symm),rfl,λe he=>(by cases he)⟩,e1.symm,e2.symm,λz=>absurd z (by decide:¬(2:Int)=3)⟩
theorem Gc {s:fy}{a:fF}{to i rd:Int}{ok:Bool}(ha:a=r.ad to ok i rd)(hid:1<=s.id/\s.id<=3)(hto:1<=to/\to<=3)(hn:to≠s.id)(e1:s.id=r.id)(e2:s.aA.aC=r.aA.aC):lP s a:=by subst ha;exact⟨⟨⟨(by decide:(1:Int)<=4),(by decide:(4:Int)<=4)⟩,by rw[e1]at hid;exact hid,hto,λz=>hn (z.symm.trans e1.symm),rfl,λe he=>(by cases he)⟩,e1.symm,e2.symm,λz=>absurd z (by decide:¬(4:Int)=3)⟩
theorem vZ (x:RX)(m:fF):((x.aG m).r.aF=x.r.aF/\(x.aG m).r.aT=x.r.aT/\(x.aG m).r.aR=x.r.aR/\(x.aG m).r.aJ=x.r.aJ/\(x.aG m).r.aC=x.r.aC/\(x.aG m).r.bG=x.r.bG/\(x.aG m).r.aA.aC=x.r.aA.aC/\(x.aG m).r.aA.aF=x.r.aA.aF/\(x.aG m).r.aA.aE=x.r.aA.aE/\(x.aG m).r.aA.aA.aA=x.r.aA.aA.aA/\(x.aG m).r.aI=x.r.aI/\x.r.aD<=(x.aG m).r.aD) /\
  (x.r.aA.aE=1->x.o.aA=[]->∀a∈(x.aG m).o.aA,∃ok i,a=x.r.ad m.aE ok i m.aM):=by
 have an:∀(y:RX) ok i,y.r.id=x.r.id->y.r.aA.aC=x.r.aA.aC->y.r.aA.aE=x.r.aA.aE->y.o.aA=x.o.aA->x.r.aA.aE=1->x.o.aA=[]->∀a∈(y.aQ m ok i).o.aA,∃ok i,a=x.r.ad m.aE ok i m.aM:=λy ok i e1 e2 e3 e4 g1 g2 a ha=>by have ha:a∈y.o.aA++[_]:=ha;rw[e4,g2,Yg]at ha;refine⟨ok,i,(XN.1 ha).trans ?_⟩;unfold fy.ad;rw[e1,e2,e3,g1]
 unfold RX.aG;split;·exact⟨⟨rfl,rfl,rfl,rfl,rfl,rfl,rfl,rfl,rfl,rfl,rfl,W9 _⟩,an x _ _ rfl rfl rfl rfl⟩
 ·split;·exact⟨⟨rfl,rfl,rfl,rfl,rfl,rfl,rfl,rfl,rfl,rfl,rfl,W9 _⟩,an x _ _ rfl rfl rfl rfl⟩
  ·simp only;split;·refine⟨⟨rfl,rfl,rfl,rfl,rfl,rfl,rfl,rfl,rfl,rfl,rfl,W9 _⟩,λ_ g a ha=>?_⟩;rw[g]at ha;cases ha
   ·split;·refine⟨⟨rfl,rfl,rfl,rfl,rfl,rfl,rfl,rfl,rfl,Qf _ _ _,rfl,?_⟩,an _ _ _ rfl rfl rfl rfl⟩;exact Int.le_max_left _ _
    ·refine⟨⟨rfl,rfl,rfl,rfl,rfl,rfl,rfl,rfl,rfl,rfl,rfl,?_⟩,an _ _ _ rfl rfl rfl rfl⟩;exact Int.le_max_left _ _
end
section
variable {r s:fy} {m:fF} {l:List fF} {d:Int}
theorem iD.aK (t:iD r m s l):s.id=r.id/\s.aA.aC=max r.aA.aC m.aD/\s.aT=r.aT:=by
 have b:=qA r m.aD;cases t with
 | aJ h=>exact⟨rfl,ω,rfl⟩
 | aD h=>exact⟨b.2.2.2.1,by rw[sS r h];omega,b.2.2.2.2.2.1⟩
 | aE h=>exact⟨b.2.2.2.1,by show (r.aK m.aD).aA.aC=_;rw[sS r h];omega,b.2.2.2.2.2.1⟩
 | aI h=>exact⟨b.2.2.2.1,by rw[sS r h];omega,b.2.2.2.2.2.1⟩
 | aH h k g a=>obtain⟨c,-,e⟩:=qL r.bB;rw[e];exact⟨rfl,by show r.aA.aC=_;omega,rfl⟩
 | aC h=>exact⟨b.2.2.2.1,by rw[sS r h];omega,b.2.2.2.2.2.1⟩
 | aF h k g i hi hn c a l z hz=>rw[hz];exact⟨rfl,by show r.aA.aC=_;omega,rfl⟩
 | aG h=>exact⟨rfl,ω,rfl⟩
 | aA h k g y hy a l hl=>obtain⟨⟨-,p2,-,-,-,-,p7,-⟩,-⟩:=vZ ({r:={(r.aK m.aD).aW m.aE with aF:=0},o:=(r.aK m.aD).aH.o}:RX) m;obtain⟨q1,-⟩:=RX.aZ ({r:={(r.aK m.aD).aW m.aE with aF:=0},o:=(r.aK m.aD).aH.o}:RX) m;rw[<-hy]at p2 p7 q1;refine⟨q1.trans b.2.2.2.1,?_,p2.trans b.2.2.2.2.2.1⟩;show y.r.aA.aC=_;rw[p7];show (r.aK m.aD).aA.aC=_;rw[sS r h];omega
theorem iD.aQ (t:iD r m s l)(h:jg r)(hm:lU m)(hto:m.to=r.id)(ha:s.aI=s.aD):jg s/\∀a∈l,lP s a/\a.aC≠1/\(a.aC=2->m.aC=1):=by
 have b:=h.aK m.aD;obtain⟨b1,b2,b3,b4,b5,b6,b7,b8⟩:=qA r m.aD;have hid:1<=r.id/\r.id<=3:=hto▸hm.aA;have hne:m.aE≠r.id:=λz=>hm.ne (z.trans hto.symm);have k2:∀(q:fy)(o:Bool),(q.vd m.aE o).aC≠1/\((q.vd m.aE o).aC=2->m.aC=1->m.aC=1):=λ_ _=>⟨(by decide:(2:Int)≠1),λ_ z=>z⟩;cases t with
 | aJ g l hl=>
  refine⟨h,λa ha=>?_⟩;rw[hl]at ha;split at ha;·rename_i k;obtain rfl:=XN.1 ha;exact⟨E4 rfl hid hm.aC hne rfl rfl,(by decide:(2:Int)≠1),λ_=>k⟩
  ·split at ha;·obtain rfl:=XN.1 ha;exact⟨Gc rfl hid hm.aC hne rfl rfl,(by decide:(4:Int)≠1),λz=>absurd z (by decide:¬(4:Int)=2)⟩
   ·cases ha
 | aD g k g'=>refine⟨b,λa ha=>?_⟩;obtain rfl:=XN.1 ha;exact⟨E4 rfl (by rw[b4];exact hid) hm.aC (by rw[b4];exact hne) rfl rfl,(by decide:(2:Int)≠1),λ_=>k⟩
 | aE g k g'=>refine⟨⟨b.aA,b.aD,b.es,b.aC,b.aF,b.id,b.aI,b.gr,b.fl,b.nx,b.aE,b.aG,b.ld⟩,λa ha=>?_⟩;obtain rfl:=XN.1 ha;exact⟨E4 rfl (by show 1<=(r.aK m.aD).id/\_;rw[b4];exact hid) hm.aC (by show _≠(r.aK m.aD).id;rw[b4];exact hne) rfl rfl,(by decide:(2:Int)≠1),λ_=>k⟩
 | aI g k g'=>exact⟨b,λa ha=>(by cases ha)⟩
 | aH g k g' a=>
  obtain⟨c,-,e⟩:=qL r.bB;rw[e]at ha ⊢;refine⟨⟨h.aA,h.aD,zj h hid,h.aC,ha,.inl hid,.inr (.inr rfl),rfl,?_,λf hf=>?_,h.aE,h.aG,λ_=>⟨rfl,?_⟩⟩,λa ha=>?_⟩;·show ((jr r.id).map _).map fS.aA=jr r.id;rw[List.map_map];exact List.map_id _
  ·obtain⟨n,-,rfl⟩:=XO.1 hf;have:=h.aA;have n1:1<=r.aA.aA.aC+1:=by unfold fG.aC;omega
   exact⟨n1,W9 _,by show (0:Int)+1<=r.aA.aA.aC+1;omega⟩
  ·have:=EI r.bB;rw[e]at this;exact this
  ·obtain⟨f,hf,rfl⟩:=XO.1 ha;obtain⟨n,hn,rfl⟩:=XO.1 hf;have n1:1<=r.aA.aA.aC+1:=by have:=h.aA;unfold fG.aC;omega
   have k:=(pD (r:=r.bB) (f:=⟨n,r.aA.aA.aC+1,0,0⟩) (zj h hid) h.aA h.aC hid hn n1).2.1;exact⟨zK (r:=r.bB) (f:=⟨n,r.aA.aA.aC+1,0,0⟩) (zj h hid) h.aA h.aC hid hn n1 rfl rfl rfl,by rw[k];decide,λz=>absurd (k.symm.trans z) δ⟩
 | aC g k g'=>exact⟨b,λa ha=>(by cases ha)⟩
 | aF g k g' i hi hn c a l s hz hc hl=>
  have fi:=h.nx _ (Xq hi);obtain⟨f1,f2,f3⟩:=HW m fi;have fl:s.aC.map fS.aA=r.aC.map fS.aA:=by rw[hz];exact IA hi f1
  have en:(r.aC[i].aE m).aA∈jr r.id:=by rw[f1,hn];exact pX.2 ⟨hm.aC,hne⟩
  refine⟨⟨by rw[hz];exact h.aA,by rw[hz];exact h.aD,by rw[hz];exact h.es,by rw[hz];exact h.aC,ha,by rw[hz];exact h.id,by rw[hz];exact h.aI,by rw[hz];exact h.gr,by rw[fl,h.fl,hz],λf hf=>?_,by rw[hz];exact h.aE,by rw[hz];exact h.aG,λ_=>⟨by rw[hz];exact (h.ld g').1,?_⟩⟩,λa ha=>?_⟩
  ·rw[hz]at hf;rcases Y3 hf with q | q;·exact h.nx f q
   ·rw[q];exact⟨f2,f3⟩
  ·rw[hc];split;·exact EI ({r with aC:=r.aC.set i (r.aC[i].aE m)}:fy)
   ·rename_i q;have em:(r.aC.set i (r.aC[i].aE m)).map fS.aC=r.aC.map fS.aC:=by
     have e:(r.aC[i].aE m).aC=r.aC[i].aC:=by unfold fS.aE;split<;>rfl
     rw[Zk,e,<-ZC fS.aC (h:=by simpa using hi),YP]
    have en:(r.aC.set i (r.aC[i].aE m)).map fS.aA=r.aC.map fS.aA:=IA hi f1;have es:({r with aC:=r.aC.set i (r.aC[i].aE m),aI:=a}:fy).bC=r.bC:=by unfold fy.bC;simp only[em,en];rfl
    intro w;rw[es]at w;exact (h.ld g').2 w
  ·rw[hl]at ha;split at ha
   ·obtain rfl:=XN.1 ha;have e1:∀e∈s.aA.aA.es,e.aC≠2:=by rw[hz];exact h.es
    have e2:s.aA.aA.aA=0:=by rw[hz];exact h.aA
    have e3:s.aA.aE=1:=by rw[hz];exact h.aC
    have e4:s.id=r.id:=by rw[hz]
    have e5:s.aE=2:=by rw[hz];exact g'
    have k:=(pD e1 e2 e3 (by rw[e4];exact hid) (by rw[e4];exact en) f2).2.1;exact⟨zK e1 e2 e3 (by rw[e4];exact hid) (by rw[e4];exact en) f2 rfl rfl e5,by rw[k];decide,λz=>absurd (k.symm.trans z) δ⟩
   ·cases ha
 | aG g=>exact⟨h,λa ha=>(by cases ha)⟩
 | aA g k g' y hy a l hl=>
  have w:(⟨{(r.aK m.aD).aW m.aE with aF:=0},(r.aK m.aD).aH.o⟩:RX)=({r:={(r.aK m.aD).aW m.aE with aF:=0},o:=(r.aK m.aD).aH.o}:RX):=rfl;obtain⟨⟨p1,p2,p3,p4,p5,p6,p7,p8,p9,p10,p11,p12⟩,p13⟩:=vZ ({r:={(r.aK m.aD).aW m.aE with aF:=0},o:=(r.aK m.aD).aH.o}:RX) m;obtain⟨q1,q2,q3,q4⟩:=RX.aZ ({r:={(r.aK m.aD).aW m.aE with aF:=0},o:=(r.aK m.aD).aH.o}:RX) m;rw[<-hy]at p1 p2 p3 p4 p5 p6 p7 p8 p9 p10 p11 p12 p13 q1 q2 q3 q4;have i1:y.r.id=r.id:=q1.trans b4;refine⟨⟨p10.trans b.aA,q3.trans b.aD,λe he=>(q4 e he).elim (λz=>b.es e z) (hm.es e),p9.trans b.aC,ha,.inl (by show 1<=y.r.id/\_;rw[i1];exact hid),.inl q2,?_,?_,λf hf=>?_,by show 10<=y.r.aT/\_;rw[p2];exact b.aE,p6.trans b.aG,λz=>(by rw[show ({y.r with aI:=a}:fy).aE=0 from q2]at z;cases z)⟩,λa ha=>?_⟩
  ·show y.r.aJ=if y.r.aE=1 then [y.r.id] else []
   rw[p4,q2];rfl
  ·show y.r.aC.map fS.aA=if y.r.aE=2 then jr y.r.id else []
   rw[p5,q2];rfl
  ·have:f∈y.r.aC:=hf;rw[p5]at this;cases this
  ·rw[hl]at ha;obtain⟨ok,i,e⟩:=p13 b.aC rfl a ha;refine⟨Gc e (by show 1<=y.r.id/\_;rw[i1];exact hid) hm.aC (by show _≠y.r.id;rw[i1];exact hne) q1 p7,?_,?_⟩<;>rw[e];·exact (by decide:(4:Int)≠1)
   ·exact λz=>absurd z (by decide:¬(4:Int)=2)
end
def fM.M (x:fM)(i:Int):fy:=if i<1 then kv 3 0 else x.aP (i-1).toNat
def iH (M:Int->fy)(j:Int)(s:fy):Int->fy:=λi=>if i=j then s else M i
theorem iW (M:Int->fy)(j:Int)(s:fy):iH M j s j=s:=WW rfl
theorem jk {M:Int->fy}{j i:Int}{s:fy}(h:i≠j):iH M j s i=M i:=WY h
def fy.aS (r:fy):Int:=r.aF+if r.aE=1 then 10 else 0
def fy.aQ (r:fy):Int:=if r.aE=1 then 1 else 0
def lN (f:Int->Int):Int:=f 1+f 2+f 3
theorem EO {f:fy->Int}{M:Int->fy}{j:Int}{s:fy}(hj:1<=j/\j<=3):lN (λi=>f (iH M j s i))=lN (λi=>f (M i))-f (M j)+f s:=by rcases (by omega:j=1\/j=2\/j=3) with rfl | rfl | rfl<;>simp[lN,iH]<;>omega
theorem EP {f:fy->Int}{M:Int->fy}{j:Int}{s:fy}(hj:4<=j):lN (λi=>f (iH M j s i))=lN (λi=>f (M i)):=by simp only[lN,iH,WY (show ¬(1:Int)=j by omega),WY (show ¬(2:Int)=j by omega),WY (show ¬(3:Int)=j by omega)]
structure gC (N c:Nat)(P:Int)(x:fM):Prop where
 ok:iC C3 (2*N) 40000 x
 aX:x.aJ.length<=N
 aI:x.aC.length<=130000
 aA:∀i,1<=i/\i<=5->jg (x.M i)/\(x.M i).id=i
 aD:∀m∈x.aA,lU m/\m.aD<=(x.M m.aE).aA.aC
 aU:∃b:Int,(∀i,1<=i/\i<=5->(x.M i).aA.aA.aC<=b)/\(∀m∈x.aA,m.aC=3->m.es≠[]->m.aA+m.es.length<=b)/\10*b+lN (λi=>(x.M i).aS)<=P
 aF:∀i,1<=i/\i<=5->0<=(x.M i).aF/\(x.M i).aF<=c
 aL:x.aA.length+lN (λi=>(x.M i).aQ)<=3*c
section
variable {N c:Nat} {P:Int} {x:fM}
theorem gC.l5 (h:gC N c P x):x.l.length=5:=h.ok.aE
theorem fM.aM {k:Nat}(hk:k<x.l.length):x.M ((k:Int)+1)=x.l[k]:=by unfold fM.M;rw[WY ω,show ((k:Int)+1-1).toNat=k by omega];exact fM.aR hk
theorem fM.aV {k:Nat}(hk:k<x.l.length)(y:RX):(x.aD k y).M=iH x.M ((k:Int)+1) y.r:=by
 funext i
 unfold fM.M iH fM.aP;show (if i<1 then kv 3 0 else ((x.l.set k y.r)[(i-1).toNat]?).getD _)=_;by_cases c0:i<1;·rw[WW c0,WY ω];exact (WW c0).symm
 ·rw[WY c0];by_cases c:i=(k:Int)+1;·rw[WW c,show (i-1).toNat=k by omega,W0 hk];rfl
  ·rw[WY c,WS ω];exact (WY c0).symm
theorem fy.aG.bE {r:fy}{K:Nat}(f:r.aG K){K':Nat}(h:jg r)(h1:r.aA.aA.aC<=K')(h2:r.aF<=K'):r.aG K':=by
 obtain⟨f1,f2,f3,f4,f5,f6,f7,f8,f9,f10,f11,f12,f13,u,e⟩:=f;have b:=h.aA;have lg:r.aA.aA.aC=r.aA.aA.aA+r.aA.aA.es.length:=rfl;refine⟨⟨f1.1,ω⟩,ω,ω,f4,f5,f6,f7,f8,f9,⟨f10.1,h2⟩,f11,⟨f12.1,by rw[h.aG];omega⟩,?_,u,e⟩;rw[h.gr];split;·simp
 ·simp
theorem iC.aO {c0:fI}{B K K':Nat}(h:iC c0 B K x) (f:∀k (hk:k<x.l.length),x.l[k].aG K'):iC c0 B K' x:=by obtain⟨a,b,cc,-,d,e⟩:=h;exact⟨a,b,cc,f,d,e⟩
theorem QI {l:fG}{p:Int}{es:List gw}{b:Int}(h0:l.aA=0)(h1:l.aC<=b) (h2:es≠[]->p+es.length<=b):(l.aE p es).aC<=b:=by
 unfold fG.aE;split;·rename_i c;have h3:=h2 (λz=>by rw[z]at c;exact absurd c.2 ς);have h4:=c.2;obtain⟨h5,h6⟩:=lF.1 c.1;show l.aA+((l.es.take _++es.drop _).length:Int)<=b;rw[WT,W7,Xk];omega
 ·exact h1
theorem gC.aK (h:gC N c P x){k:Nat}(hk:k<x.l.length){p:List fF}(hp:∀a∈p,a∈x.aA){y:RX}{c':Nat}{P':Int}{K':Nat} (ok':iC C3 (2*(N+1)) K' (({x with aA:=p}:fM).aD k y)) (hc:c<=c') (cb:10*(c':Int)+40<400000) (pb:P'+40<400000) (ht:x.l[k].aA.aC<=y.r.aA.aC) (cy:jg y.r) (ms:∀a∈y.o.aA,lP y.r a)
  (el:0<=y.r.aF/\y.r.aF<=c') (lb:∀b:Int,x.l[k].aA.aA.aC<=b->(∀m∈x.aA,m.aC=3->m.es≠[]->m.aA+m.es.length<=b)->∃b',b<=b'/\y.r.aA.aA.aC<=b'/\10*b'+(if k<3 then y.r.aS-x.l[k].aS else 0)<=10*b+(P'-P))
  (mb:(p.length+y.o.aA.length:Int)+(if k<3 then y.r.aQ-x.l[k].aQ else 0)<=x.aA.length+3*(c'-c)):gC (N+1) c' P' (({x with aA:=p}:fM).aD k y):=by
 obtain⟨ok,tm,dn,cm,ml,⟨b,l1,l2,l3⟩,ti,mn⟩:=h;have l5:=ok.aE;have hM:(({x with aA:=p}:fM).aD k y).M=iH x.M ((k:Int)+1) y.r:=fM.aV (x:={x with aA:=p}) hk y;have idk:=(ok.aD k hk).1;have Mk:x.M ((k:Int)+1)=x.l[k]:=fM.aM hk;have idy:y.r.id=(k:Int)+1:=by
  have hk':k<(({x with aA:=p}:fM).aD k y).l.length:=by show k<(x.l.set k y.r).length;rw[W4];exact hk
  have:=(ok'.aD k hk').1;have e:(({x with aA:=p}:fM).aD k y).l[k]'hk'=y.r:=Yr ..;rw[e]at this;exact this
 obtain⟨b',b1,b2,b3⟩:=lb b (by rw[<-Mk];exact l1 _ ω) l2;have cm':∀i,1<=i/\i<=5->jg ((({x with aA:=p}:fM).aD k y).M i)/\((({x with aA:=p}:fM).aD k y).M i).id=i:=λi hi=>by
  rw[hM];by_cases e:i=(k:Int)+1;·rw[e,iW];exact⟨cy,idy⟩
  ·rw[jk e];exact cm i hi
 have ti':∀i,1<=i/\i<=5->0<=((({x with aA:=p}:fM).aD k y).M i).aF/\((({x with aA:=p}:fM).aD k y).M i).aF<=c':=λi hi=>by
  rw[hM];by_cases e:i=(k:Int)+1;·rw[e,iW];exact el
  ·rw[jk e];have:=ti i hi;omega
 have la':∀i,1<=i/\i<=5->((({x with aA:=p}:fM).aD k y).M i).aA.aA.aC<=b':=λi hi=>by
  rw[hM];by_cases e:i=(k:Int)+1;·rw[e,iW];exact b2
  ·rw[jk e];have:=l1 i hi;omega
 have due0:∀(M:Int->fy),(∀i,1<=i/\i<=5->0<=(M i).aF)->0<=lN (λi=>(M i).aS):=λM hM=>by
  have a1:=hM 1 ω;have a2:=hM 2 ω;have a3:=hM 3 ω;have q:∀r:fy,0<=r.aF->0<=r.aS:=λr hr=>by unfold fy.aS;split<;>omega
  have:=q _ a1;have:=q _ a2;have:=q _ a3;show 0<=(M 1).aS+(M 2).aS+(M 3).aS;omega
 have sd:lN (λi=>((({x with aA:=p}:fM).aD k y).M i).aS)=lN (λi=>(x.M i).aS)+(if k<3 then y.r.aS-x.l[k].aS else 0):=by
  rw[hM];split;·rw[EO (f:=fy.aS) ω,Mk];omega
  ·rw[EP (f:=fy.aS) ω];omega
 have sc:lN (λi=>((({x with aA:=p}:fM).aD k y).M i).aQ)=lN (λi=>(x.M i).aQ)+(if k<3 then y.r.aQ-x.l[k].aQ else 0):=by
  rw[hM];split;·rw[EO (f:=fy.aQ) ω,Mk];omega
  ·rw[EP (f:=fy.aQ) ω];omega
 have d0:=due0 _ (λi hi=>(ti' i hi).1);have fb:∀j (hj:j<(({x with aA:=p}:fM).aD k y).l.length),(({x with aA:=p}:fM).aD k y).l[j].aG 40000:=λj hj=>by
  have j5:=ok'.aE;rw[<-fM.aM hj];refine fy.aG.bE (K:=K') ?_ (cm' _ ω).1 ?_ ?_;·rw[fM.aM hj];exact ok'.aC j hj
  ·have:=la' ((j:Int)+1) ω;omega
  ·have:=(ti' ((j:Int)+1) ω).2;omega
 refine⟨ok'.aO fb,?_,?_,cm',λm hm=>?_,⟨b',la',λm hm k3 hne=>?_,?_⟩,ti',?_⟩
 ·show (if _ then x.aJ++[_] else x.aJ).length<=_;split;·rw[WT,XI];omega
  ·omega
 ·show (g_ x.aC y.r).length<=_;have lg:y.r.aA.aA.aC=y.r.aA.aA.aA+y.r.aA.aA.es.length:=rfl;have yc:=cy.aA;have cl:y.r.aD<=y.r.aA.aA.aC:=by
   have hk':k<(({x with aA:=p}:fM).aD k y).l.length:=by show k<(x.l.set k y.r).length;rw[W4];exact hk
   have:=(fb k hk').aP.2.2;have e:(({x with aA:=p}:fM).aD k y).l[k]'hk'=y.r:=Yr ..;rw[e]at this;exact this
  unfold g_;split;·rw[W7];omega
  ·exact dn
 ·have hm:m∈p++y.o.aA:=hm;rcases Xe.1 hm with z | z
  ·obtain⟨a1,a2⟩:=ml m (hp m z);refine⟨a1,?_⟩;rw[hM];by_cases e:m.aE=(k:Int)+1;·rw[e,Mk]at a2;rw[e,iW];omega
   ·rw[jk e];exact a2
  ·have s:=ms m z;refine⟨s.aC,?_⟩;rw[hM,s.aA,idy,iW,s.aE];exact W9 _
 ·have hm:m∈p++y.o.aA:=hm;rcases Xe.1 hm with z | z;·have:=l2 m (hp m z) k3 hne;omega
  ·have:=((ms m z).aD k3).2 hne;omega
 ·rw[sd];omega
 ·rw[sc];show ((p++y.o.aA).length:Int)+_<=_;rw[WT];omega
end
section
variable {r s:fy} {m:fF} {l:List fF} {d:Int}
theorem zt {i:Int}(h:1<=i/\i<=3):(jr i).length=2:=yX (P:=λi=>(jr i).length=2) h δ δ δ
theorem Mz (r:fy)(t:Int):(r.aK t).aS<=r.aS/\(r.aK t).aQ<=r.aQ:=by
 unfold fy.aK;split;·unfold fy.aS fy.aQ;simp only[WY (show ¬(0:Int)=1 by decide)];split<;>omega
 ·exact⟨W9 _,W9 _⟩
theorem iD.aT (t:iD r m s l)(h:jg r)(hid:1<=r.id/\r.id<=3)(e0:0<=r.aF):(s.aF=r.aF\/s.aF=0)/\(l.length:Int)+s.aQ-r.aQ<=1 /\
  ∀b:Int,r.aA.aA.aC<=b->(m.aC=3->m.es≠[]->m.aA+m.es.length<=b)->∃b',b<=b'/\s.aA.aA.aC<=b'/\10*b'+s.aS-r.aS<=10*b:=by
 obtain⟨d1,d2⟩:=Mz r m.aD;obtain⟨b1,b2,b3,b4,b5,b6,b7,b8⟩:=qA r m.aD;cases t with
 | aJ g l hl=>
  refine⟨.inl rfl,?_,λb h1 _=>⟨b,W9 _,h1,ω⟩⟩;have:l.length<=1:=by
   rw[hl];split;·exact WX _
   ·split;·exact WX _
    ·exact Xm _
  omega
 | aD g=>exact⟨.inl b5,by rw[XI];omega,λb h1 _=>⟨b,W9 _,by rw[b1];exact h1,ω⟩⟩
 | aE g=>
  have e:({r.aK m.aD with aF:=0,aA:={(r.aK m.aD).aA with aF:=m.aE}}:fy).aS<=(r.aK m.aD).aS:=by unfold fy.aS;rw[b5];show (0:Int)+(if (r.aK m.aD).aE=1 then 10 else 0)<=_;omega
  refine⟨.inr rfl,?_,λb h1 _=>⟨b,W9 _,?_,ω⟩⟩;·rw[XI];have:({r.aK m.aD with aF:=0,aA:={(r.aK m.aD).aA with aF:=m.aE}}:fy).aQ=(r.aK m.aD).aQ:=rfl;omega
  ·show (r.aK m.aD).aA.aA.aC<=b;rw[b1];exact h1
 | aI g=>exact⟨.inl b5,by show (0:Int)+_-_<=1;omega,λb h1 _=>⟨b,W9 _,by rw[b1];exact h1,ω⟩⟩
 | aH g k g' a=>
  obtain⟨c,-,e⟩:=qL r.bB;rw[e];refine⟨.inl rfl,?_,λb h1 _=>⟨b+1,ω,?_,?_⟩⟩
  ·have e1:(r.bB.aC.map r.bB.a_).length=2:=by rw[Xd];show ((jr r.id).map _).length=2;rw[Xd,zt hid]
   rw[e1];have e2:r.aQ=1:=WW g'.1;rw[e2];show (2:Int)+(if (2:Int)=1 then 1 else 0)-1<=1;decide
  ·show r.aA.aA.aA+((r.aA.aA.es++[_]).length:Int)<=b+1;have e3:r.aA.aA.aC=r.aA.aA.aA+r.aA.aA.es.length:=rfl;rw[WT,XI];omega
  ·have e2:r.aS=r.aF+10:=by unfold fy.aS;rw[WW g'.1]
   rw[e2];show 10*(b+1)+(r.aF+if (2:Int)=1 then 10 else 0)-_<=_;rw[WY δ];omega
 | aC g=>exact⟨.inl b5,by show (0:Int)+_-_<=1;omega,λb h1 _=>⟨b,W9 _,by rw[b1];exact h1,ω⟩⟩
 | aF g k g' i hi hn c a l s hz hc hl=>
  have e1:s.aS=r.aS:=by rw[hz];rfl
  have e2:s.aQ=r.aQ:=by rw[hz];rfl
  refine⟨.inl (by rw[hz]),?_,λb h1 _=>⟨b,W9 _,by rw[hz];exact h1,ω⟩⟩;have:l.length<=1:=by rw[hl];split<;>simp
  omega
 | aG g=>exact⟨.inl rfl,by show (0:Int)+_-_<=1;omega,λb h1 _=>⟨b,W9 _,h1,ω⟩⟩
 | aA g k g' y hy a l hl=>
  obtain⟨⟨p1,p2,p3,p4,p5,p6,p7,p8,p9,p10,p11,p12⟩,p13⟩:=vZ ({r:={(r.aK m.aD).aW m.aE with aF:=0},o:=(r.aK m.aD).aH.o}:RX) m;obtain⟨q1,q2,q3,q4⟩:=RX.aZ ({r:={(r.aK m.aD).aW m.aE with aF:=0},o:=(r.aK m.aD).aH.o}:RX) m;rw[<-hy]at p1 q2;have e1:({y.r with aI:=a}:fy).aS=0:=by show y.r.aF+(if y.r.aE=1 then 10 else 0)=0;rw[p1,q2];rfl
  have e2:({y.r with aI:=a}:fy).aQ=0:=by show (if y.r.aE=1 then 1 else 0)=0;rw[q2];rfl
  have e3:0<=r.aS:=by unfold fy.aS;split<;>omega
  have e4:0<=r.aQ:=by unfold fy.aQ;split<;>omega
  refine⟨.inr p1,?_,λb h1 h2=>⟨b,W9 _,?_,ω⟩⟩
  ·have:l.length<=1:=by
    rw[hl,hy];unfold RX.aG;split;·exact WX _
    ·split;·exact WX _
     ·simp only;split;·exact Xm _
      ·split<;>exact WX _
   omega
  ·show y.r.aA.aA.aC<=b;have hb:((r.aK m.aD).aA.aA.aE m.aA m.es).aC<=b:=QI (by rw[b1];exact h.aA) (by rw[b1];exact h1) (h2 k);have h1':(r.aK m.aD).aA.aA.aC<=b:=by rw[b1];exact h1
   rw[hy];unfold RX.aG;split;·exact h1'
   ·split;·exact h1'
    ·simp only;split;·exact h1'
     ·split;·exact hb
      ·exact h1'
end
section
variable {N c:Nat} {P:Int} {x:fM} {m:fF} {p:List fF}
structure FZ (x:fM)(m:fF)(p:List fF)(x':fM)(s:fy)(l:List fF):Prop where
 aC:iD (x.M m.to) m s l
 aD:∀a∈l,lP s a/\a.aC≠1/\(a.aC=2->m.aC=1)
 aA:x'.aA=p++l
 M:x'.M=iH x.M m.to s
theorem gC.aM (h:gC N c P x)(hb:N<2^25)(cb:10*(c:Int)+40<400000)(pb:P+40<400000){i:Nat}(hm:m∈x.aA)(less:x.aO i=({x with aA:=p}:fM))(hp:∀a∈p,a∈x.aA)(lp:p.length+1=x.aA.length):gC (N+1) c P (x.aL i m)/\∃s l,FZ x m p (x.aL i m) s l:=by
 obtain⟨ml,mt⟩:=h.aD m hm;have l5:=h.l5;have to':=ml.aA;obtain⟨k,hk⟩:∃k:Nat,m.to=k+1:=⟨(m.to-1).toNat,ω⟩;have hkl:k<x.l.length:=ω;have ek:(m.to-1).toNat=k:=ω;have ec:x.aL i m=({x with aA:=p}:fM).aD k (x.l[k].bA m):=by unfold fM.aL;rw[dif_pos ⟨ω,ω,ω⟩,less];simp only[ek]
 obtain⟨o1,o2⟩:=h.ok.aL ω ω hkl hm hk hp;obtain⟨cr,ir⟩:=h.aA m.to ω;have Mk:x.M m.to=x.l[k]:=by rw[hk];exact fM.aM hkl
 rw[Mk]at cr ir;have t:=cr.aN ml ir.symm;have hk':k<(({x with aA:=p}:fM).aD k (x.l[k].bA m)).l.length:=by show k<(x.l.set k _).length;rw[W4];exact hkl
 have ap:=(o1.aD k hk').2.2;have e:(({x with aA:=p}:fM).aD k (x.l[k].bA m)).l[k]'hk'=(x.l[k].bA m).r:=Yr ..;rw[e]at ap;obtain⟨c1,c2⟩:=t.aQ cr ml ir.symm ap;have ti:=h.aF m.to ω;rw[Mk]at ti;obtain⟨t1,t2,t3⟩:=t.aT cr ω ti.1;have tt:=t.aK;rw[ec];refine⟨h.aK hkl hp (K':=40000+200) (o1.aA ω (WX _)) (WX _) cb pb ω c1 (λa ha=>(c2 a ha).1) ω (λb h1 h2=>?_) ?_,_,_,⟨by rw[Mk];exact t,c2,rfl,?_⟩⟩;·obtain⟨b',q1,q2,q3⟩:=t3 b h1 (h2 m hm);refine⟨b',q1,q2,?_⟩;rw[WW ω];omega
 ·rw[WW ω];omega
 ·rw[hk];exact fM.aV (x:={x with aA:=p}) hkl _
theorem gC.aN (h:gC N c P x)(hb:N<2^25)(cb:10*(c:Int)+40<400000)(pb:P+40<400000)(hx:x.aA=m :: p):gC (N+1) c P (x.aL 0 m)/\∃s l,FZ x m p (x.aL 0 m) s l:=
 h.aM hb cb pb (by rw[hx];exact XG) (by unfold fM.aO;rw[hx];rfl) (λa ha=>by rw[hx];exact XY _ ha) (by rw[hx];rfl)
theorem gC.aC {N' c':Nat}{P':Int}(h:gC N c P x)(hN:N<=N')(hc:c<=c')(hP:P<=P'):gC N' c' P' x:=by obtain⟨ok,tm,dn,cm,ml,⟨b,l1,l2,l3⟩,ti,mn⟩:=h;exact⟨ok.aA ω (WX _),ω,dn,cm,ml,⟨b,l1,l2,ω⟩,λi hi=>by have:=ti i hi;omega,ω⟩
theorem mB.aG {r s:fy}{d:Int}{l:List fF}(t:mB r d s l)(h:jg r)(e0:0<=r.aF):(0<=s.aF/\s.aF<=r.aF+1)/\(l.length:Int)+s.aQ-r.aQ<=3/\s.aA.aA=r.aA.aA/\r.aA.aC<=s.aA.aC/\s.aS<=r.aS+1/\s.id=r.id/\(4<=r.id->l=[]/\s.aQ=r.aQ):=by
 cases t with
 | aC g b=>
  have e:1<=r.id/\r.id<=3:=h.id.elim (λz=>z) λz=>ω;have f2:r.aC.length=2:=by have:=Y5 List.length h.fl;rw[WW g,Xd,zt e]at this;exact this
  have e1:({r with aM:=0}:fy).aQ=r.aQ:=rfl;have e2:({r with aM:=0}:fy).aS=r.aS:=rfl;refine⟨⟨e0,by show r.aF<=_;omega⟩,?_,rfl,W9 _,ω,rfl,λz=>ω⟩;rw[Xd,f2];omega
 | aF g b=>have e1:({r with aM:=r.aM+1}:fy).aQ=r.aQ:=rfl;have e2:({r with aM:=r.aM+1}:fy).aS=r.aS:=rfl;refine⟨⟨e0,by show r.aF<=_;omega⟩,?_,rfl,W9 _,ω,rfl,λz=>⟨rfl,rfl⟩⟩;show (0:Int)+_-_<=_;omega
 | aD g i b=>
  have e1:(r.bI d).aQ=1:=rfl;have e2:(r.bI d).aS=10:=rfl;have e3:0<=r.aQ:=by unfold fy.aQ;split<;>omega
  have e4:r.aF<=r.aS:=by unfold fy.aS;split<;>omega
  have:=h.aE;refine⟨⟨W9 _,by show (0:Int)<=_;omega⟩,?_,rfl,by show r.aA.aC<=r.aA.aC+1;omega,ω,rfl,λz=>ω⟩;rw[Xd,zt i];omega
 | aE g b=>
  have e1:({r with aF:=r.aF+1}:fy).aQ=r.aQ:=rfl;have e2:({r with aF:=r.aF+1}:fy).aS=r.aS+1:=by show (r.aF+1)+(if r.aE=1 then 10 else 0)=r.aF+(if r.aE=1 then 10 else 0)+1;omega
  refine⟨⟨by show 0<=r.aF+1;omega,by show r.aF+1<=_;omega⟩,?_,rfl,W9 _,ω,rfl,λz=>⟨rfl,rfl⟩⟩;show (0:Int)+_-_<=_;omega
structure Ff (x:fM)(j d:Int)(x':fM)(s:fy)(l:List fF):Prop where
 aD:mB (x.M j) d s l
 aC:∀a∈l,lP s a/\a.aC≠2
 aA:x'.aA=x.aA++l
 M:x'.M=iH x.M j s
theorem iC.aR {c0:fI}{B K:Nat}(h:iC c0 B K x)(k:Nat)(hk:k<x.l.length):x.l[k].aA.aC<=B:=by obtain⟨⟨G,-,-,sm,-,hm,-⟩,-⟩:=h;have:=(hm k hk).id.2;have:=sm.2;omega
theorem gC.aQ (h:gC N c P x)(hb:N<2^25) (cb:10*((c+1:Nat):Int)+40<400000) (pb:P+1+40<400000) {k:Nat} (hk:k<x.l.length) (d:Int):gC (N+1) (c+1) (P+if k<3 then 1 else 0) (x.aD k (x.l[k].aV d))/\mT x x.l[k].aA x.l[k].aI (x.l[k].aV d) /\
  ∃s l,Ff x (k+1) d (x.aD k (x.l[k].aV d)) s l:=by
 have l5:=h.l5;obtain⟨o1,o2⟩:=h.ok.aN ω hk d;obtain⟨cr,ir⟩:=h.aA (k+1) ω;have Mk:x.M ((k:Int)+1)=x.l[k]:=fM.aM hk;rw[Mk]at cr ir;have f:=h.ok.aC k hk;have b0:=cr.aA;have lg:x.l[k].aA.aA.aC=x.l[k].aA.aA.aA+x.l[k].aA.aA.es.length:=rfl;have fl:=f.aF;have ht:x.l[k].aA.aC<2^40:=by have:=h.ok.aR k hk;omega
 have t:=cr.aM ht ω d;obtain⟨c1,c2⟩:=t.aJ cr;have ti:=h.aF (k+1) ω;rw[Mk]at ti;obtain⟨t1,t2,t3,t4,t5,t6,t7⟩:=t.aG cr ti.1;refine⟨h.aK (p:=x.aA) hk (λ_ z=>z) (o1.aA ω (WX _)) ω cb (by split<;>omega) t4 c1 (λa ha=>(c2 a ha).1) ω (λb h1 h2=>⟨b,W9 _,by rw[t3];exact h1,?_⟩) ?_,o2,_,_,⟨by rw[Mk];exact t,c2,rfl,fM.aV hk _⟩⟩;·split<;>omega
 ·split;·omega
  ·rw[(t7 ω).1];show (x.aA.length:Int)+0+0<=_;omega
end
def fM.aS (x:fM):fM:=match x.aA with
 | []=>x
 | m :: _=>x.aL 0 m
def fM.aK:Nat->fM->fM
 | 0,x=>x
 | n+1,x=>x.aS.aK n
def fM.aE (x:fM):fM:=x.aK x.aA.length
def fM.aI:Nat->fM->fM
 | 0,x=>x
 | n+1,x=>x.aE.aI n
def fM.tk (x:fM)(k:Nat)(d:Int):fM:=x.aD k ((x.aP k).aV d)
def fM.aH (x:fM):fM:=((((x.tk 0 3).tk 1 6).tk 2 9).tk 3 12).tk 4 15
def fM.aF (x:fM):fM:=x.aH.aI 6
section
variable {N c:Nat} {P:Int} {x:fM}
theorem HV {I:(Int->fy)->List fF->List fF->Prop} (hs:∀M m o n s l,I M (m :: o) n->iD (M m.to) m s l->(∀i,1<=i/\i<=3->jg (M i)/\(M i).id=i)->(∀a∈m :: o++n,lU a/\a.aD<=(M a.aE).aA.aC)->(∀a∈l,lP s a/\a.aC≠1/\(a.aC=2->m.aC=1))->s.id=m.to->(∃N' y,gC N' c P y/\y.M=M/\y.aA=m :: o++n)->I (iH M m.to s) o (n++l)):
  ∀(o:List fF)(N:Nat)(x:fM)(n:List fF),gC N c P x->N+o.length<2^25->10*(c:Int)+40<400000->P+40<400000->x.aA=o++n->I x.M o n->gC (N+o.length) c P (x.aK o.length)/\I (x.aK o.length).M [] (x.aK o.length).aA
 | [],N,x,n,h,_,_,_,hp,hi=>⟨h,by show I x.M [] x.aA;rw[hp];exact hi⟩
 | m :: o,N,x,n,h,hN,cb,pb,hp,hi=>by
  have hN':N+(o.length+1)<2^25:=hN;obtain⟨h1,s,l,w⟩:=h.aN ω cb pb hp;have e:x.aS=x.aL 0 m:=by unfold fM.aS;rw[hp];rfl
  have hm:=h.aD m (by rw[hp];exact XG);have t:=HV (I:=I) hs o (N+1) (x.aL 0 m) (n++l) h1 ω cb pb (by rw[w.aA];exact Xl o n l) (by rw[w.M];exact hs x.M m o n s l hi w.aC (λi hi=>h.aA i ω) (λa ha=>h.aD a (by rw[hp];exact ha)) w.aD (w.aC.aK.1.trans (h.aA m.to (by have:=hm.1.aA;omega)).2) ⟨N,x,h,rfl,hp⟩);rw[show N+(m :: o).length=N+1+o.length by rw[Xf];omega];show gC _ c P (x.aS.aK o.length)/\I (x.aS.aK o.length).M [] (x.aS.aK o.length).aA;rw[e];exact t
theorem zx (h:gC N c P x)(hN:N+3*c+3<2^25)(cb:10*(c:Int)+40<400000)(pb:P+40<400000){I:(Int->fy)->List fF->List fF->Prop} (hi:I x.M x.aA []) (hs:∀M m o n s l,I M (m :: o) n->iD (M m.to) m s l->(∀i,1<=i/\i<=3->jg (M i)/\(M i).id=i)->(∀a∈m :: o++n,lU a/\a.aD<=(M a.aE).aA.aC)->(∀a∈l,lP s a/\a.aC≠1/\(a.aC=2->m.aC=1))->s.id=m.to->(∃N' y,gC N' c P y/\y.M=M/\y.aA=m :: o++n)->I (iH M m.to s) o (n++l)):
  gC (N+3*c) c P x.aE/\I x.aE.M [] x.aE.aA:=by
 have hc:(x.aA.length:Int)<=3*c:=by
  have:=h.aL;have q:∀r:fy,0<=r.aQ:=λr=>by unfold fy.aQ;split<;>omega
  have:=q (x.M 1);have:=q (x.M 2);have:=q (x.M 3);have e:lN (λi=>(x.M i).aQ)=(x.M 1).aQ+(x.M 2).aQ+(x.M 3).aQ:=rfl;omega
 obtain⟨a,b⟩:=HV hs x.aA N x [] h ω cb pb ς hi;exact⟨a.aC ω (WX _) (W9 _),b⟩
theorem tI (h:gC N c P x)(hN:N+3*c+3<2^25)(cb:10*(c:Int)+40<400000)(pb:P+40<400000){I:(Int->fy)->List fF->List fF->Prop} (hi:I x.M x.aA []) (hs:∀M m o n s l,I M (m :: o) n->iD (M m.to) m s l->(∀i,1<=i/\i<=3->jg (M i)/\(M i).id=i)->(∀a∈m :: o++n,lU a/\a.aD<=(M a.aE).aA.aC)->(∀a∈l,lP s a/\a.aC≠1/\(a.aC=2->m.aC=1))->s.id=m.to->I (iH M m.to s) o (n++l)):
  gC (N+3*c) c P x.aE/\I x.aE.M [] x.aE.aA:=
 zx h hN cb pb hi (λM m o n s l a b c d e f _=>hs M m o n s l a b c d e f)
theorem Jc {J:(Int->fy)->List fF->Prop}(cb:10*(c:Int)+40<400000)(pb:P+40<400000) (hs:∀M m q s l,J M (m :: q)->iD (M m.to) m s l->(∀i,1<=i/\i<=3->jg (M i)/\(M i).id=i)->(∀a∈m :: q,lU a/\a.aD<=(M a.aE).aA.aC)->(∀a∈l,lP s a/\a.aC≠1/\(a.aC=2->m.aC=1))->s.id=m.to->(∃N' y,gC N' c P y/\y.M=M/\y.aA=m :: q)->J (iH M m.to s) (q++l)):
  ∀(n N:Nat)(x:fM),gC N c P x->N+n*(3*c)+3<2^25->J x.M x.aA->gC (N+n*(3*c)) c P (x.aI n)/\J (x.aI n).M (x.aI n).aA
 | 0,N,x,h,_,hj=>⟨h.aC ω (WX _) (W9 _),hj⟩
 | n+1,N,x,h,hN,hj=>by have e:(n+1)*(3*c)=n*(3*c)+3*c:=Nat.succ_mul _ _;obtain⟨a,b⟩:=zx h ω cb pb (I:=λM o n=>J M (o++n)) (by simpa using hj) (λM m o n s l hj t hc hm hl u ex=>by have:=hs M m (o++n) s l hj t hc hm hl u ex;rw[Xl]at this;exact this);obtain⟨a',b'⟩:=Jc cb pb hs n (N+3*c) x.aE a ω b;exact⟨a'.aC ω (WX _) (W9 _),b'⟩
theorem qJ {J:(Int->fy)->List fF->Prop}(cb:10*(c:Int)+40<400000)(pb:P+40<400000) (hs:∀M m q s l,J M (m :: q)->iD (M m.to) m s l->(∀i,1<=i/\i<=3->jg (M i)/\(M i).id=i)->(∀a∈m :: q,lU a/\a.aD<=(M a.aE).aA.aC)->(∀a∈l,lP s a/\a.aC≠1/\(a.aC=2->m.aC=1))->s.id=m.to->J (iH M m.to s) (q++l)):
  ∀(n N:Nat)(x:fM),gC N c P x->N+n*(3*c)+3<2^25->J x.M x.aA->gC (N+n*(3*c)) c P (x.aI n)/\J (x.aI n).M (x.aI n).aA:=
 λn N x=>Jc cb pb (λM m q s l a b c d e f _=>hs M m q s l a b c d e f) n N x
theorem Jb (x:fM):∀(a b:Nat),(x.aI a).aI b=x.aI (a+b)
 | 0,b=>by rw[Y7];rfl
 | a+1,b=>by rw[show a+1+b=(a+b)+1 by omega];exact Jb x.aE a b
structure sK (x x':fM)(S:Int->fy)(L:Int->List fF):Prop where
 aA:∀i,1<=i/\i<=5->mB (x.M i) (3*i) (S i) (L i)/\(∀a∈L i,lP (S i) a/\a.aC≠2)/\(S i).id=i/\jg (S i)
 M:∀i,1<=i/\i<=5->x'.M i=S i
 aC:x'.aA=x.aA++(L 1++L 2++L 3)
theorem gC.tk (h:gC N c P x)(hb:N<2^25) (cb:10*((c+1:Nat):Int)+40<400000) (pb:P+1+40<400000) {k:Nat} (hk:k<5) (d:Int):gC (N+1) (c+1) (P+if k<3 then 1 else 0) (x.tk k d)/\∃s l,Ff x (k+1) d (x.tk k d) s l:=by have l5:=h.l5;have e:k<x.l.length:=ω;obtain⟨a,-,b⟩:=h.aQ hb cb pb e d;unfold fM.tk;rw[fM.aR e];exact⟨a,b⟩
theorem gC.aE (h:gC N c P x)(hb:N+5<2^25) (cb:10*((c+5:Nat):Int)+40<400000) (pb:P+5+40<400000):gC (N+5) (c+5) (P+3) x.aH/\∃S L,sK x x.aH S L:=by
 obtain⟨h1,s1,l1,b1⟩:=h.tk ω ω ω (k:=0) ω 3;obtain⟨h2,s2,l2,b2⟩:=h1.tk ω ω (by simp;omega) (k:=1) ω 6;obtain⟨h3,s3,l3,b3⟩:=h2.tk ω ω (by simp;omega) (k:=2) ω 9;obtain⟨h4,s4,l4,b4⟩:=h3.tk ω ω (by simp;omega) (k:=3) ω 12;obtain⟨h5,s5,l5,b5⟩:=h4.tk ω ω (by simp;omega) (k:=4) ω 15;have E:x.aH=((((x.tk 0 3).tk 1 6).tk 2 9).tk 3 12).tk 4 15:=rfl;rw[E];have m1:(x.tk 0 3).M=iH x.M 1 s1:=by simpa using b1.M
 have m2:((x.tk 0 3).tk 1 6).M=iH (iH x.M 1 s1) 2 s2:=by rw[<-m1];simpa using b2.M
 have m3:(((x.tk 0 3).tk 1 6).tk 2 9).M=iH (iH (iH x.M 1 s1) 2 s2) 3 s3:=by rw[<-m2];simpa using b3.M
 have m4:((((x.tk 0 3).tk 1 6).tk 2 9).tk 3 12).M=iH (iH (iH (iH x.M 1 s1) 2 s2) 3 s3) 4 s4:=by rw[<-m3];simpa using b4.M
 have m5:(((((x.tk 0 3).tk 1 6).tk 2 9).tk 3 12).tk 4 15).M=iH (iH (iH (iH (iH x.M 1 s1) 2 s2) 3 s3) 4 s4) 5 s5:=by rw[<-m4];simpa using b5.M
 have k1:=b1.aD;have k2:=b2.aD;have k3:=b3.aD;have k4:=b4.aD;have k5:=b5.aD;rw[m1]at k2;rw[m2]at k3;rw[m3]at k4;rw[m4]at k5;simp[iH]at k1 k2 k3 k4 k5;have c':=λi hi=>h5.aA i hi;rw[m5]at c';have c1:=c' 1 ω;have c2:=c' 2 ω;have c3:=c' 3 ω;have c4:=c' 4 ω;have c5:=c' 5 ω;simp[iH]at c1 c2 c3 c4 c5;have e4:=((k4.aG (h.aA 4 ω).1 (h.aF 4 ω).1).2.2.2.2.2.2 (by rw[(h.aA 4 ω).2];omega)).1;have e5:=((k5.aG (h.aA 5 ω).1 (h.aF 5 ω).1).2.2.2.2.2.2 (by rw[(h.aA 5 ω).2];omega)).1;refine⟨h5.aC ω ω (by simp;omega),λi=>if i=1 then s1 else if i=2 then s2 else if i=3 then s3 else if i=4 then s4 else s5,λi=>if i=1 then l1 else if i=2 then l2 else if i=3 then l3 else if i=4 then l4 else l5,λi hi=>?_,λi hi=>?_,?_⟩
 ·rcases (by omega:i=1\/i=2\/i=3\/i=4\/i=5) with rfl | rfl | rfl | rfl | rfl;·exact⟨k1,b1.aC,c1.2,c1.1⟩
  ·exact⟨k2,b2.aC,c2.2,c2.1⟩
  ·exact⟨k3,b3.aC,c3.2,c3.1⟩
  ·exact⟨k4,b4.aC,c4.2,c4.1⟩
  ·exact⟨k5,b5.aC,c5.2,c5.1⟩
 ·rw[m5];rcases (by omega:i=1\/i=2\/i=3\/i=4\/i=5) with rfl | rfl | rfl | rfl | rfl<;>simp[iH]
 ·rw[b5.aA,b4.aA,b3.aA,b2.aA,b1.aA,e4,e5];simp
end
section
variable {r s:fy} {m:fF} {l:List fF} {d T:Int}
theorem ni {r:fy}{t:Int}(h:t<=r.aA.aC):r.aK t=r:=WY ω
theorem iD.aM (t:iD r m s l)(h2:r.aE=2)(hm:m.aD<=r.aA.aC):s.aE=2/\s.aM=r.aM/\s.aA.aA=r.aA.aA/\s.aA.aC=r.aA.aC/\s.aR=r.aR:=by
 have b:=ni hm;cases t with
 | aJ=>exact⟨h2,rfl,rfl,rfl,rfl⟩
 | aD=>rw[b];exact⟨h2,rfl,rfl,rfl,rfl⟩
 | aE=>rw[b];exact⟨h2,rfl,rfl,rfl,rfl⟩
 | aI=>rw[b];exact⟨h2,rfl,rfl,rfl,rfl⟩
 | aH h k g=>omega
 | aC h k g=>rw[b]at g;exact absurd h2 g
 | aF h k g i hi hn c a l s hz=>rw[hz];exact⟨h2,rfl,rfl,rfl,rfl⟩
 | aG=>exact⟨h2,rfl,rfl,rfl,rfl⟩
 | aA h k g=>rw[b]at g;exact absurd h2 g
theorem iD.aW (t:iD r m s l)(h2:r.aE=2)(e:s.aA.aC=r.aA.aC):s.aE=2:=(t.aM h2 (by have:=t.aK.2.1;omega)).1
theorem iD.aL (t:iD r m s l)(h2:r.aE≠2)(hm:m.aD<=r.aA.aC)(hk:m.aD=r.aA.aC->m.aC=4\/(m.aC=2/\m.ok=false)):s=r/\∀a∈l,a.aC=4\/(a.aC=2/\a.ok=false):=by
 have b:=ni hm;cases t with
 | aJ h l hl=>
  refine⟨rfl,λa ha=>?_⟩;rw[hl]at ha;split at ha;·rw[XN.1 ha];exact .inr ⟨rfl,rfl⟩
  ·split at ha;·rw[XN.1 ha];exact .inl rfl
   ·cases ha
 | aD h k=>have:=hk ω;omega
 | aE h k=>have:=hk ω;omega
 | aI=>exact⟨b,λa ha=>(by cases ha)⟩
 | aH h k g=>
  rcases hk h.symm with z | z;·omega
  ·rw[g.2]at z;cases z.2
 | aC=>exact⟨b,λa ha=>(by cases ha)⟩
 | aF h k g=>exact absurd g h2
 | aG h k g=>exact absurd g h2
 | aA h k=>have:=hk ω;omega
theorem iD.aP (t:iD r m s l)(hm:r.aA.aC<m.aD)(hk:m.aC=4\/(m.aC=2/\m.ok=false)):s.aE=0/\l=[]:=by
 have b:(r.aK m.aD).aE=0:=by unfold fy.aK;rw[WW hm]
 cases t with
 | aJ h=>omega
 | aD h k=>omega
 | aE h k=>omega
 | aI=>exact⟨b,rfl⟩
 | aH h=>omega
 | aC=>exact⟨b,rfl⟩
 | aF h=>omega
 | aG h=>omega
 | aA h k=>omega
theorem iD.aV (t:iD r m s l)(hk:m.aC=3)(hm:r.aA.aC<=m.aD)(h2:(r.aK m.aD).aE≠2):s.aE=0/\s.aR=m.aE/\s.aF=0:=by
 cases t with
 | aJ h=>omega
 | aD h k=>omega
 | aE h k=>omega
 | aI h k=>omega
 | aH h k=>omega
 | aC h k=>omega
 | aF h k=>omega
 | aG h k g=>rw[ni ω]at h2;exact absurd g h2
 | aA h k g y hy a l hl=>obtain⟨⟨p1,p2,p3,p4,p5,p6,p7,p8,p9,p10,p11,p12⟩,p13⟩:=vZ ({r:={(r.aK m.aD).aW m.aE with aF:=0},o:=(r.aK m.aD).aH.o}:RX) m;obtain⟨q1,q2,q3,q4⟩:=RX.aZ ({r:={(r.aK m.aD).aW m.aE with aF:=0},o:=(r.aK m.aD).aH.o}:RX) m;rw[<-hy]at p1 p3 q2;exact⟨q2,p3,p1⟩
end
abbrev V3 (i:Int):Prop:=1<=i/\i<=3
def qf (M:Int->fy)(q:List fF):Prop:=∀a∈q,a.aC=3->a.aD=(M a.aE).aA.aC->(M a.aE).aE=2
def xK (q:List fF):Prop:=∀a∈q,a.aC=3\/a.aC=4
section
variable {M:Int->fy} {m:fF} {o n q l:List fF} {s:fy} {N c:Nat} {P:Int} {x:fM}
theorem qf.aA (h:qf M q)(t:iD (M m.to) m s l)(hm:∀a∈q,lU a/\a.aD<=(M a.aE).aA.aC)(hl:∀a∈l,lP s a/\a.aC≠1/\(a.aC=2->m.aC=1))(u:s.id=m.to):qf (iH M m.to s) (q++l):=by
 intro a ha k e;rcases Xe.1 ha with z | z
 ·by_cases c:a.aE=m.to
  ·rw[c,iW]at e ⊢;have h1:=(hm a z).2;have h2:=t.aK.2.1;rw[c]at h1;have e':a.aD=(M a.aE).aA.aC:=by rw[c];omega
   have:=h a z k e';rw[c]at this;exact t.aW this ω
  ·rw[jk c]at e ⊢;exact h a z k e
 ·obtain⟨s1,-⟩:=hl a z;rw[s1.aA,u,iW];exact (s1.aD k).1
def R0 (x:fM):Prop:=qf x.M x.aA/\xK x.aA
def oU (N c:Nat)(P:Int):Prop:=N+18*c<2^24/\10*(c:Int)<300000/\P<300000
theorem Dn (h:gC N c P x)(sm:oU N c P):gC (N+18*c+100) (c+5) (P+3) x.aF/\R0 x.aF:=by
 obtain⟨s1,s2,s3⟩:=sm;obtain⟨h1,-⟩:=h.aE ω ω ω;obtain⟨h2,i2⟩:=tI h1 ω ω ω (I:=λM _ n=>qf M n/\∀a∈n,a.aC≠1) ⟨λa ha=>(by cases ha),λa ha=>(by cases ha)⟩ (λM m o n s l hi t hc hm hl hid=>⟨hi.1.aA t (λa ha=>hm a (YO _ ha)) hl hid,λa ha=>(Xe.1 ha).elim (hi.2 a) λz=>(hl a z).2.1⟩);obtain⟨h3,i3⟩:=tI h2 ω ω ω (I:=λM o n=>qf M (o++n)/\(∀a∈o,a.aC≠1)/\xK n) ⟨by simpa using i2.1,i2.2,λa ha=>(by cases ha)⟩ (λM m o n s l hi t hc hm hl hid=>by
  refine⟨?_,λa ha=>hi.2.1 a (XY _ ha),λa ha=>?_⟩
  ·rw[<-Xl];refine qf.aA (q:=o++n) (λa ha=>hi.1 a ?_) t (λa ha=>hm a ?_) hl hid;·exact XY m ha
   ·exact XY m ha
  ·rcases Xe.1 ha with z | z;·exact hi.2.2 a z
   ·obtain⟨z1,z2,z3⟩:=hl a z;have:=z1.aC.aD;have:a.aC≠2:=λe=>hi.2.1 m XG (z3 e);omega)
 obtain⟨h4,i4⟩:=qJ (J:=λM q=>qf M q/\xK q) ω ω (λM m q s l hi t hc hm hl hid=>by
  refine⟨qf.aA (q:=q) (λa ha=>hi.1 a (XY _ ha)) t (λa ha=>hm a (XY _ ha)) hl hid,λa ha=>?_⟩;rcases Xe.1 ha with z | z;·exact hi.2 a (XY _ z)
  ·obtain⟨z1,z2,z3⟩:=hl a z;have:=z1.aC.aD;have h34:=hi.2 m XG;have:a.aC≠2:=λe=>by have:=z3 e;omega
   omega) 4 _ x.aH.aE.aE h3 ω ⟨by simpa using i3.1,i3.2.2⟩
 exact⟨h4.aC ω (WX _) (W9 _),i4⟩
end
structure qk (T:Int)(Q:Int->Prop)(R:Int->fy)(M:Int->fy)(q:List fF):Prop where
 le:∀i,V3 i->(M i).aA.aC<=T
 nl:∀i,V3 i->(M i).aA.aC=T->(M i).aE≠2
 st:∀i,V3 i->Q i->M i=R i/\(R i).aA.aC=T
 ms:∀a∈q,a.aD=T->a.aC=4\/(a.aC=2/\a.ok=false)
structure um (T p b:Int)(M:Int->fy):Prop where
 le:∀i,V3 i->(M i).aA.aC<=T
 p:V3 p/\(M p).aA.aC=T/\(M p).aE=2/\(M p).aM=b
structure q_ (T:Int)(M:Int->fy)(o:List fF):Prop where
 le:∀i,V3 i->(M i).aA.aC<=T
 on:∀i,V3 i->(M i).aA.aC=T\/∃a∈o,a.to=i/\a.aD=T
structure iZ (t l b:Int)(M:Int->fy)(q:List fF):Prop where
 r2:V3 l/\(M l).aE=2/\(M l).aM=b
 tm:∀i,V3 i->(M i).aA.aC=t
 nl:∀i,V3 i->i≠l->(M i).aE≠2
 k:xK q
 f:∀a∈q,a.aC=3->a.aD=t->a.aE=l
structure qS (l e:Int)(r:fy):Prop where
 aA:r.aE=0
 ld:r.aR=l
 el:r.aF<=e
section
variable {M R:Int->fy} {Q:Int->Prop} {m:fF} {o n q l:List fF} {s:fy} {T p b t ld:Int} {N c:Nat} {P:Int} {x:fM}
theorem qk.aA (h:qk T Q R M (m :: q))(w:iD (M m.to) m s l)(hm:∀a∈m :: q,lU a/\a.aD<=(M a.aE).aA.aC)(hl:∀a∈l,lP s a/\a.aC≠1/\(a.aC=2->m.aC=1)):qk T Q R (iH M m.to s) (q++l):=by
 obtain⟨m1,m2⟩:=hm m XG;have mt:=h.le _ m1.aC;have rt:=h.le _ m1.aA;have ht:=w.aK.2.1;have hk:=h.ms m XG;have top:(M m.to).aA.aC=T->s=M m.to/\∀a∈l,a.aC=4\/(a.aC=2/\a.ok=false):=λe=>w.aL (h.nl _ m1.aA e) ω (λe'=>hk ω);refine⟨λi hi=>?_,λi hi=>?_,λi hi hq=>?_,λa ha e=>?_⟩
 ·by_cases e:i=m.to
  ·rw[e,iW];omega
  ·rw[jk e];exact h.le i hi
 ·by_cases e:i=m.to
  ·rw[e,iW];intro e2;by_cases c:(M m.to).aA.aC=T;·rw[(top c).1];exact h.nl _ m1.aA c
   ·rw[(w.aP ω (hk ω)).1];decide
  ·rw[jk e];exact h.nl i hi
 ·obtain⟨a1,a2⟩:=h.st i hi hq;by_cases e:i=m.to;·rw[e,iW];rw[e]at a1 a2;exact⟨((top (by rw[a1];exact a2)).1).trans a1,a2⟩
  ·rw[jk e];exact⟨a1,a2⟩
 ·rcases Xe.1 ha with z | z;·exact h.ms a (XY _ z) e
  ·have:=(hl a z).1.aE;by_cases c:(M m.to).aA.aC=T;·exact (top c).2 a z
   ·rw[(w.aP ω (hk ω)).2]at z;cases z
theorem um.aA (h:um T p b M)(w:iD (M m.to) m s l)(hm:lU m/\m.aD<=(M m.aE).aA.aC):um T p b (iH M m.to s):=by
 have mt:=h.le _ hm.1.aC;have rt:=h.le _ hm.1.aA;have ht:=w.aK.2.1;obtain⟨p1,p2,p3,p4⟩:=h.p;refine⟨λi hi=>?_,p1,?_⟩
 ·by_cases e:i=m.to
  ·rw[e,iW];omega
  ·rw[jk e];exact h.le i hi
 ·by_cases e:p=m.to
  ·rw[e,iW];rw[e]at p2 p3 p4;obtain⟨k1,k2,k3,k4,k5⟩:=w.aM p3 ω;exact⟨k4.trans p2,k1,k2.trans p4⟩
  ·rw[jk e];exact⟨p2,p3,p4⟩
theorem q_.aA (h:q_ T M (m :: o))(w:iD (M m.to) m s l)(hm:lU m/\m.aD<=(M m.aE).aA.aC):q_ T (iH M m.to s) o:=by
 have mt:=h.le _ hm.1.aC;have rt:=h.le _ hm.1.aA;have ht:=w.aK.2.1;refine⟨λi hi=>?_,λi hi=>?_⟩
 ·by_cases e:i=m.to
  ·rw[e,iW];omega
  ·rw[jk e];exact h.le i hi
 ·rcases h.on i hi with z | ⟨a,ha,a1,a2⟩
  ·by_cases e:i=m.to
   ·rw[e,iW];rw[e]at z;exact .inl ω
   ·rw[jk e];exact .inl z
  ·rcases XC.1 ha with z | z;·subst z;rw[<-a1,iW];exact .inl ω
   ·exact .inr ⟨a,z,a1,a2⟩
theorem iZ.aA (h:iZ t ld b M (m :: q))(w:iD (M m.to) m s l)(hm:∀a∈m :: q,lU a/\a.aD<=(M a.aE).aA.aC)(hl:∀a∈l,lP s a/\a.aC≠1/\(a.aC=2->m.aC=1))(u:s.id=m.to):iZ t ld b (iH M m.to s) (q++l) /\
  (m.to≠ld->s=M m.to\/(m.aC=3/\m.aD=t/\s.aE=0/\s.aR=ld/\s.aF=0))/\(m.to=ld->s.aR=(M ld).aR/\s.aA.aA=(M ld).aA.aA)/\(m.to≠ld->m.aC=3->m.aD=t->s.aE=0/\s.aR=ld/\s.aF=0):=by
 obtain⟨m1,m2⟩:=hm m XG;have mt:=h.tm _ m1.aC;have rt:=h.tm _ m1.aA;have ht:=w.aK.2.1;have mk:=h.k m XG;obtain⟨l1,l2,l3⟩:=h.r2;have other:m.to≠ld->m.aC=3->m.aD=t->s.aE=0/\s.aR=ld/\s.aF=0:=λe k3 kt=>by have:=w.aV k3 ω (by rw[ni ω];exact h.nl _ m1.aA e);rw[h.f m XG k3 kt]at this;exact this
 have same:m.to≠ld->¬(m.aC=3/\m.aD=t)->s=M m.to:=λe k=>(w.aL (h.nl _ m1.aA e) ω (λe2=>by
  rcases mk with z | z;·exact absurd ⟨z,ω⟩ k
  ·exact .inl z)).1
 have lead:m.to=ld->s.aE=2/\s.aM=b/\s.aR=(M ld).aR/\s.aA.aA=(M ld).aA.aA:=λe=>by rw[<-e]at l2 l3 ⊢;obtain⟨k1,k2,k3,k4,k5⟩:=w.aM l2 ω;exact⟨k1,k2.trans l3,k5,k3⟩
 have sr:m.to≠ld->s.aE≠2:=λe=>by
  by_cases k:m.aC=3/\m.aD=t
  ·rw[(other e k.1 k.2).1];decide
  ·rw[same e k];exact h.nl _ m1.aA e
 refine⟨⟨⟨l1,?_⟩,λi hi=>?_,λi hi hn=>?_,λa ha=>?_,λa ha k3 e=>?_⟩,λe=>?_,λe=>(lead e).2.2,other⟩
 ·by_cases e:ld=m.to
  ·rw[e,iW];exact⟨(lead e.symm).1,(lead e.symm).2.1⟩
  ·rw[jk e];exact⟨l2,l3⟩
 ·by_cases e:i=m.to
  ·rw[e,iW];omega
  ·rw[jk e];exact h.tm i hi
 ·by_cases e:i=m.to
  ·rw[e,iW];exact sr (λz=>hn (e.trans z))
  ·rw[jk e];exact h.nl i hi hn
 ·rcases Xe.1 ha with z | z;·exact h.k a (XY _ z)
  ·obtain⟨z1,z2,z3⟩:=hl a z;have:=z1.aC.aD;have:a.aC≠2:=λe=>by have:=z3 e;omega
   omega
 ·rcases Xe.1 ha with z | z;·exact h.f a (XY _ z) k3 e
  ·obtain⟨z1,z2,z3⟩:=hl a z;rw[z1.aA,u];exact W6 λc=>sr c (z1.aD k3).1
 ·by_cases k:m.aC=3/\m.aD=t
  ·exact .inr ⟨k.1,k.2,other e k.1 k.2⟩
  ·exact .inl (same e k)
theorem Iw (h:gC N c P x)(hN:N+3*c+3<2^25)(cb:10*(c:Int)+40<400000)(pb:P+40<400000)(hl:iZ t ld b x.M x.aA)(hp:∀j,V3 j->j≠ld->∃a∈x.aA,a.to=j/\a.aC=3/\a.aD=t):gC (N+3*c) c P x.aE/\iZ t ld b x.aE.M x.aE.aA/\∀j,V3 j->j≠ld->qS ld 0 (x.aE.M j):=by
 obtain⟨a,b1,b2⟩:=tI h hN cb pb (I:=λM o n=>iZ t ld b M (o++n)/\∀j,V3 j->j≠ld->qS ld 0 (M j)\/∃a∈o,a.to=j/\a.aC=3/\a.aD=t) ⟨by simpa using hl,λj h1 h2=>.inr (hp j h1 h2)⟩ (λM m o n s l hi t hc hm hl hid=>by
  obtain⟨a1,a2,a3,a4⟩:=iZ.aA (q:=o++n) hi.1 t hm hl hid;rw[Xl]at a1;refine⟨a1,λj h1 h2=>?_⟩;by_cases e:j=m.to
  ·rw[e,iW];rw[e]at h2;rcases hi.2 j h1 (by rw[e];exact h2) with z | ⟨a,ha,z1,z2,z3⟩
   ·rcases a2 h2 with q | ⟨-,-,q1,q2,q3⟩;·rw[q];rw[e]at z;exact .inl z
    ·exact .inl ⟨q1,q2,ω⟩
   ·rcases XC.1 ha with q | q;·subst q;obtain⟨q1,q2,q3⟩:=a4 h2 z2 z3;exact .inl ⟨q1,q2,ω⟩
    ·exact .inr ⟨a,q,z1.trans e,z2,z3⟩
  ·rw[jk e];rcases hi.2 j h1 h2 with z | ⟨a,ha,z1,z2,z3⟩;·exact .inl z
   ·rcases XC.1 ha with q | q;·exact absurd (z1.symm.trans (Y5 fF.to q)) e
    ·exact .inr ⟨a,q,z1,z2,z3⟩)
 exact⟨a,by simpa using b1,λj h1 h2=>(b2 j h1 h2).elim (λz=>z) λ⟨a,ha,_⟩=>(by cases ha)⟩
theorem DV (k:Nat){e:Int}(e0:0<=e)(h:gC N c P x)(hN:N+k*(3*c)+3<2^25)(cb:10*(c:Int)+40<400000)(pb:P+40<400000)(hl:iZ t ld b x.M x.aA)(hf:∀j,V3 j->j≠ld->qS ld e (x.M j)):gC (N+k*(3*c)) c P (x.aI k)/\iZ t ld b (x.aI k).M (x.aI k).aA/\∀j,V3 j->j≠ld->qS ld e ((x.aI k).M j):=
 qJ (J:=λM q=>iZ t ld b M q/\∀j,V3 j->j≠ld->qS ld e (M j)) cb pb (λM m q s l hi t hc hm hl u=>by
  obtain⟨a1,a2,a3,a4⟩:=hi.1.aA t hm hl u;refine⟨a1,λj h1 h2=>?_⟩;by_cases e:j=m.to
  ·rw[e,iW];rw[e]at h2;have z:=hi.2 j h1 (by rw[e];exact h2);rcases a2 h2 with q | ⟨-,-,q1,q2,q3⟩;·rw[q,<-e];exact z
   ·exact⟨q1,q2,ω⟩
  ·rw[jk e];exact hi.2 j h1 h2) k N x h hN ⟨hl,hf⟩
end
def An (t:Int)(C:Int->Prop)(d:Int)(r:fy)(n:List fF):Prop:=C r.aA.aF/\V3 r.aA.aF/\∃a∈n,a.aC=2/\a.ok=true/\a.aE=d/\a.to=r.aA.aF/\a.aD=t+1
structure ud (t:Int)(C:Int->Prop)(fz:Prop)(R M:Int->fy)(o n:List fF):Prop where
 rc:∀c,V3 c->C c->(R c).aA.aC=t+1/\(R c).aE=1/\(R c).aA.aF=c
 rd:∀d,V3 d->¬C d->fz->(R d).aE≠2/\(R d).aA.aC=t
 st:∀c,V3 c->C c->M c=R c
 dn:∀d,V3 d->¬C d->((M d).aA.aC=t/\(fz->M d=R d))\/((M d).aA.aC=t+1/\(M d).aE=0/\(((M d).aA.aF=0/\(fz->M d=(R d).aK (t+1)))\/An t C d (M d) n))
 o:∀a∈o,(a.aC=1/\a.aD=t+1/\C a.aE)\/((a.aC=3\/a.aC=4)/\a.aD<=t/\(fz->a.aC=3->a.aD<t))
 n:∀a∈n,a.aC≠1/\(a.aC=3->a.aD<=t)/\(a.aC=2->a.ok=true->¬C a.aE/\a.to=(M a.aE).aA.aF/\(M a.aE).aA.aC=t+1)
section
variable {M R:Int->fy} {C:Int->Prop} {fz:Prop} {m:fF} {o n q l:List fF} {r s:fy} {t c:Int}
theorem iD.aU (w:iD r m s l)(k:m.aC=1)(e:m.aD=r.aA.aC)(v0:r.aA.aF≠0)(v1:r.aA.aF≠m.aE):s=r/\∀a∈l,a.aC=2/\a.ok=false:=by
 have b:r.aK m.aD=r:=ni ω;cases w with
 | aJ h=>omega
 | aD h k g=>rw[b];exact⟨rfl,λa ha=>by rw[XN.1 ha];exact⟨rfl,rfl⟩⟩
 | aE h k g=>
  rw[b]at g;simp only[ku,Xs,Ys,XK]at g;rcases g.2.2.1 with z | z;·exact absurd z v0
  ·exact absurd z v1
 | aI h k'=>omega
 | aH h k'=>omega
 | aC h k'=>omega
 | aF h k'=>omega
 | aG h k'=>omega
 | aA h k'=>omega
theorem iD.aO (w:iD r m s l)(k:m.aC=1)(e:r.aA.aC<=m.aD):(s=r.aK m.aD/\ku m.aD (r.aK m.aD).aA.aF r.aA.aA m=false/\∀a∈l,a.aC=2/\a.ok=false) \/
  (s={r.aK m.aD with aF:=0,aA:={(r.aK m.aD).aA with aF:=m.aE}}/\((r.aK m.aD).aA.aF=0\/(r.aK m.aD).aA.aF=m.aE)/\l=[(r.aK m.aD).vd m.aE true]):=by
 cases w with
 | aJ h=>omega
 | aD h k g=>exact .inl ⟨rfl,g,λa ha=>by rw[XN.1 ha];exact⟨rfl,rfl⟩⟩
 | aE h k g=>simp only[ku,Xs,Ys,XK]at g;exact .inr ⟨rfl,g.2.2.1,rfl⟩
 | aI h k'=>omega
 | aH h k'=>omega
 | aC h k'=>omega
 | aF h k'=>omega
 | aG h k'=>omega
 | aA h k'=>omega
theorem ud.aA (h:ud t C fz R M (m :: o) n)(w:iD (M m.to) m s l)(hm:∀a∈m :: o++n,lU a/\a.aD<=(M a.aE).aA.aC)(hl:∀a∈l,lP s a/\a.aC≠1/\(a.aC=2->m.aC=1))(U:s.id=m.to)(hr:(M m.to).id=m.to):ud t C fz R (iH M m.to s) o (n++l)/\(¬C m.to->(M m.to).aA.aC=t+1->(M m.to).aA.aF≠0->s.aA.aF=(M m.to).aA.aF):=by
 obtain⟨m1,m2⟩:=hm m XG;have mo:=h.o m XG;have ht:=w.aK.2.1;by_cases cj:C m.to
 · -- it stands itself: nothing
  have e1:=h.st _ m1.aA cj;obtain⟨r1,r2,r3⟩:=h.rc _ m1.aA cj;have sm:s=M m.to/\∀a∈l,a.aC=4\/(a.aC=2/\a.ok=false):=by
   rcases mo with⟨k,kt,kc⟩ | ⟨k,kt,-⟩;·obtain⟨a1,a2⟩:=w.aU k (by rw[e1];omega) (by rw[e1];have:=m1.aA;omega) (by rw[e1,r3];exact λz=>m1.ne z.symm);exact⟨a1,λa ha=>.inr (a2 a ha)⟩
   ·exact w.aL (by rw[e1];omega) (by rw[e1];omega) (λz=>by rw[e1]at z;omega)
  have eM:iH M m.to s=M:=by
   funext i
   by_cases e:i=m.to
   ·rw[e,iW,sm.1]
   ·rw[jk e]
  rw[eM];refine⟨⟨h.rc,h.rd,h.st,λd hd hc=>?_,λa ha=>h.o a (XY _ ha),λa ha=>?_⟩,λz=>absurd cj z⟩
  ·rcases h.dn d hd hc with z | ⟨z1,z2,z3⟩;·exact .inl z
   ·refine .inr ⟨z1,z2,z3.imp (λz=>z) λ⟨g1,g2,a,ga,g3⟩=>⟨g1,g2,a,Yu _ ga,g3⟩⟩
  ·rcases Xe.1 ha with z | z;·exact h.n a z
   ·have:=sm.2 a z;refine⟨(hl a z).2.1,λk=>ω,λk k2=>?_⟩;rcases this with q | ⟨-,q⟩;·omega
    ·rw[q]at k2;cases k2
 · -- another one
  have dn:=h.dn _ m1.aA cj;have le:(M m.to).aA.aC<=t+1:=by rcases dn with z | z<;>omega
  have key:(((s.aA.aC=t/\(fz->s=R m.to))\/(s.aA.aC=t+1/\s.aE=0/\((s.aA.aF=0/\(fz->s=(R m.to).aK (t+1)))\/An t C m.to s (n++l)))) /\
    (∀a∈l,(a.aC=3->a.aD<=t)/\(a.aC=2->a.ok=true->a.to=s.aA.aF/\s.aA.aC=t+1)))/\((M m.to).aA.aC=t+1->(M m.to).aA.aF≠0->s.aA.aF=(M m.to).aA.aF):=by
   rcases mo with⟨k,kt,kc⟩ | ⟨k,kt,kf⟩
   ·have b:((M m.to).aK m.aD).aE=0/\((M m.to).aK m.aD).aA.aC=t+1:=by
     refine⟨?_,by rw[sS _ ω];exact kt⟩;rcases dn with z | z;·unfold fy.aK;rw[WW ω]
     ·rw[ni ω];exact z.2.1
    have W:((M m.to).aK m.aD).id=m.to:=(qA _ _).2.2.2.1.trans hr;rcases w.aO k ω with⟨e1,-,e3⟩ | ⟨e1,e2,e3⟩
    ·refine⟨⟨.inr ?_,λa ha=>⟨λz=>by have:=e3 a ha;omega,λ_ z=>by rw[(e3 a ha).2]at z;cases z⟩⟩,λz _=>by rw[e1,ni ω]⟩;rcases dn with⟨z1,z2⟩ | ⟨z1,z2,z3⟩;·refine⟨by rw[e1];exact b.2,by rw[e1];exact b.1,.inl ⟨?_,λq=>by rw[e1,z2 q,kt]⟩⟩;rw[e1];unfold fy.aK;rw[WW ω]
     ·have es:s=M m.to:=by rw[e1,ni ω]
      rw[es];exact⟨z1,z2,z3.imp (λz=>z) λ⟨g1,g2,a,ga,g3⟩=>⟨g1,g2,a,Yu _ ga,g3⟩⟩
    ·have sv:s.aA.aF=m.aE:=by rw[e1]
     have st:s.aA.aC=t+1:=by rw[e1];exact b.2
     refine⟨⟨.inr ⟨st,by rw[e1];exact b.1,.inr ⟨by rw[sv];exact kc,by rw[sv];exact m1.aC,_,YO _ (by rw[e3];exact XG),rfl,rfl,W,sv.symm,b.2⟩⟩,λa ha=>?_⟩,λz1 z2=>?_⟩;·rw[e3]at ha;rw[XN.1 ha];exact⟨λz=>absurd z (by decide:¬(2:Int)=3),λ_ _=>⟨sv.symm,st⟩⟩
     ·rw[ni ω]at e2;rw[sv];rcases e2 with z | z;·exact absurd z z2
      ·exact z.symm
   ·have O:∀a∈l,a.aC≠2:=λa ha e=>by have:=(hl a ha).2.2 e;omega
    rcases dn with⟨z1,z2⟩ | ⟨z1,z2,z3⟩
    ·have st:s.aA.aC=t:=ω;refine⟨⟨.inl ⟨st,λq=>?_⟩,λa ha=>⟨λ_=>by have:=(hl a ha).1.aE;omega,λz=>absurd z (O a ha)⟩⟩,λz=>ω⟩;have e1:=z2 q;rw[<-e1];refine (w.aL (by rw[e1];exact (h.rd _ m1.aA cj q).1) ω (λz=>?_)).1;rcases k with k | k;·have:=kf q k;omega
     ·exact .inl k
    ·have es:=w.aL ω ω (λz=>ω);rw[es.1];refine⟨⟨.inr ⟨z1,z2,z3.imp (λz=>z) λ⟨g1,g2,a,ga,g3⟩=>⟨g1,g2,a,Yu _ ga,g3⟩⟩,λa ha=>⟨λk3=>?_,λz=>absurd z (O a ha)⟩⟩,λ_ _=>rfl⟩;have:=es.2 a ha;omega
  obtain⟨⟨I,E⟩,u⟩:=key;refine⟨⟨h.rc,h.rd,λc hc hC=>?_,λd hd hc=>?_,λa ha=>h.o a (XY _ ha),λa ha=>?_⟩,λ_=>u⟩;·rw[jk (λe=>cj (by rw[<-e];exact hC))];exact h.st c hc hC
  ·by_cases e:d=m.to
   ·rw[e,iW];exact I
   ·rw[jk e];rcases h.dn d hd hc with z | ⟨z1,z2,z3⟩;·exact .inl z
    ·refine .inr ⟨z1,z2,z3.imp (λz=>z) λ⟨g1,g2,a,ga,g3⟩=>⟨g1,g2,a,Yu _ ga,g3⟩⟩
  ·rcases Xe.1 ha with z | z
   ·obtain⟨n1,n2,n3⟩:=h.n a z;refine⟨n1,n2,λk k2=>?_⟩;obtain⟨q1,q2,q3⟩:=n3 k k2;by_cases e:a.aE=m.to;·rw[e,iW];rw[e]at q1 q2 q3;have at':=(hm a (XY _ (YO _ z))).1.aA;refine⟨q1,by rw[u q3 ω];exact q2,ω⟩
    ·rw[jk e];exact⟨q1,q2,q3⟩
   ·obtain⟨k1,k2⟩:=E a z;have sd:=(hl a z).1;refine⟨(hl a z).2.1,k1,λk k'=>?_⟩;rw[sd.aA,U,iW];exact⟨cj,k2 k k'⟩
end
structure vF (T c:Int)(M:Int->fy)(o n:List fF):Prop where
 c3:V3 c
 tm:∀i,V3 i->(M i).aA.aC=T
 nl:∀i,V3 i->i≠c->(M i).aE≠2
 cw:((M c).aE=1/\∃a∈o,a.aC=2/\a.ok=true/\a.to=c/\a.aD=T)\/((M c).aE=2/\(M c).aM=0/\∀j,V3 j->j≠c->∃a∈n,a.to=j/\a.aC=3/\a.aD=T)
 o:∀a∈o,a.aC≠1/\(a.aC=2->a.ok=true->a.aD=T->a.to=c)/\(a.aC=3->a.aD<T)
 n:∀a∈n,(a.aC=3\/a.aC=4)/\(a.aC=3->a.aD=T->a.aE=c)
def SS (t l:Int)(x:fM):Prop:=∃b,(b=0\/b=1)/\iZ t l b x.M x.aA/\∀j,V3 j->j≠l->qS l b (x.M j)
section
variable {M R:Int->fy} {C:Int->Prop} {fz:Prop} {m:fF} {o n q l:List fF} {r s:fy} {t c T:Int} {N k:Nat} {P:Int} {x:fM}
theorem iD.aR (w:iD r m s l)(h:jg r)(u:V3 r.id)(k:m.aC=2)(ok:m.ok=true)(e:r.aA.aC=m.aD)(h1:r.aE=1):s.aE=2/\s.aM=0/\(∀j,V3 j->j≠r.id->∃a∈l,a.to=j/\a.aC=3/\a.aD=r.aA.aC):=by
 have b:r.aK m.aD=r:=ni ω;cases w with
 | aJ h=>omega
 | aD h k' g=>omega
 | aE h k' g=>omega
 | aI h k' g=>rw[b]at g;exact absurd ⟨h1,ok⟩ g
 | aH h' k' g a=>obtain⟨c,-,es⟩:=qL r.bB;rw[es];refine⟨rfl,rfl,λj hj hn=>?_⟩;have b0:=h.aA;have jo:j∈jr r.id:=pX.2 ⟨hj,hn⟩;obtain⟨-,s2,s3,-,s5,-⟩:=pD (r:=r.bB) (f:=⟨j,r.aA.aA.aC+1,0,0⟩) (zj h u) h.aA h.aC u jo (by show 1<=r.aA.aA.aC+1;unfold fG.aC;omega);exact⟨_,XO.2 ⟨⟨j,r.aA.aA.aC+1,0,0⟩,XO.2 ⟨j,jo,rfl⟩,rfl⟩,s3,s2,s5⟩
 | aC h k'=>omega
 | aF h k'=>omega
 | aG h k'=>omega
 | aA h k'=>omega
theorem vF.aA (h:vF T c M (m :: o) n)(w:iD (M m.to) m s l)(hc:∀i,1<=i/\i<=3->jg (M i)/\(M i).id=i)(hm:∀a∈m :: o++n,lU a/\a.aD<=(M a.aE).aA.aC)(hl:∀a∈l,lP s a/\a.aC≠1/\(a.aC=2->m.aC=1))(I:s.id=m.to):vF T c (iH M m.to s) o (n++l):=by
 obtain⟨m1,m2⟩:=hm m XG;obtain⟨o1,o2,o3⟩:=h.o m XG;have mt:=h.tm _ m1.aC;have rt:=h.tm _ m1.aA;have ht:=w.aK.2.1;have u:∀a∈l,a.aC=3\/a.aC=4:=λa ha=>by obtain⟨z1,z2,z3⟩:=hl a ha;have:=z1.aC.aD;have:a.aC≠2:=λe=>o1 (z3 e);omega
 have still:(M m.to).aE≠2->¬(m.aC=2/\m.ok=true/\m.aD=T)->s=M m.to:=λr2 z=>(w.aL r2 ω (λe=>by
  have:=m1.aD;by_cases k2:m.aC=2
  ·refine .inr ⟨k2,?_⟩;cases e':m.ok;·rfl
   ·exact absurd ⟨k2,e',ω⟩ z
  ·by_cases k3:m.aC=3
   ·have:=o3 k3;omega
   ·exact .inl ω)).1
 have tm:∀i,V3 i->(iH M m.to s i).aA.aC=T:=λi hi=>by
  by_cases e:i=m.to
  ·rw[e,iW];omega
  ·rw[jk e];exact h.tm i hi
 have oo:∀a∈o,a.aC≠1/\(a.aC=2->a.ok=true->a.aD=T->a.to=c)/\(a.aC=3->a.aD<T):=λa ha=>h.o a (XY _ ha);by_cases cj:m.to=c
 ·have E:=hc _ m1.aA;have nn:∀a∈n++l,(a.aC=3\/a.aC=4)/\(a.aC=3->a.aD=T->a.aE=c):=λa ha=>by
   rcases Xe.1 ha with z | z;·exact h.n a z
   ·exact⟨u a z,λ_ _=>by rw[(hl a z).1.aA,I];exact cj⟩
  refine⟨h.c3,tm,λi hi hn=>by rw[jk (λe=>hn (e.trans cj))];exact h.nl i hi hn,?_,oo,nn⟩;rw[<-cj,iW];rcases h.cw with⟨c1,a,ha,a1,a2,a3,a4⟩ | ⟨c1,c2,c3⟩
  ·rw[<-cj]at c1;by_cases z:m.aC=2/\m.ok=true/\m.aD=T;·obtain⟨w1,w2,w3⟩:=w.aR E.1 (by rw[E.2];exact m1.aA) z.1 z.2.1 ω c1;refine .inr ⟨w1,w2,λj hj hn=>?_⟩;obtain⟨a,b1,b2,b3,b4⟩:=w3 j hj (by rw[E.2];exact hn);exact⟨a,YO _ b1,b2,b3,ω⟩
   ·have:=still (by rw[c1];decide) z;rw[this];refine .inl ⟨c1,?_⟩;rcases XC.1 ha with q | q;·rw[q]at a1 a2 a4;exact absurd ⟨a1,a2,a4⟩ z
    ·exact⟨a,q,a1,a2,a3.trans cj.symm,a4⟩
  ·rw[<-cj]at c1 c2;obtain⟨k1,k2,-⟩:=w.aM c1 ω;refine .inr ⟨k1,k2.trans c2,λj hj hn=>?_⟩;obtain⟨a,b1,b2⟩:=c3 j hj (λe=>hn (e.trans cj.symm));exact⟨a,Yu _ b1,b2⟩
 ·have r2:=h.nl _ m1.aA cj;have es:s=M m.to:=still r2 (λz=>cj (o2 z.1 z.2.1 z.2.2));refine⟨h.c3,tm,λi hi hn=>?_,?_,oo,λa ha=>?_⟩
  ·by_cases e:i=m.to
   ·rw[e,iW,es];exact r2
   ·rw[jk e];exact h.nl i hi hn
  ·rw[jk (λe=>cj e.symm)];rcases h.cw with⟨c1,a,ha,a1,a2,a3,a4⟩ | ⟨c1,c2,c3⟩
   ·refine .inl ⟨c1,?_⟩;rcases XC.1 ha with q | q;·rw[q]at a3;exact absurd a3 cj
    ·exact⟨a,q,a1,a2,a3,a4⟩
   ·refine .inr ⟨c1,c2,λj hj hn=>?_⟩;obtain⟨a,b1,b2⟩:=c3 j hj hn;exact⟨a,Yu _ b1,b2⟩
  ·rcases Xe.1 ha with z | z;·exact h.n a z
   ·refine⟨u a z,λk3 _=>?_⟩;have:=((hl a z).1.aD k3).1;rw[es]at this;exact absurd this r2
theorem Od (h:gC N k P x)(sm:N+18*k+20<2^25)(cb:10*(k:Int)+40<400000)(pb:P+40<400000) (poll:ud t C fz R x.M x.aA []) (reach:q_ (t+1) x.M x.aA):gC (N+18*k) k P (x.aI 6)/\((∃l,V3 l/\SS (t+1) l (x.aI 6)) \/
  ((∀i,V3 i->((x.aI 6).M i).aA.aC=t+1/\((x.aI 6).M i).aE≠2/\(C i->(x.aI 6).M i=R i)/\(¬C i->fz->(x.aI 6).M i=(R i).aK (t+1)))/\(fz->∀a∈x.aA,a.aC=1->¬C a.to->(R a.to).aA.aA.aM a.aA a.aH=false))):=by
 obtain⟨h1,p1,p2⟩:=tI h ω cb pb (I:=λM o n=>ud t C fz R M o n/\(fz->∀a∈x.aA,a.aC=1->¬C a.to->(R a.to).aA.aA.aM a.aA a.aH=true->a∈o\/((M a.to).aA.aC=t+1/\(M a.to).aA.aF≠0))) ⟨poll,λ_ a ha _ _ _=>.inl ha⟩ (λM m o n s l hi w hc hm hl hid=>by
  obtain⟨a1,a2⟩:=hi.1.aA w hm hl hid (hc _ (hm m XG).1.aA).2;refine⟨a1,λq a ha k1 hn nw=>?_⟩;have mm:=(hm m XG).1;have voted:m.aC=1->¬C m.to->(R m.to).aA.aA.aM m.aA m.aH=true->s.aA.aC=t+1/\s.aA.aF≠0:=λk1 hn nw=>by
   have dn:=hi.1.dn _ mm.aA hn;have mo:=hi.1.o m XG;have ht:=w.aK.2.1;have mt:m.aD=t+1:=by rcases mo with z | z<;>omega
   have rt:(M m.to).aA.aC<=t+1:=by rcases dn with z | z<;>omega
   refine⟨ω,?_⟩;have eg:∀r:fy,r.aA.aA=(R m.to).aA.aA->(r.aK m.aD).aA.aF=0->ku m.aD (r.aK m.aD).aA.aF r.aA.aA m=true:=λr e1 e2=>by simp only[ku,e2,e1,nw,k1,decide_true,ZE,ZJ]
   rcases w.aO k1 ω with⟨e1,e2,-⟩ | ⟨e1,-,-⟩
   ·rcases dn with⟨z1,z2⟩ | ⟨z1,z2,z3⟩;·rw[eg _ (by rw[z2 q]) (by unfold fy.aK;rw[WW ω])]at e2;cases e2
    ·rcases z3 with⟨z3,z4⟩ | ⟨z3,z4,-⟩;·rw[eg _ (by rw[z4 q,(qA _ _).1]) (by rw[ni ω];exact z3)]at e2;cases e2
     ·rw[e1,ni ω];omega
   ·rw[e1];show m.aE≠0;have:=mm.aC;omega
  rcases hi.2 q a ha k1 hn nw with z | ⟨z1,z2⟩
  ·rcases XC.1 z with e | e;·rw[e]at k1 hn nw ⊢;rw[iW];exact .inr (voted k1 hn nw)
   ·exact .inl e
  ·by_cases e:a.to=m.to
   ·rw[e]at hn z1 z2 ⊢;rw[iW,a2 hn z1 z2];have:=w.aK.2.1;have mo:=hi.1.o m XG;exact .inr ⟨by rcases mo with z | z<;>omega,z2⟩
   ·rw[jk e];exact .inr ⟨z1,z2⟩)
 obtain⟨-,rc⟩:=tI h ω cb pb (I:=λM o _=>q_ (t+1) M o) reach (λM m o n s l hi w hc hm hl hid=>hi.aA w (hm m XG));have tm:∀i,V3 i->(x.aE.M i).aA.aC=t+1:=λi hi=>(rc.on i hi).elim (λz=>z) λ⟨a,ha,_⟩=>(by cases ha);have e6:x.aI 6=x.aE.aI 5:=rfl;by_cases win:∃d,V3 d/\¬C d/\An t C d (x.aE.M d) x.aE.aA
 ·obtain⟨d,d3,dC,c1,c3,b,hb,b1,b2,b3,b4,b5⟩:=win;obtain⟨c,hc⟩:∃c,c=(x.aE.M d).aA.aF:=⟨_,rfl⟩;rw[<-hc]at c1 c3 b4;have ch:vF (t+1) c x.aE.M x.aE.aA []:=by
   refine⟨c3,tm,λi hi hn=>?_,.inl ⟨by rw[p1.st c c3 c1];exact (p1.rc c c3 c1).2.1,b,hb,b1,b2,b4,b5⟩,λa ha=>?_,λa ha=>(by cases ha)⟩
   ·by_cases e:C i
    ·rw[p1.st i hi e,(p1.rc i hi e).2.1];decide
    ·rcases p1.dn i hi e with z | ⟨-,z,-⟩;·have:=tm i hi;omega
     ·rw[z];decide
   ·obtain⟨n1,n2,n3⟩:=p1.n a ha;refine⟨n1,λk ok _=>?_,λk=>by have:=n2 k;omega⟩;obtain⟨q1,q2,-⟩:=n3 k ok;have am:=(h1.aD a ha).1;rcases p1.dn _ am.aC q1 with z | ⟨-,-,z⟩;·have:=tm _ am.aC;omega
    ·rcases z with z | ⟨z1,z2,-⟩;·have:=am.aA;omega
     ·rw[<-q2]at z1 z2;refine W6 λne=>?_;have d1:a.aE≠d:=λe=>ne (by rw[q2,e,hc]);have d2:a.aE≠c:=λe=>q1 (e▸c1);have d4:a.aE≠a.to:=λe=>q1 (e▸z1);have d5:d≠c:=λe=>dC (e▸c1);have d6:d≠a.to:=λe=>dC (e▸z1);have:=am.aC;have:=am.aA;omega
  obtain⟨h2,c2⟩:=tI h1 ω cb pb (I:=λM o n=>vF (t+1) c M o n) ch (λM m o n s l hi w hc hm hl hid=>hi.aA w hc hm hl hid);obtain⟨w1,w2,w3⟩:=c2.cw.elim (λ⟨_,a,ha,_⟩=>(by cases ha)) λz=>z;have ru:iZ (t+1) c 0 x.aE.aE.M x.aE.aE.aA:=⟨⟨c3,w1,w2⟩,c2.tm,c2.nl,λa ha=>(c2.n a ha).1,λa ha=>(c2.n a ha).2⟩;obtain⟨h3,r3,f3⟩:=Iw h2 ω cb pb ru w3;obtain⟨h4,r4,f4⟩:=DV 3 (W9 0) h3 ω cb pb r3 f3;exact⟨h4.aC ω (WX _) (W9 _),.inl ⟨c,c3,0,.inl rfl,r4,f4⟩⟩
 ·have none:∀d,V3 d->¬C d->(x.aE.M d).aE=0/\(x.aE.M d).aA.aF=0/\(fz->x.aE.M d=(R d).aK (t+1)):=λd d3 dC=>by
   rcases p1.dn d d3 dC with z | ⟨-,z,z2⟩;·have:=tm d d3;omega
   ·rcases z2 with⟨z2,z3⟩ | z2;·exact⟨z,z2,z3⟩
    ·exact absurd ⟨d,d3,dC,z2⟩ win
  have qu:qk (t+1) (λ_=>True) x.aE.M x.aE.M x.aE.aA:=by
   refine⟨λi hi=>Int.le_of_eq (tm i hi),λi hi _=>?_,λi hi _=>⟨rfl,tm i hi⟩,λa ha e=>?_⟩
   ·by_cases e:C i
    ·rw[p1.st i hi e,(p1.rc i hi e).2.1];decide
    ·rw[(none i hi e).1];decide
   ·obtain⟨n1,n2,n3⟩:=p1.n a ha;have am:=(h1.aD a ha).1;have:=am.aD;by_cases k2:a.aC=2
    ·refine .inr ⟨k2,?_⟩;cases ok:a.ok;·rfl
     ·obtain⟨q1,q2,-⟩:=n3 k2 ok;have:=(none _ am.aC q1).2.1;have:=am.aA;omega
    ·by_cases k3:a.aC=3
     ·have:=n2 k3;omega
     ·exact .inl ω
  obtain⟨h2,q2⟩:=qJ (J:=λM q=>qk (t+1) (λ_=>True) x.aE.M M q) cb pb (λM m q s l hi w hc hm hl hid=>hi.aA w hm hl) 5 _ x.aE h1 ω qu;refine⟨h2.aC ω (WX _) (W9 _),.inr ⟨λi hi=>?_,λq a ha k1 hn=>?_⟩⟩;·obtain⟨e1,e2⟩:=q2.st i hi Xb;rw[e6];refine⟨by rw[e1];exact e2,by rw[e1];exact qu.nl i hi e2,λhC=>by rw[e1];exact p1.st i hi hC,λhC q=>by rw[e1];exact (none i hi hC).2.2 q⟩
  ·have am:=(h.aD a ha).1;cases nw:(R a.to).aA.aA.aM a.aA a.aH;·rfl
   ·rcases p2 q a ha k1 hn nw with z | ⟨-,z⟩;·cases z
    ·exact absurd (none _ am.aA hn).2.1 z
end
section
variable {r s:fy} {l:List fF} {d T t c ld b:Int} {S:Int->fy} {L:Int->List fF} {N k:Nat} {P:Int} {x x':fM}
theorem mB.aA (w:mB r d s l):(s.aA.aC=r.aA.aC+1/\r.aE≠2/\V3 r.id/\r.aT<=r.aF+1/\s=r.bI d/\l=(jr r.id).map (uz r.id 1 (r.aA.aC+1) r.aA.aA.aC r.aA.aA.aL)) \/
  (s.aA=r.aA/\s.aE=r.aE/\s.aT=r.aT/\s.aR=r.aR/\(r.aE≠2->s.aF=r.aF+1/\l=[]/\(r.id<=3->r.aF+1<r.aT))/\(r.aE=2->(1<=r.aM/\s.aM=0/\l=r.aC.map r.a_)\/(r.aM<1/\s.aM=r.aM+1/\l=[]))):=by
 cases w with
 | aC g h=>exact .inr ⟨rfl,rfl,rfl,rfl,λz=>absurd g z,λ_=>.inl ⟨h,rfl,rfl⟩⟩
 | aF g h=>exact .inr ⟨rfl,rfl,rfl,rfl,λz=>absurd g z,λ_=>.inr ⟨h,rfl,rfl⟩⟩
 | aD g i h=>exact .inl ⟨rfl,g,i,h,rfl,rfl⟩
 | aE g h=>exact .inr ⟨rfl,rfl,rfl,rfl,λ_=>⟨rfl,rfl,h⟩,λz=>absurd z g⟩
theorem gC.aG (h:gC N k P x){i:Int}(hi:1<=i/\i<=5):(x.M i).aM=0\/(x.M i).aM=1:=by
 have l5:=h.l5;have e:x.M i=x.l[(i-1).toNat]' ω:=by have:=fM.aM (x:=x) (k:=(i-1).toNat) ω;rw[show (((i-1).toNat:Nat):Int)+1=i by omega]at this;exact this
 rw[e];have:=(h.ok.aC (i-1).toNat ω).aX;omega
theorem gC.aW (h:gC N k P x){i j:Int}(hi:1<=i/\i<=5)(hj:1<=j/\j<=5)(h1:(x.M i).aE=2)(h2:(x.M j).aE=2)(e:(x.M i).aA.aC=(x.M j).aA.aC):i=j:=by
 have l5:=h.l5;obtain⟨⟨G,-,ok,-,-,hm,-⟩,-⟩:=h.ok;have q:∀i:Int,1<=i/\i<=5->(x.M i).aE=2->∃w,G.aA (x.M i).aA.aC=some w/\w.id=i:=λi hi h2=>by
  have e:x.M i=x.l[(i-1).toNat]' ω:=by have:=fM.aM (x:=x) (k:=(i-1).toNat) ω;rw[show (((i-1).toNat:Nat):Int)+1=i by omega]at this;exact this
  have u:=(h.aA i hi).2;rw[e]at h2 u ⊢;obtain⟨l0,hl⟩:=(hm _ ω).aK h2;exact⟨_,hl,u⟩
 obtain⟨w,a1,a2⟩:=q i hi h1;obtain⟨w',b1,b2⟩:=q j hj h2;rw[e,b1]at a1;injection a1 with a1;rw[<-a2,<-b2,a1]
theorem wN {a:fF}(tk:sK x x' S L)(ha:a∈x'.aA):a∈x.aA\/∃i,V3 i/\a∈L i:=by
 rw[tk.aC]at ha;simp only[Xe]at ha;rcases ha with z | (z | z) | z;·exact .inl z
 ·exact .inr ⟨1,ω,z⟩
 ·exact .inr ⟨2,ω,z⟩
 ·exact .inr ⟨3,ω,z⟩
theorem xj {a:fF}{i:Int}(tk:sK x x' S L)(hi:V3 i)(ha:a∈L i):a∈x'.aA:=by
 rw[tk.aC];simp only[Xe];rcases (by omega:i=1\/i=2\/i=3) with rfl | rfl | rfl;·exact .inr (.inl (.inl ha))
 ·exact .inr (.inl (.inr ha))
 ·exact .inr (.inr ha)
theorem Gw (h:jg r)(g:r.aE=2)(u:V3 r.id):∀j,V3 j->j≠r.id->∃a∈r.aC.map r.a_,a.to=j/\a.aC=3/\a.aD=r.aA.aC:=λj hj hn=>by
 have fl:=h.fl;rw[WW g]at fl;have:j∈r.aC.map fS.aA:=by rw[fl];exact pX.2 ⟨hj,hn⟩
 obtain⟨f,hf,e⟩:=XO.1 this;obtain⟨-,s2,s3,-,s5,-⟩:=pD h.es h.aA h.aC u (h.aH hf).2 (h.nx f hf).1;exact⟨_,XO.2 ⟨f,hf,rfl⟩,s3.trans e,s2,s5⟩
theorem Gu (hid:V3 r.id)(t last lt:Int):∀j,V3 j->j≠r.id->∃a∈(jr r.id).map (uz r.id 1 t last lt),a.to=j/\a.aC=1/\a.aD=t/\a.aA=last/\a.aH=lt:=λj hj hn=>⟨_,XO.2 ⟨j,pX.2 ⟨hj,hn⟩,rfl⟩,rfl,rfl,rfl,rfl,rfl⟩
theorem iZ.aE (h:gC N k P x)(ru:iZ t ld b x.M x.aA)(tk:sK x x' S L)(ns:∀i,V3 i->(S i).aA=(x.M i).aA):iZ t ld (S ld).aM x'.M x'.aA:=by
 obtain⟨l1,l2,l3⟩:=ru.r2;have w:=λi (hi:V3 i)=>((tk.aA i ω).1).aA;have M:=λi (hi:V3 i)=>tk.M i ω;have E:∀i,V3 i->(S i).aE=(x.M i).aE:=λi hi=>by
  rcases w i hi with z | z;·have:=z.1;rw[ns i hi]at this;omega
  ·exact z.2.1
 have u:∀a i,V3 i->a∈L i->a.aC=3/\i=ld:=λa i hi ha=>by
  rcases w i hi with z | ⟨-,-,-,-,z1,z2⟩;·have:=z.1;rw[ns i hi]at this;omega
  ·by_cases c:(x.M i).aE=2
   ·refine⟨?_,W6 λe=>ru.nl i hi e c⟩;rcases z2 c with⟨-,-,e⟩ | ⟨-,-,e⟩;·rw[e]at ha;obtain⟨f,hf,rfl⟩:=XO.1 ha;obtain⟨hc,I⟩:=h.aA i ω;exact (pD hc.es hc.aA hc.aC (by rw[I];exact hi) (hc.aH hf).2 (hc.nx f hf).1).2.1
    ·rw[e]at ha;cases ha
   ·rw[(z1 c).2.1]at ha;cases ha
 refine⟨⟨l1,by rw[M ld l1,E ld l1];exact l2,by rw[M ld l1]⟩,λi hi=>by rw[M i hi,ns i hi];exact ru.tm i hi,λi hi hn=>by rw[M i hi,E i hi];exact ru.nl i hi hn,λa ha=>?_,λa ha k3 e=>?_⟩
 ·rcases wN tk ha with z | ⟨i,hi,z⟩;·exact ru.k a z
  ·exact .inl (u a i hi z).1
 ·rcases wN tk ha with z | ⟨i,hi,z⟩;·exact ru.f a z k3 e
  ·rw[((tk.aA i ω).2.1 a z).1.aA,(tk.aA i ω).2.2.1];exact (u a i hi z).2
theorem EG (h:gC N k P x)(sm:oU N k P)(ru:iZ t ld b x.M x.aA)(hb:b=0\/b=1)(ns:∀S L,sK x x.aH S L->∀i,V3 i->(S i).aA=(x.M i).aA):(b=1->SS t ld x.aF)/\(b=0->iZ t ld 1 x.aF.M x.aF.aA/\((∀j,V3 j->j≠ld->qS ld 0 (x.M j))->SS t ld x.aF)):=by
 obtain⟨s1,s2,s3⟩:=sm;obtain⟨h1,S,L,tk⟩:=h.aE ω ω ω;have ns:=ns S L tk;have r1:=ru.aE h tk ns;obtain⟨l1,l2,l3⟩:=ru.r2;obtain⟨hc,hid⟩:=h.aA ld ω;rcases ((tk.aA ld ω).1).aA with z | ⟨-,-,-,-,-,z⟩;·exact absurd l2 z.2.1
 ·refine⟨λe=>?_,λe=>?_⟩
  ·rcases z l2 with⟨-,z1,z2⟩ | ⟨z1,-⟩;·rw[z1]at r1;obtain⟨h2,r2,f2⟩:=Iw h1 ω ω ω r1 (λj hj hn=>by obtain⟨a,ha,a1,a2,a3⟩:=Gw hc l2 (by rw[hid];exact l1) j hj (by rw[hid];exact hn);exact⟨a,xj tk l1 (by rw[z2];exact ha),a1,a2,a3.trans (ru.tm ld l1)⟩);obtain⟨h3,r3,f3⟩:=DV 5 (W9 0) h2 ω ω ω r2 f2;exact⟨0,.inl rfl,r3,f3⟩
   ·omega
  ·rcases z l2 with⟨z1,-⟩ | ⟨-,z1,z2⟩;·omega
   ·rw[z1,l3,e]at r1;refine⟨?_,λf=>?_⟩;·exact (qJ (J:=λM q=>iZ t ld 1 M q) ω ω (λM m q s l hi w hc hm hl hid=>(hi.aA w hm hl hid).1) 6 _ x.aH h1 ω (by simpa using r1)).2
    ·obtain⟨h3,r3,f3⟩:=DV 6 (e:=1) ω h1 ω ω ω (by simpa using r1) (λj hj hn=>by
      rw[tk.M j ω];obtain⟨f1,f2,f3⟩:=f j hj hn;rcases ((tk.aA j ω).1).aA with w | ⟨-,w2,-,w4,w5,-⟩;·have:=w.1;rw[ns j hj]at this;omega
      ·have:=(w5 (by rw[f1];decide)).1;exact⟨w2.trans f1,w4.trans f2,ω⟩)
     exact⟨1,.inr rfl,r3,f3⟩
theorem SS.aA (h:gC N k P x)(sm:oU N k P)(ss:SS t ld x):SS t ld x.aF:=by
 obtain⟨b,hb,ru,fo⟩:=ss;have ns:∀S L,sK x x.aH S L->∀i,V3 i->(S i).aA=(x.M i).aA:=λS L tk i hi=>by
  rcases ((tk.aA i ω).1).aA with⟨-,z2,-,z4,-⟩ | z
  ·by_cases e:i=ld
   ·rw[e]at z2;exact absurd ru.r2.2.1 z2
   ·have:=(fo i hi e).el;have:=(h.aA i ω).1.aE;omega
  ·exact z.1
 obtain⟨a1,a2⟩:=EG h sm ru hb ns;rcases hb with e | e;·subst e;exact (a2 rfl).2 fo
 ·exact a1 e
end
section
variable {T t p:Int} {S:Int->fy} {L:Int->List fF} {N k:Nat} {P:Int} {x x':fM}
theorem Vc (h:gC N k P x)(sm:N+18*k+20<2^25)(cb:10*(k:Int)+40<400000)(pb:P+40<400000)(re:q_ T x.M x.aA):∀i,V3 i->((x.aI 6).M i).aA.aC=T:=by
 obtain⟨h1,r1⟩:=tI h ω cb pb (I:=λM o _=>q_ T M o) re (λM m o n s l hi w hc hm hl u=>hi.aA w (hm m XG));exact (qJ (J:=λM _=>∀i,V3 i->(M i).aA.aC=T) cb pb (λM m q s l hi w hc hm hl u i E=>by
  obtain⟨m1,m2⟩:=hm m XG;have:=hi _ m1.aC;have:=hi _ m1.aA;have:=w.aK.2.1;by_cases e:i=m.to;·rw[e,iW];omega
  ·rw[jk e];exact hi i E) 5 _ x.aE h1 ω (λi hi=>(r1.on i hi).elim (λz=>z) λ⟨a,ha,_⟩=>(by cases ha))).2
theorem Io (h:gC N k P x)(sm:oU N k P)(r0:R0 x)(le:∀i,V3 i->(x.M i).aA.aC<=T)(hp:V3 p/\(x.M p).aA.aC=T)(hl:(x.M p).aE=2\/∀i,V3 i->(x.M i).aA.aC=T->(x.M i).aE≠2):
  (∃t,∀i,V3 i->(x.aF.M i).aA.aC=t)\/((x.M p).aE=2/\(x.M p).aM=0/\um T p 1 x.aF.M)\/((∀i,V3 i->(x.aF.M i).aA.aC<=T/\((x.aF.M i).aA.aC=T->(x.aF.M i).aE≠2))/\(x.aF.M p).aA.aC=T/\(x.aF.M p).aF=(x.M p).aF+1/\(x.M p).aF+1<19/\(x.M p).aE≠2):=by
 obtain⟨s1,s2,s3⟩:=sm;obtain⟨h1,S,L,tk⟩:=h.aE ω ω ω;have w:=λi (hi:V3 i)=>((tk.aA i ω).1).aA;have M:=λi (hi:V3 i)=>tk.M i ω;have I:=λi (hi:V3 i)=>(h.aA i ω).2;have u:∀Mx j,V3 j->(S j).aA.aC=Mx->(∀i,V3 i->(S i).aA.aC<=Mx)->((S j).aA.aC=(x.M j).aA.aC+1\/((x.M j).aE=2/\(x.M j).aM=1))->∃t,∀i,V3 i->(x.aF.M i).aA.aC=t:=λMx j hj ej E O=>by
  refine⟨Mx,Vc h1 ω ω ω ⟨λi hi=>by rw[M i hi];exact E i hi,λi hi=>?_⟩⟩;by_cases e:i=j;·rw[e,M j hj];exact .inl ej
  ·refine .inr ?_;rcases w j hj with⟨z1,z2,z3,z4,z5,z6⟩ | ⟨z1,z2,z3,z4,z5,z6⟩;·obtain⟨a,ha,a1,-,a2,-⟩:=Gu z3 ((x.M j).aA.aC+1) (x.M j).aA.aA.aC (x.M j).aA.aA.aL i hi (by rw[I j hj];exact e);exact⟨a,xj tk hj (by rw[z6];exact ha),a1,ω⟩
   ·rw[z1]at ej O;rcases O with q | ⟨q1,q2⟩;·omega
    ·rcases z6 q1 with⟨-,-,y⟩ | ⟨y,-⟩;·obtain⟨a,ha,a1,-,a2⟩:=Gw (h.aA j ω).1 q1 (by rw[I j hj];exact hj) i hi (by rw[I j hj];exact e);exact⟨a,xj tk hj (by rw[y];exact ha),a1,ω⟩
     ·omega
 have up:∀i,V3 i->(S i).aA.aC=(x.M i).aA.aC+1\/(S i).aA=(x.M i).aA:=λi hi=>(w i hi).imp (λz=>z.1) λz=>z.1;by_cases X:∃j,V3 j/\(S j).aA.aC=T+1
 ·obtain⟨j,hj,e⟩:=X;refine .inl (u (T+1) j hj e (λi hi=>?_) (.inl ?_))
  ·have:=le i hi;rcases up i hi with z | z;·omega
   ·rw[z];omega
  ·rcases up j hj with z | z;·exact z
   ·have:=le j hj;rw[z]at e;omega
 ·have E:∀i,V3 i->(S i).aA.aC<=T:=λi hi=>by
   have:=le i hi;have:(S i).aA.aC≠T+1:=λe=>X ⟨i,hi,e⟩;rcases up i hi with z | z;·omega
   ·rw[z];omega
  by_cases Y:∃j,V3 j/\(S j).aA.aC=T/\(S j).aA.aC=(x.M j).aA.aC+1
  ·obtain⟨j,hj,e,e2⟩:=Y;exact .inl (u T j hj e E (.inl e2))
  · -- who stands does so below
   have ns:∀i,V3 i->(S i).aA.aC=T->(S i).aA=(x.M i).aA:=λi hi e=>(up i hi).elim (λz=>absurd ⟨i,hi,e,z⟩ Y) λz=>z;have sp:(S p).aA=(x.M p).aA:=by
    rcases up p hp.1 with z | z;·have:=E p hp.1;omega
    ·exact z
   by_cases c:(x.M p).aE=2
   ·rcases w p hp.1 with z | ⟨-,z2,-,-,-,z6⟩;·exact absurd c z.2.1
    ·rcases h.aG (i:=p) ω with b | b
     ·refine .inr (.inl ⟨c,b,?_⟩);have sb:(S p).aM=1:=by
       rcases z6 c with⟨y,-⟩ | ⟨-,y,-⟩;·omega
       ·omega
      exact (qJ (J:=λM _=>um T p 1 M) ω ω (λM m q s l hi w hc hm hl W=>hi.aA w (hm m XG)) 6 _ x.aH h1 ω ⟨λi hi=>by rw[M i hi];exact E i hi,hp.1,by rw[M p hp.1,sp];exact hp.2,by rw[M p hp.1,z2];exact c,by rw[M p hp.1];exact sb⟩).2
     ·exact .inl (u T p hp.1 (by rw[sp];exact hp.2) E (.inr ⟨c,b⟩))
   ·have nl:=hl.resolve_left c;have U:∀i,V3 i->(S i).aA.aC=T->(S i).aE≠2:=λi hi e=>by
     have e1:=ns i hi e;rcases w i hi with z | z;·have:=z.1;rw[e1]at this;omega
     ·rw[z.2.1];exact nl i hi (by rw[<-e1];exact e)
    have qu:qk T (λi=>i=p) S x.aH.M x.aH.aA:=by
     refine⟨λi hi=>by rw[M i hi];exact E i hi,λi hi=>by rw[M i hi];exact U i hi,λi hi e=>⟨M i hi,by rw[e,sp];exact hp.2⟩,λa ha e=>?_⟩;rcases wN tk ha with z | ⟨i,hi,z⟩
     ·obtain⟨m1,m2⟩:=h.aD a z;rcases r0.2 a z with k3 | k4;·have:=le _ m1.aC;exact absurd (r0.1 a z k3 ω) (nl _ m1.aC ω)
      ·exact .inl k4
     ·obtain⟨q1,q2,q3,-⟩:=(tk.aA i ω).2;have sd:=q1 a z;have ta:=sd.1.aE;rcases w i hi with⟨y1,-,-,-,-,y6⟩ | ⟨y1,y2,-,-,y5,y6⟩;·exact absurd ⟨i,hi,ω,y1⟩ Y
      ·by_cases c2:(x.M i).aE=2
       ·exact absurd c2 (nl i hi (by rw[<-y1];omega))
       ·rw[(y5 c2).2.1]at z;cases z
    have q:=(qJ (J:=λM q=>qk T (λi=>i=p) S M q) ω ω (λM m q s l hi w hc hm hl W=>hi.aA w hm hl) 6 _ x.aH h1 ω qu).2;have e1:x.aF.M p=S p:=(q.st p hp.1 rfl).1;refine .inr (.inr ⟨λi hi=>⟨q.le i hi,q.nl i hi⟩,by rw[e1,sp];exact hp.2,?_⟩);rcases w p hp.1 with z | ⟨-,-,-,-,z5,-⟩;·have:=z.1;rw[sp]at this;omega
    ·obtain⟨y1,-,y3⟩:=z5 c;have:=y3 (by rw[I p hp.1];omega);have:=(h.aA p ω).1.aE;rw[e1];exact⟨y1,ω,c⟩
theorem JS (h:gC N k P x)(sm:oU N k P)(r0:R0 x)(sy:∀i,V3 i->(x.M i).aA.aC=t)(tk:sK x x.aH S L)(hs:∃c,V3 c/\(S c).aA.aC=t+1):
  (∃l,V3 l/\SS (t+1) l x.aF)\/((∀i,V3 i->(x.aF.M i).aA.aC=t+1/\(x.aF.M i).aE≠2/\((S i).aA.aC=t+1->x.aF.M i=S i)/\(¬(S i).aA.aC=t+1->(∀i,V3 i->(x.M i).aE≠2)->x.aF.M i=(S i).aK (t+1))) /\
   ((∀i,V3 i->(x.M i).aE≠2)->∀g j,V3 g->V3 j->(S g).aA.aC=t+1->¬(S j).aA.aC=t+1->(x.M j).aA.aA.aM (x.M g).aA.aA.aC (x.M g).aA.aA.aL=false)):=by
 obtain⟨s1,s2,s3⟩:=sm;obtain⟨h1,-⟩:=h.aE ω ω ω;have w:=λi (hi:V3 i)=>((tk.aA i ω).1).aA;have M:=λi (hi:V3 i)=>tk.M i ω;have E:=λi (hi:V3 i)=>(h.aA i ω).2;have up:∀i,V3 i->(S i).aA.aC=t+1\/((S i).aA=(x.M i).aA/\(S i).aE=(x.M i).aE):=λi hi=>(w i hi).imp (λz=>by rw[z.1,sy i hi]) λz=>⟨z.1,z.2.1⟩;have I:ud t (λi=>(S i).aA.aC=t+1) (∀i,V3 i->(x.M i).aE≠2) S x.aH.M x.aH.aA []:=by
  refine⟨λc hc e=>?_,λd hd e f=>?_,λc hc _=>M c hc,λd hd e=>.inl ?_,λa ha=>?_,λa ha=>(by cases ha)⟩
  ·rcases w c hc with⟨z1,z2,z3,z4,z5,z6⟩ | z;·refine⟨e,by rw[z5];rfl,?_⟩;rw[z5];exact E c hc
   ·rw[z.1,sy c hc]at e;omega
  ·obtain⟨q1,q2⟩:=(up d hd).resolve_left e;exact⟨by rw[q2];exact f d hd,by rw[q1];exact sy d hd⟩
  ·obtain⟨q1,q2⟩:=(up d hd).resolve_left e;exact⟨by rw[M d hd,q1];exact sy d hd,λ_=>M d hd⟩
  ·rcases wN tk ha with z | ⟨i,hi,z⟩;·obtain⟨m1,m2⟩:=h.aD a z;have e:=sy _ m1.aC;refine .inr ⟨r0.2 a z,ω,λf k3=>?_⟩;have:a.aD≠t:=λq=>f _ m1.aC (r0.1 a z k3 ω);omega
   ·rcases w i hi with⟨z1,z2,z3,z4,z5,z6⟩ | ⟨z1,z2,z3,z4,z5,z6⟩
    ·rw[z6]at z;obtain⟨n,hn,rfl⟩:=XO.1 z;refine .inl ⟨rfl,?_,?_⟩;·show (x.M i).aA.aC+1=t+1;rw[sy i hi]
     ·show (S (x.M i).id).aA.aC=t+1;rw[E i hi,z1,sy i hi]
    ·by_cases c:(x.M i).aE=2
     ·rcases z6 c with⟨-,-,y⟩ | ⟨-,-,y⟩;·rw[y]at z;obtain⟨f,hf,rfl⟩:=XO.1 z;obtain⟨hc,O⟩:=h.aA i ω;obtain⟨-,q2,-,-,q5,-⟩:=pD hc.es hc.aA hc.aC (by rw[O];exact hi) (hc.aH hf).2 (hc.nx f hf).1;exact .inr ⟨.inl q2,by rw[q5,sy i hi];exact W9 _,λf=>absurd c (f i hi)⟩
      ·rw[y]at z;cases z
     ·rw[(z5 c).2.1]at z;cases z
 have asks:∀g j,V3 g->V3 j->(S g).aA.aC=t+1->j≠g->∃a∈x.aH.aA,a.to=j/\a.aC=1/\a.aD=t+1/\a.aA=(x.M g).aA.aA.aC/\a.aH=(x.M g).aA.aA.aL:=λg j hg hj e hn=>by
  rcases w g hg with⟨z1,z2,z3,z4,z5,z6⟩ | z;·obtain⟨a,ha,a1,a2,a3,a4⟩:=Gu z3 ((x.M g).aA.aC+1) (x.M g).aA.aA.aC (x.M g).aA.aA.aL j hj (by rw[E g hg];exact hn);exact⟨a,xj tk hg (by rw[z6];exact ha),a1,a2,by rw[a3,sy g hg],a4⟩
  ·rw[z.1,sy g hg]at e;omega
 have u:q_ (t+1) x.aH.M x.aH.aA:=by
  obtain⟨c,hc,ec⟩:=hs;refine⟨λi hi=>?_,λi hi=>?_⟩
  ·rw[M i hi];rcases up i hi with z | z;·omega
   ·rw[z.1,sy i hi];omega
  ·by_cases e:i=c
   ·rw[e,M c hc];exact .inl ec
   ·obtain⟨a,ha,a1,-,a3,-⟩:=asks c i hc hi ec e;exact .inr ⟨a,ha,a1,a3⟩
 obtain⟨-,r⟩:=Od h1 ω ω ω I u;refine r.imp (λz=>z) λ⟨z1,z2⟩=>⟨z1,λf g j hg hj eg ej=>?_⟩;obtain⟨a,ha,a1,a2,-,a4,a5⟩:=asks g j hg hj eg (λe=>ej (by rw[e];exact eg));have:=z2 f a ha a2 (by rw[a1];exact ej);rw[a1,a4,a5,((up j hj).resolve_left ej).1]at this;exact this
end
end Glb
