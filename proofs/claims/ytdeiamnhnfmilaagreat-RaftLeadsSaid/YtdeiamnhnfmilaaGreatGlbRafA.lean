/-
  A library of its own.
-/
import Derived.Test.YtdeiamnhnfmilaaGreatGlbConE
import Derived.Test.YtdeiamnhnfmilaaGreatGlbFloB
import Derived.Test.YtdeiamnhnfmilaaGreatGlbVotA
set_option linter.unusedSimpArgs false
set_option linter.unusedVariables false
set_option maxRecDepth 10000
set_option maxHeartbeats 8000000
namespace Glb
open Go
variable {P:Program}{f g:FuncId}
structure fy where
 id:Int
 aA:fP
 aD:Int
 aI:Int
 aE:Int
 aR:Int
 aF:Int
 aT:Int
 aJ:List Int
 aC:List fS
 bG:Int
 aM:Int
 deriving DecidableEq
structure na where
 aA:List fF
 aC:List gE
 aF:List gw
 aE:Int
 aD:Bool
 deriving DecidableEq
structure RX where
 r:fy
 o:na
 deriving DecidableEq
def na.aG:na:=⟨[],[],[],0,false⟩
def fF.aJ:fF:=⟨0,0,0,0,0,0,0,0,0,0,0,0,0,0,false,[],[]⟩
def gE.aI:gE:=⟨0,0,0,0,0,⟨0,0,[]⟩,⟨[],[],[]⟩,[],⟨0,0,0,0,0⟩⟩
def fy.aU (id:Int)(h:fP)(draw:Int):fy:=⟨id,h,h.aA.aA,h.aA.aA,0,0,0,k_ draw,[],[],0,0⟩
def fy.aN (r:fy):fI:=r.aA.of.1
def fy.aO (r:fy):Int:=r.aA.aA.aC
def fy.bz (r:fy)(node:Int):Bool:=decide (node∈r.aN.aI)
def fy.aW (r:fy)(leader:Int):fy:={r with aE:=0,aR:=leader,aC:=[],aJ:=[]}
def RX.aI (x:RX)(m:fF):RX:={x with o:={x.o with aA:=x.o.aA++[{m with aE:=x.r.id,aK:=x.r.aA.aE,aD:=x.r.aA.aC}]}}
def RX.aX (x:RX)(c:gE):RX:={x with o:={x.o with aC:=x.o.aC++[{c with aH:=x.r.aA.aE}]}}
def RX.aJ (x:RX)(term voted:Int):RX:=({x with r:={x.r with aA:={x.r.aA with aC:=term,aF:=voted}}}:RX).aX {gE.aI with aC:=1,aK:=term,aL:=voted}
def RX.aO (x:RX)(leader:Int):RX:={x with r:=x.r.aW leader}
def RX.to (x:RX)(f:fS):RX:=x.aI (f.aH x.r.id x.r.aA x.r.aD x.r.bG)
def RX.aN (x:RX)(l:List fS):RX:=l.foldl RX.to x
def mE (was:List fS)(node last:Int):fS:=(was.find? λf=>decide (f.aA=node)).getD ⟨node,last+1,0,0⟩
def fy.bD (r:fy)(was:List fS)(last:Int):fy:={r with aC:=(r.aN.aM.filter λn=>!decide (n=r.id)).map λn=>mE was n last}
def RX.aF (x:RX)(kind:Int)(data:List Int):RX:=
 let last:=x.r.aO
 let l:=x.r.aA.aA.aE last [⟨x.r.aA.aC,kind,data⟩]
 let y:RX:=({x with r:={x.r with aA:={x.r.aA with aA:=l}}}:RX).aX {gE.aI with aC:=2,aE:=last+1,aA:=⟨0,0,l.aH (last+1) 1⟩}
 if kind=2 then {y with r:=y.r.bD y.r.aC last} else y
def fy.bC (r:fy):Int:=r.aN.aJ (r.id :: r.aC.map fS.aA) (r.aO :: r.aC.map fS.aC)
def fy.aY (r:fy):fy:=if r.aD<r.bC/\r.aA.aA.aF r.bC=true/\r.aA.aA.aJ r.bC=r.aA.aC then {r with aD:=r.bC} else r
def RX.aM (x:RX):RX:={x with r:=x.r.aY}
def RX.on (x:RX):RX:=x.aN x.r.aC
def RX.aL (x:RX):RX:=
 let r:fy:={x.r with aE:=2,aR:=x.r.id,aM:=0,aJ:=[],aC:=[]}
 ((({x with r:=r.bD [] r.aO}:RX).aF 0 []).on).aM
def fy.aZ (r:fy):fy:=if r.aE=2/\r.aA.of.2<=r.aD/\r.bz r.id=false then r.aW 0 else r
def RX.aA (x:RX):RX:=
 let r:=x.r.aZ
 if r.aD<=r.aI then ⟨r,x.o⟩ else ⟨{r with aI:=r.aD},{x.o with aE:=r.aI+1,aF:=r.aA.aA.aH (r.aI+1) (r.aD-r.aI)}⟩
def RX.aK (x:RX)(l:List fF):RX:=l.foldl RX.aI x
def RX.aV (x:RX)(draw:Int):RX:=
 let y:=(x.aJ (x.r.aA.aC+1) x.r.id).aO 0
 let z:RX:={y with r:={y.r with aE:=1,aF:=0,aT:=k_ draw,aJ:=[y.r.id]}}
 if z.r.aN.aE z.r.aJ then z.aL else z.aK (jY z.r.id z.r.aA.aE z.r.aA.aC z.r.aA.aA z.r.aN)
def fy.aH (r:fy):RX:=⟨r,na.aG⟩
def fy.aV (r:fy)(draw:Int):RX:=
 if r.aE=2 then (if r.aM+1≥2 then (({r with aM:=0}:fy).aH).on else ({r with aM:=r.aM+1}:fy).aH).aA
 else
  let s:fy:={r with aF:=r.aF+1}
  (if s.aT<=s.aF/\s.bz s.id=true/\s.aA.aC<2^40/\s.aO<2^40 then s.aH.aV draw else s.aH).aA
def RX.aS (x:RX)(m:fF):RX:=
 let ok:=ku x.r.aA.aC x.r.aA.aF x.r.aA.aA m
 let y:RX:=if ok then (let z:RX:={x with r:={x.r with aF:=0}};if z.r.aA.aF=m.aE then z else z.aJ z.r.aA.aC m.aE) else x
 y.aI {fF.aJ with aC:=2,to:=m.aE,ok:=ok}
def RX.aU (x:RX)(m:fF):RX:=
 if ¬x.r.aE=1\/m.ok=false\/m.aE∈x.r.aJ\/x.r.bz m.aE=false then x else
 let y:RX:={x with r:={x.r with aJ:=x.r.aJ++[m.aE]}}
 if y.r.aN.aE y.r.aJ then y.aL else y
def RX.aQ (x:RX)(m:fF)(ok:Bool)(index:Int):RX:=x.aI {fF.aJ with aC:=4,to:=m.aE,ok:=ok,aA:=index,aM:=m.aM}
def RX.aG (x:RX)(m:fF):RX:=
 if m.aA<x.r.aA.aA.aA then x.aQ m true x.r.aD else
 if x.r.aA.aA.aF m.aA=false\/¬x.r.aA.aA.aJ m.aA=m.aH then x.aQ m false (max 0 (min x.r.aO (m.aA-1))) else
 let l:=x.r.aA.aA.aE m.aA m.es
 let at':=x.r.aA.aA.aI m.aA m.es
 if 0<at'/\at'<=x.r.aD then x else
 let y:RX:=if 0<at' then ({x with r:={x.r with aA:={x.r.aA with aA:=l}}}:RX).aX {gE.aI with aC:=2,aE:=at',aA:=⟨0,0,l.aH at' l.es.length⟩} else x
 ({y with r:={y.r with aD:=max y.r.aD (min m.aI (m.aA+m.es.length))}}:RX).aQ m true (m.aA+m.es.length)
def rO (l:List fS)(node:Int):Option Nat:=l.findIdx? λf=>decide (f.aA=node)
def RX.aP (x:RX)(m:fF):RX:=
 if ¬x.r.aE=2 then x else
 match rO x.r.aC m.aE with
 | none=>x
 | some i=>
  let f:=((x.r.aC[i]?).getD ⟨0,0,0,0⟩).aE m
  let y:RX:={x with r:={x.r with aC:=x.r.aC.set i f}}
  let z:=if m.ok then y.aM else y
  if m.ok=false\/f.aD<=z.r.aO then z.to f else z
def fy.aX (r:fy)(base term:Int):fG:=if r.aA.aA.aF base=true/\r.aA.aA.aJ base=term then r.aA.aA.aK base else ⟨base,term,[]⟩
def RX.aW (x:RX)(base term:Int)(c:fI)(snap:List Int):RX:=
 ({x with r:={x.r with aA:={x.r.aA with aA:=x.r.aX base term,aD:=c,aG:=snap}}}:RX).aX {gE.aI with aC:=3,aA:=⟨base,term,[]⟩,aG:=c,aJ:=snap}
def jb (l:List Int):List Int×List Int×Int:=
 let a:=oi.aA (some l)
 let b:=oi.aA a.2
 (a.1,b.1,b.2.aD)
def RX.aR (x:RX)(m:fF):RX:=
 if m.aA<=x.r.aD then x.aQ m true x.r.aD else
 let s:=jb m.aG
 if ¬s.2.2=0\/¬(iG s.1).2=0 then x else
 let y:=x.aW m.aA m.aH (iG s.1).1 s.2.1
 (⟨{y.r with aD:=m.aA,aI:=m.aA},{y.o with aD:=true}⟩:RX).aQ m true m.aA
def RX.aT (x:RX)(m:fF):RX:=
 if ¬m.aK=x.r.aA.aE\/m.aC<1\/5<m.aC\/(m.aC=1/\x.r.bz m.aE=false) then x else
 let y:=if x.r.aA.aC<m.aD then (x.aJ m.aD 0).aO 0 else x
 if m.aD<y.r.aA.aC then
  (if m.aC=1 then y.aI {fF.aJ with aC:=2,to:=m.aE} else if m.aC=3\/m.aC=5 then y.aI {fF.aJ with aC:=4,to:=m.aE} else y)
 else if m.aC=1 then y.aS m else if m.aC=2 then y.aU m else if m.aC=4 then y.aP m
 else if y.r.aE=2 then y else
  let z:RX:={y with r:={y.r.aW m.aE with aF:=0}}
  if m.aC=3 then z.aG m else z.aR m
def fy.bA (r:fy)(m:fF):RX:=(r.aH.aT m).aA
def fy.aP (r:fy)(kind:Int)(data:List Int):Int×RX×Int:=
 if ¬r.aE=2 then (0,r.aH,30) else
 if ¬kind=1/\¬kind=2 then (0,r.aH,13) else
 if kind=2/\¬(iG data).2=0 then (0,r.aH,4) else
 if 2^40<=r.aO then (0,r.aH,17) else
 (r.aO+1,(((r.aH.aF kind data).on).aM).aA,0)
def fy.bM (r:fy)(index:Int)(snap:List Int):RX×Int:=
 if index<=r.aA.aA.aA\/r.aI<index then (r.aH,3) else
 let up:fP:={r.aA with aA:={r.aA.aA with es:=r.aA.aA.es.take (index-r.aA.aA.aA).toNat}}
 ((r.aH.aW index (r.aA.aA.aJ index) up.of.1 snap).aA,0)
theorem tw (l:fG)(e:gw):l.aE l.aC [e]=⟨l.aA,l.aD,l.es++[e]⟩:=by
 have h1:l.aF l.aC=true:=by unfold fG.aF fG.aC;simp;omega
 have h2:l.aF (l.aC+1)=false:=by unfold fG.aF;simp;omega
 have h3:l.aG (l.aC+1) [e]=0:=by simp[fG.aG,h2]
 unfold fG.aE;rw[WW ⟨h1,by rw[h3];simp⟩,h3];congr 1;rw[show (l.aC+((0:Nat):Int)-l.aA).toNat=l.es.length by unfold fG.aC;omega];simp
theorem EK (l:fG)(e:gw):(l.aE l.aC [e]).aH (l.aC+1) 1=[e]:=by
 rw[tw];unfold fG.aH;have h:(⟨l.aA,l.aD,l.es++[e]⟩:fG).aC=l.aC+1:=by unfold fG.aC;simp;omega
 rw[h,WY (by unfold fG.aC;simp only;omega)];simp only;rw[show (l.aC+1-l.aA-1).toNat=l.es.length by unfold fG.aC;omega];simp
variable {P:Program}{f g:FuncId}
theorem I3 {sz bytes:Nat}{F F0 Q:Nat->Prop}{ds es:List (List D)}{h0 h:fu}{av:AV}{ys:List (List AV)}(ho:fA (.sl sz ds) F0 h0 av)(hc:ic h0 av)
  (hx:fq fB h0 h) (hy:fQ es Q h ys) (hQ:∀m,Q m->F m/\¬F0 m) (h0F:∀m,F0 m->F m) (hF:∀m,h0.length<=m->F m) (hb:(ds.length+es.length)*bytes<=2^46):
  ∃av' h',iL h sz bytes av ys=some (av',h')/\fA (.sl sz (ds++es)) F h' av'/\ic h' av'/\fq F0 h h':=by
 have hyl:=pM hy;have fresh:∀(hh:fu) (dd:List (List D)) (es':List (List AV)),F hh.length->fQ dd F hh es'->
   fA (.sl sz dd) F (gY hh sz es').2 (gY hh sz es').1/\ic (gY hh sz es').2 (gY hh sz es').1:=by
  intro hh dd es' hl hd;have hlen:=pM hd;refine⟨?_,⟨es',true,by simp[gY],(λ_=>rfl),(λc hc=>by cases hc)⟩⟩;simp only[fA,gY];refine .inr (.inr ⟨hh.length,0,none,es',true,by rw[hlen],hl,ς,ω,(λc hc=>by cases hc),?_⟩);have:(es'.drop 0).take dd.length=es':=by rw[Yt,Xu ω]
  rw[this];refine fQ.aA dd (λm hm=>⟨hm.1,by have:=hm.2;omega⟩) ?_ _ (fQ.lt dd _ hd);intro m hm x hx;rw[Xy hm.2];exact hx
 simp only[fA]at ho;rcases ho with⟨rfl,rfl⟩ | ⟨t,c,rfl,rfl⟩ | ⟨n,off,cap,row,g,rfl,hn0,hrow,hle,hcl,hd0⟩
 · -- nothing yet
  have hy':fQ es F h ys:=fQ.aA es (λm hm=>(hQ _ hm).1) (λ_ _ _ x=>x) _ hy;obtain⟨a,b⟩:=fresh h es ys (hF _ hx.1) hy';refine⟨_,_,?_,by simpa using a,b,?_⟩;·simp only[iL];rw[WW (by rw[hyl];simpa using hb)]
  ·exact fq.aF _ _ _
 ·have hc1:c=true:=hc;subst hc1;have hy':fQ es F h ys:=fQ.aA es (λm hm=>(hQ _ hm).1) (λ_ _ _ x=>x) _ hy;simp only[iL];rw[WW ⟨Xb,by rw[hyl];simpa using hb⟩];by_cases hy0:ys.length=0;·rw[WW hy0];have hes:es=[]:=W5 ω;subst hes;refine⟨_,_,rfl,?_,rfl,fq.aC _ _⟩;simp only[fA];exact .inr (.inl ⟨t,true,rfl,rfl⟩)
  ·rw[WY hy0,WW Xb];obtain⟨a,b⟩:=fresh h es ys (hF _ hx.1) hy';exact⟨_,_,rfl,by simpa [gY] using a,b,fq.aF _ _ _⟩
 ·have hn:F n:=h0F _ hn0;have hd:fQ ds (λm=>F m/\m≠n) h0 ((row.drop off).take ds.length):=fQ.aA ds (λm hm=>⟨h0F _ hm.1,hm.2⟩) (λ_ _ _ x=>x) _ hd0;obtain⟨row',g',hrow',hcn,hcs⟩:=hc;rw[hrow]at hrow';obtain⟨rfl,rfl⟩:row=row'/\g=g':=by simpa using hrow'
  have hnlt:=(WR.1 hrow).1;have hrow1:h[n]?=some (some (.aA sz row g)):=hx.aA hrow;have hnlt1:=(WR.1 hrow1).1;have hd1:fQ ds (λm=>F m/\m≠n) h ((row.drop off).take ds.length):=fQ.aA ds (λm hm=>hm) (hx.aE _) _ hd;have hy1:fQ es (λm=>F m/\m≠n) h ys:=fQ.aA es (λm hm=>⟨(hQ _ hm).1,by rintro rfl;exact (hQ _ hm).2 hn0⟩) (λ_ _ _ x=>x) _ hy;have both:fQ (ds++es) F h ((row.drop off).take ds.length++ys):=fQ.aA _ (λm hm=>hm.1) (λ_ _ _ x=>x) _ (n9 hd1 hy1);simp only[iL,hrow1];rw[WW ⟨Xb,Xb,hle,by rw[hyl];exact hb⟩];cases cap with
  | none=>
   obtain rfl:=hcn rfl;simp only[Yc];have both':fQ (ds++es) F (h.set n none) (row.take ds.length++ys):=by have:=n9 hd1 hy1;rw[Yt]at this;exact fQ.aA _ (λm hm=>hm.1) (λm hm x hx=>by rw[WS (λe=>hm.2 e.symm)];exact hx) _ this
   obtain⟨a,b⟩:=fresh (h.set n none) (ds++es) (row.take ds.length++ys) (by rw[W4];exact hF _ hx.1) both';exact⟨_,_,rfl,a,b,(fq.aH none (λ_=>hn0)).aD (fq.aF F0 _ _) (λ_ _ x=>x) (λ_ _ x=>x)⟩
  | some c=>
   have hc1:=hcl c rfl;have hc2:=hcs c rfl;cases c with
   | zero=>
    have h0:ds.length=0:=ω;have hds:ds=[]:=W5 h0;subst hds;simp only[Xi,Yc];by_cases hy0:ys.length=0;·rw[WW hy0];have hes:es=[]:=W5 ω;subst hes;refine⟨_,_,rfl,?_,⟨row,g,hrow1,(λe=>by cases e),(λc hc=>by cases hc;omega)⟩,fq.aC _ _⟩;simp only[fA];exact .inr (.inr ⟨n,off,some 0,row,g,rfl,hn,hrow1,by simpa using hle,(λc hc=>by cases hc;simp),by simp[fQ]⟩)
    ·rw[WY hy0];have hy2:fQ es F h ys:=fQ.aA es (λm hm=>hm.1) (λ_ _ _ x=>x) _ hy1;obtain⟨a,b⟩:=fresh h es ys (hF _ hx.1) hy2;exact⟨_,_,rfl,by simpa [gY] using a,b,fq.aF _ _ _⟩
   | succ c=>
    simp only;by_cases hcap:c+1<ds.length+ys.length;·rw[WW hcap];obtain⟨a,b⟩:=fresh h (ds++es) _ (hF _ hx.1) both;exact⟨_,_,rfl,a,b,fq.aF _ _ _⟩
    ·rw[WY hcap,WW ω];have hsl:(iq row (off+ds.length) ys).length=row.length:=by simp[iq];omega
     refine⟨_,_,rfl,?_,⟨_,g,by rw[W0 hnlt1],(λe=>by cases e),(λc' hc'=>by cases hc';rw[hsl];exact hc2)⟩,fq.aH _ (λ_=>hn0)⟩;simp only[fA];refine .inr (.inr ⟨n,off,some (c+1),iq row (off+ds.length) ys,g,by rw[WT,hyl],hn,by rw[W0 hnlt1],by rw[hsl,WT];omega,
      (λc' hc'=>by cases hc';rw[WT];omega),?_⟩)
     have e:((iq row (off+ds.length) ys).drop off).take (ds++es).length=(row.drop off).take ds.length++ys:=by
      apply XT;intro i;simp only[Ye,Xv,WT,iq,Yk,W7,WT,Xk];rw[show min (off+ds.length) row.length=off+ds.length by omega,show min ds.length (row.length-off)=ds.length by omega];by_cases h1:i<ds.length;·rw[WW ω,WW ω,WW ω,WW ω,WW h1];simp[h1]
      ·by_cases h2:i<ds.length+es.length
       ·rw[WW h2,WW ω,WY ω,WY h1];congr 1;omega
       ·rw[WY h2,WY h1,XP ω]
     rw[e];refine fQ.aA _ (λm hm=>hm) ?_ _ (n9 hd1 hy1);intro m hm x hx;rw[WS (λe=>hm.2 e.symm)];exact hx
def oY (l:List fS):D:=.sl 4 (l.map fS.c)
def fy.aL (x:fy)(g f:AV):List AV:=[.aD .i64 x.id,.aD .i64 x.aA.aE,.aD .i64 x.aA.aC,.aD .i64 x.aA.aF,.aD .i64 x.aA.aA.aA,.aD .i64 x.aA.aA.aD,kE x.aA.aA.es,gO x.aA.aD.aA,gO x.aA.aD.aC,gO x.aA.aD.aD,jx x.aA.aG,
 .aD .i64 x.aD,.aD .i64 x.aI,.aD .i64 x.aE,.aD .i64 x.aR,.aD .i64 x.aF,.aD .i64 x.aT,g,f,.aD .i64 x.bG,.aD .i64 x.aM]
structure oP (L:Nat->Nat)(h:fu)(r:Nat)(x:fy)(g f:AV):Prop where
 aA:h[r]?=some (some (.aA 21 [x.aL g f] false))
 go:fA (f_ x.aJ) (λm=>L m=1) h g
 gc:ic h g
 fo:fA (oY x.aC) (λm=>L m=2) h f
 fc:ic h f
 lr:L r=6
structure qj (L:Nat->Nat)(h:fu)(o:Nat)(x:na)(ma ca aa:AV):Prop where
 aA:h[o]?=some (some (.aA 5 [[ma,ca,aa,.aD .i64 x.aE,.aE x.aD]] false))
 m:fA (uJ x.aA) (λm=>L m=3) h ma
 mc:ic h ma
 c:fA (oX x.aC) (λm=>L m=4) h ca
 cc:ic h ca
 a:fA (gZ x.aF) (λm=>L m=5) h aa
 lo:L o=7
structure iv (L:Nat->Nat)(h:fu)(r o:Nat)(x:RX):Prop where
 r:∃g f,oP L h r x.r g f
 o:∃ma ca aa,qj L h o x.o ma ca aa
 lt:∀m,L m≠0->m<h.length
def wO:Nat->Prop:=λk=>k=3\/k=4\/k=5\/k=7
def wA:Nat->Prop:=λk=>k≠0
def fJ (W Q:Nat->Prop)(L:Nat->Nat)(h:fu)(r o:Nat)(x:RX)(h':fu):Prop:=∃L',iv L' h' r o x/\(∀m,m<h.length->L m≠0\/¬Q m->L' m=L m)/\fq (λm=>W (L m)\/Q m) h h'
theorem oP.aC {L h r x g f L' h'}(a:oP L h r x g f)(hL:∀m,m<h.length->L m≠0->L' m=L m) (hk:∀m,m<h.length->L m=1\/L m=2\/L m=6->h'[m]?=h[m]?):oP L' h' r x g f:=by have lr:=(WR.1 a.aA).1;have gl:=fA.lt _ _ a.go;have fl:=fA.lt _ _ a.fo;have kg:ik (λm=>L m=1/\m<h.length) h h':=λm hm y hy=>(hk m hm.2 (.inl hm.1)).trans hy;have kf:ik (λm=>L m=2/\m<h.length) h h':=λm hm y hy=>(hk m hm.2 (.inr (.inl hm.1))).trans hy;exact⟨(hk r lr (.inr (.inr a.lr))).trans a.aA,fA.aC _ (λm hm=>(hL m hm.2 (by rw[hm.1];omega)).trans hm.1) kg _ gl,a.gc.aA gl kg,fA.aC _ (λm hm=>(hL m hm.2 (by rw[hm.1];omega)).trans hm.1) kf _ fl,a.fc.aA fl kf,(hL r lr (by rw[a.lr];omega)).trans a.lr⟩
theorem qj.aC {L h o x ma ca aa L' h'}(a:qj L h o x ma ca aa)(hL:∀m,m<h.length->L m≠0->L' m=L m) (hk:∀m,m<h.length->L m=3\/L m=4\/L m=5\/L m=7->h'[m]?=h[m]?):qj L' h' o x ma ca aa:=by have lr:=(WR.1 a.aA).1;have ml:=fA.lt _ _ a.m;have cl:=fA.lt _ _ a.c;have al:=fA.lt _ _ a.a;have km:ik (λm=>L m=3/\m<h.length) h h':=λm hm y hy=>(hk m hm.2 (.inl hm.1)).trans hy;have kc:ik (λm=>L m=4/\m<h.length) h h':=λm hm y hy=>(hk m hm.2 (.inr (.inl hm.1))).trans hy;have ka:ik (λm=>L m=5/\m<h.length) h h':=λm hm y hy=>(hk m hm.2 (.inr (.inr (.inl hm.1)))).trans hy;exact⟨(hk o lr (.inr (.inr (.inr a.lo)))).trans a.aA,fA.aC _ (λm hm=>(hL m hm.2 (by rw[hm.1];omega)).trans hm.1) km _ ml,a.mc.aA ml km,fA.aC _ (λm hm=>(hL m hm.2 (by rw[hm.1];omega)).trans hm.1) kc _ cl,a.cc.aA cl kc,fA.aC _ (λm hm=>(hL m hm.2 (by rw[hm.1];omega)).trans hm.1) ka _ al,(hL o lr (by rw[a.lo];omega)).trans a.lo⟩
theorem iv.up {L h r o x h'}(a:iv L h r o x)(hx:fq fB h h'):iv L h' r o x:=by obtain⟨⟨g,f,ra⟩,⟨ma,ca,aa,oa⟩,lt⟩:=a;exact⟨⟨g,f,ra.aC (λ_ _ _=>rfl) λm hm _=>hx.2 m hm (λy=>y)⟩,⟨ma,ca,aa,oa.aC (λ_ _ _=>rfl) λm hm _=>hx.2 m hm (λy=>y)⟩,λm hm=>Xj (lt m hm) hx.1⟩
theorem iv.to {W Q L h r o x}(a:iv L h r o x):fJ W Q L h r o x h:=⟨L,a,λ_ _ _=>rfl,fq.aC _ _⟩
theorem fJ.aE {W Q Q' L L1 h r o h' x' h''}(l1:∀m,m<h.length->L m≠0\/¬Q m->L1 m=L m) (e1:fq (λm=>W (L m)\/Q m) h h') (hQ:∀m,m<h.length->Q' m->Q m) (b:fJ W Q' L1 h' r o x' h''):fJ W Q L h r o x' h'':=by
 obtain⟨L2,x2,l2,e2⟩:=b;have hh:=e1.1;have st:∀m,m<h.length->L m≠0\/¬Q m->L1 m≠0\/¬Q' m:=λm hm c=>by
  rcases c with c | c;·left;rw[l1 m hm (.inl c)];exact c
  ·right;exact λz=>c (hQ m hm z)
 refine⟨L2,x2,λm hm c=>(l2 m ω (st m hm c)).trans (l1 m hm c),e1.aD e2 (λ_ _ y=>y) (λm hm y=>?_)⟩;rcases y with y | y
 ·by_cases c:L m≠0\/¬Q m
  ·left;rw[l1 m hm c]at y;exact y
  ·right;exact W6 λz=>c (.inr z)
 ·exact .inr (hQ m hm y)
theorem fJ.aK {u:List AV}{W Q Q' L h r o x h' x'}(a:fJ W Q L h r o x h')(hQ:∀m,m<h.length->Q' m->Q m)(hc:∀L',iv L' h' r o x->fO P f u h' λ_ e=>fJ W Q' L' h' r o x' e):fO P f u h' λ_ e=>fJ W Q L h r o x' e:=by obtain⟨L1,x1,l1,e1⟩:=a;exact (hc L1 x1).aA λv e b=>fJ.aE l1 e1 hQ b
theorem fJ.up {W Q L h r o x h' h''}(a:fJ W Q L h r o x h')(hx:fq fB h' h''):fJ W Q L h r o x h'':=by obtain⟨L1,x1,l1,e1⟩:=a;exact⟨L1,x1.up hx,l1,e1.aD hx (λ_ _ y=>y) (λ_ _ y=>y.elim)⟩
theorem fJ.aT {W Q Q' L h r o x h'}(a:fJ W Q L h r o x h')(hQ:∀m,m<h.length->Q m->Q' m):fJ W Q' L h r o x h':=by obtain⟨L1,x1,l1,e1⟩:=a;exact⟨L1,x1,λm hm c=>l1 m hm (c.imp id λz y=>z (hQ m hm y)),e1.aK λm hm y=>y.imp id (hQ m hm)⟩
theorem fJ.aC {W Q L h r o x h1 h'}(hx:fq fB h h1)(a:fJ W Q L h1 r o x h'):fJ W Q L h r o x h':=by obtain⟨L1,x1,l1,e1⟩:=a;have hh:=hx.1;exact⟨L1,x1,λm hm c=>l1 m ω c,hx.aD e1 (λ_ _ y=>y.elim) (λ_ _ y=>y)⟩
theorem fJ.aG {W W' Q L h r o x h'}(a:fJ W Q L h r o x h')(hW:∀k,W k->W' k):fJ W' Q L h r o x h':=by obtain⟨L1,x1,l1,e1⟩:=a;exact⟨L1,x1,l1,e1.aK λm _ y=>y.imp (hW _) id⟩
theorem nZ:∀k,wO k->wA k:=λk h=>by unfold wO at h;unfold wA;omega
theorem iv.aD {Q L h r o R R' out g f ma ca aa}(ra:oP L h r R g f)(oa:qj L h o out ma ca aa)(lt:∀m,L m≠0->m<h.length)(e1:R'.aJ=R.aJ)(e2:R'.aC=R.aC):
  fJ wA Q L h r o ⟨R',out⟩ (h.set r (some (.aA 21 [R'.aL g f] false))):=by
 have lr:=(WR.1 ra.aA).1;have ne:∀m,L m≠6->(h.set r (some (.aA 21 [R'.aL g f] false)))[m]?=h[m]?:=λm hm=>WS (by rintro rfl;exact hm ra.lr);have kg:ik (λm=>L m=1) h (h.set r (some (.aA 21 [R'.aL g f] false))):=λm hm y hy=>(ne m ω).trans hy;have kf:ik (λm=>L m=2) h (h.set r (some (.aA 21 [R'.aL g f] false))):=λm hm y hy=>(ne m ω).trans hy;refine⟨L,⟨⟨g,f,W0 lr,?_,ra.gc.aA ra.go kg,?_,ra.fc.aA ra.fo kf,ra.lr⟩,⟨ma,ca,aa,oa.aC (λ_ _ _=>rfl) λm hm y=>ne m ω⟩,λm hm=>by rw[W4];exact lt m hm⟩,λ_ _ _=>rfl,fq.aH _ λ_=>.inl (by rw[ra.lr];unfold wA;omega)⟩;·rw[e1];exact fA.aC _ (λ_ y=>y) kg _ ra.go
 ·rw[e2];exact fA.aC _ (λ_ y=>y) kf _ ra.fo
theorem iv.aE {Q L h r o R R' out g f ma ca aa}(ra:oP L h r R g f)(oa:qj L h o out ma ca aa)(lt:∀m,L m≠0->m<h.length) (e1:R'.aJ=[]) (e2:R'.aC=[]):
  fJ wA Q L h r o ⟨R',out⟩ (h.set r (some (.aA 21 [R'.aL .aC .aC] false))):=by
 have lr:=(WR.1 ra.aA).1;have ne:∀m,L m≠6->(h.set r (some (.aA 21 [R'.aL .aC .aC] false)))[m]?=h[m]?:=λm hm=>WS (by rintro rfl;exact hm ra.lr);refine⟨L,⟨⟨.aC,.aC,W0 lr,?_,Xb,?_,Xb,ra.lr⟩,⟨ma,ca,aa,oa.aC (λ_ _ _=>rfl) λm hm y=>ne m ω⟩,λm hm=>by rw[W4];exact lt m hm⟩,λ_ _ _=>rfl,fq.aH _ λ_=>.inl (by rw[ra.lr];unfold wA;omega)⟩;·rw[e1];exact fA.aD 1
 ·rw[e2];exact fA.aD 4
open Classical in
noncomputable def me (L:Nat->Nat) (Q:Nat->Prop) (a b k:Nat):Nat->Nat:=λm=>if L m=0/\m<b/\(Q m\/a<=m) then k else L m
theorem mM {L Q a b k m}(h:L m≠0\/(¬Q m/\m<a)):me L Q a b k m=L m:=by
 unfold me;rw[WY];rintro⟨h1,-,h2⟩;rcases h with h | ⟨h3,h4⟩;·exact h h1
 ·rcases h2 with h2 | h2;·exact h3 h2
  ·omega
theorem vk {L Q a b k m}(h1:L m=0)(hb:m<b)(h:Q m\/a<=m):me L Q a b k m=k:=by unfold me;rw[WW ⟨h1,hb,h⟩]
theorem vj {L Q a b k m}(hl:L m≠0->m<b)(h:me L Q a b k m≠0):m<b:=by
 unfold me at h;split at h;·rename_i c;exact c.2.1
 ·exact hl h
def uO (L:Nat->Nat)(Q:Nat->Prop)(a k n:Nat):Prop:=L n=k\/(L n=0/\(Q n\/a<=n))
theorem iv.aG {Q L h r o R out g f ma ca aa}(ra:oP L h r R g f)(oa:qj L h o out ma ca aa)(lt:∀m,L m≠0->m<h.length){m:fF}{e d:AV}{h1:fu}(hx:fq fB h h1)(he:fA (gZ m.es) Q h e)(hd:fA (gG m.aG) Q h d)
  (hQ:∀n,Q n->L n=0) (hb:(out.aA.length+1)*168<=2^46):
  ∃u h2,iL h1 17 168 ma [m.aF e d]=some (u,h2)/\u.aH=true/\fq (λn=>L n=3) h1 h2/\h2[o]?=ar 5 [[ma,ca,aa,ι out.aE,.aE out.aD]] /\
   fJ wO Q L h r o ⟨R,{out with aA:=out.aA++[m]}⟩ (h2.set o (some (.aA 5 [[u,ca,aa,ι out.aE,.aE out.aD]] false))):=by
 have hi:fQ [m.c] (λn=>Q n/\n<h.length) h1 [m.aF e d]:=by refine fQ.aA [m.c] (λ_ y=>y) (λn hn y hy=>hx.aA hy) _ ?_;refine fQ.lt [m.c] _ ?_;simp only[fQ,fU,fA,fF.c,fF.aF];exact⟨_,_,rfl,⟨_,_,rfl,rfl,_,_,rfl,rfl,_,_,rfl,rfl,_,_,rfl,rfl,_,_,rfl,rfl,_,_,rfl,rfl,_,_,rfl,rfl,_,_,rfl,rfl,_,_,rfl,rfl,_,_,rfl,rfl,_,_,rfl,rfl,_,_,rfl,rfl,_,_,rfl,rfl,_,_,rfl,rfl,_,_,rfl,rfl,_,_,rfl,he,_,_,rfl,hd,rfl⟩,rfl⟩
 have ge:∀n,h.length<=n->L n=0:=λn hn=>W6 λz=>by have:=lt n z;omega
 have I:=oa.aC (h':=h1) (λ_ _ _=>rfl) (λn hn _=>hx.2 n hn (λy=>y));obtain⟨u,h2,s1,s2,s3,s4⟩:=I3 (sz:=17) (bytes:=168) (F:=uO L Q h.length 3) (ds:=out.aA.map fF.c) (es:=[m.c]) oa.m oa.mc hx hi
  (λn hn=>⟨.inr ⟨hQ n hn.1,.inl hn.1⟩,by rw[hQ n hn.1];omega⟩) (λn hn=>.inl hn) (λn hn=>.inr ⟨ge n hn,.inr hn⟩) (by simpa using hb)
 have ob:=(WR.1 I.aA).1;have st:∀n,n<h.length->L n≠3->n≠o->(h2.set o (some (.aA 5 [[u,ca,aa,ι out.aE,.aE out.aD]] false)))[n]?=h[n]?:=λn hn h3 ho=>(WS (λe=>ho e.symm)).trans ((s4.2 n (Xj hn hx.1) h3).trans (hx.2 n hn (λy=>y)));have ol:o<h.length:=(WR.1 oa.aA).1;have O:o<h2.length:=by have:=s4.1;omega
 have nl:∀n,L n≠0->L n≠7->n≠o:=λn _ h7 e=>h7 (e▸oa.lo);have E:=fA.lt _ _ s2;have km:ik (λn=>uO L Q h.length 3 n/\n<h2.length) h2 (h2.set o (some (.aA 5 [[u,ca,aa,ι out.aE,.aE out.aD]] false))):=λn hn y hy=>(WS (by rintro rfl;have:=oa.lo;rcases hn.1 with z | ⟨z,-⟩<;>omega)).trans hy;have tm:∀n,uO L Q h.length 3 n/\n<h2.length->me L Q h.length h2.length 3 n=3:=by
  rintro n ⟨z | ⟨z,z'⟩,hn⟩;·rw[mM (.inl ω)];exact z
  ·exact vk z hn z'
 have cl:=fA.lt _ _ oa.c;have al:=fA.lt _ _ oa.a;have kc:ik (λn=>L n=4/\n<h.length) h (h2.set o (some (.aA 5 [[u,ca,aa,ι out.aE,.aE out.aD]] false))):=λn hn y hy=>(st n hn.2 ω (nl n ω ω)).trans hy;have ka:ik (λn=>L n=5/\n<h.length) h (h2.set o (some (.aA 5 [[u,ca,aa,ι out.aE,.aE out.aD]] false))):=λn hn y hy=>(st n hn.2 ω (nl n ω ω)).trans hy;refine⟨u,h2,s1,s2.aA,s4,(s4.2 o ob (fun (z:L o=3)=>by rw[oa.lo]at z;omega)).trans I.aA,me L Q h.length h2.length 3,⟨⟨g,f,ra.aC (λn _ hn=>mM (.inl hn)) λn hn c=>st n hn ω (nl n ω ω)⟩,⟨u,ca,aa,W0 O,?_,?_,?_,?_,?_,?_⟩,λn hn=>by rw[W4];exact vj (λz=>by have:=lt n z;have:=hx.1;have:=s4.1;omega) hn⟩,λn hn c=>mM ?_,?_⟩;·show fA (.sl 17 ((out.aA++[m]).map fF.c)) _ _ _;rw[show (out.aA++[m]).map fF.c=out.aA.map fF.c++[m.c] by simp];exact fA.aC _ tm km _ E
 ·exact s3.aA E km
 ·exact fA.aC _ (λn hn=>by rw[mM (.inl ω)];exact hn.1) kc _ cl
 ·exact oa.cc.aA cl kc
 ·exact fA.aC _ (λn hn=>by rw[mM (.inl ω)];exact hn.1) ka _ al
 ·rw[mM (.inl (by rw[oa.lo];omega))];exact oa.lo
 ·exact c.imp id λz=>⟨z,hn⟩
 ·refine (hx.aD s4 (F'':=λm=>wO (L m)\/Q m) (λ_ _ y=>y.elim) (λn _ (y:L n=3)=>.inl (.inl y))).aD (fq.aH (F:=λm=>m=o) _ (λ_=>rfl)) (λ_ _ y=>y) (λn _ y=>.inl (by rw[y,oa.lo];exact .inr (.inr (.inr rfl))))
theorem iv.aF {Q L h r o R out g f ma ca aa}(ra:oP L h r R g f)(oa:qj L h o out ma ca aa)(lt:∀m,L m≠0->m<h.length){m:gE}{e co cn ce sn:AV}{h1:fu}(hx:fq fB h h1)(he:fA (gZ m.aA.es) Q h e)(Z:fA (f_ m.aG.aA) Q h co)(W:fA (f_ m.aG.aC) Q h cn)(U:fA (f_ m.aG.aD) Q h ce)(hd:fA (gG m.aJ) Q h sn)
  (hQ:∀n,Q n->L n=0) (hb:(out.aC.length+1)*216<=2^46):
  ∃u h2,iL h1 17 216 ca [m.aF e co cn ce sn]=some (u,h2)/\u.aH=true/\fq (λn=>L n=4) h1 h2/\h2[o]?=ar 5 [[ma,ca,aa,ι out.aE,.aE out.aD]] /\
   fJ wO Q L h r o ⟨R,{out with aC:=out.aC++[m]}⟩ (h2.set o (some (.aA 5 [[ma,u,aa,ι out.aE,.aE out.aD]] false))):=by
 have hi:fQ [m.c] (λn=>Q n/\n<h.length) h1 [m.aF e co cn ce sn]:=by refine fQ.aA [m.c] (λ_ y=>y) (λn hn y hy=>hx.aA hy) _ ?_;refine fQ.lt [m.c] _ ?_;simp only[fQ,fU,fA,gE.c,gE.aF];exact⟨_,_,rfl,⟨_,_,rfl,rfl,_,_,rfl,rfl,_,_,rfl,rfl,_,_,rfl,rfl,_,_,rfl,rfl,_,_,rfl,rfl,_,_,rfl,rfl,_,_,rfl,he,_,_,rfl,Z,_,_,rfl,W,_,_,rfl,U,_,_,rfl,hd,_,_,rfl,rfl,_,_,rfl,rfl,_,_,rfl,rfl,_,_,rfl,rfl,_,_,rfl,rfl,rfl⟩,rfl⟩
 have ge:∀n,h.length<=n->L n=0:=λn hn=>W6 λz=>by have:=lt n z;omega
 have I:=oa.aC (h':=h1) (λ_ _ _=>rfl) (λn hn _=>hx.2 n hn (λy=>y));obtain⟨u,h2,s1,s2,s3,s4⟩:=I3 (sz:=17) (bytes:=216) (F:=uO L Q h.length 4) (ds:=out.aC.map gE.c) (es:=[m.c]) oa.c oa.cc hx hi
  (λn hn=>⟨.inr ⟨hQ n hn.1,.inl hn.1⟩,by rw[hQ n hn.1];omega⟩) (λn hn=>.inl hn) (λn hn=>.inr ⟨ge n hn,.inr hn⟩) (by simpa using hb)
 have ob:=(WR.1 I.aA).1;have st:∀n,n<h.length->L n≠4->n≠o->(h2.set o (some (.aA 5 [[ma,u,aa,ι out.aE,.aE out.aD]] false)))[n]?=h[n]?:=λn hn h3 ho=>(WS (λe=>ho e.symm)).trans ((s4.2 n (Xj hn hx.1) h3).trans (hx.2 n hn (λy=>y)));have ol:o<h.length:=(WR.1 oa.aA).1;have O:o<h2.length:=by have:=s4.1;omega
 have nl:∀n,L n≠0->L n≠7->n≠o:=λn _ h7 e=>h7 (e▸oa.lo);have E:=fA.lt _ _ s2;have km:ik (λn=>uO L Q h.length 4 n/\n<h2.length) h2 (h2.set o (some (.aA 5 [[ma,u,aa,ι out.aE,.aE out.aD]] false))):=λn hn y hy=>(WS (by rintro rfl;have:=oa.lo;rcases hn.1 with z | ⟨z,-⟩<;>omega)).trans hy;have tm:∀n,uO L Q h.length 4 n/\n<h2.length->me L Q h.length h2.length 4 n=4:=by
  rintro n ⟨z | ⟨z,z'⟩,hn⟩;·rw[mM (.inl ω)];exact z
  ·exact vk z hn z'
 have cl:=fA.lt _ _ oa.m;have al:=fA.lt _ _ oa.a;have kc:ik (λn=>L n=3/\n<h.length) h (h2.set o (some (.aA 5 [[ma,u,aa,ι out.aE,.aE out.aD]] false))):=λn hn y hy=>(st n hn.2 ω (nl n ω ω)).trans hy;have ka:ik (λn=>L n=5/\n<h.length) h (h2.set o (some (.aA 5 [[ma,u,aa,ι out.aE,.aE out.aD]] false))):=λn hn y hy=>(st n hn.2 ω (nl n ω ω)).trans hy;refine⟨u,h2,s1,s2.aA,s4,(s4.2 o ob (fun (z:L o=4)=>by rw[oa.lo]at z;omega)).trans I.aA,me L Q h.length h2.length 4,⟨⟨g,f,ra.aC (λn _ hn=>mM (.inl hn)) λn hn c=>st n hn ω (nl n ω ω)⟩,⟨ma,u,aa,W0 O,?_,?_,?_,?_,?_,?_⟩,λn hn=>by rw[W4];exact vj (λz=>by have:=lt n z;have:=hx.1;have:=s4.1;omega) hn⟩,λn hn c=>mM ?_,?_⟩;·exact fA.aC _ (λn hn=>by rw[mM (.inl ω)];exact hn.1) kc _ cl
 ·exact oa.mc.aA cl kc
 ·show fA (.sl 17 ((out.aC++[m]).map gE.c)) _ _ _;rw[show (out.aC++[m]).map gE.c=out.aC.map gE.c++[m.c] by simp];exact fA.aC _ tm km _ E
 ·exact s3.aA E km
 ·exact fA.aC _ (λn hn=>by rw[mM (.inl ω)];exact hn.1) ka _ al
 ·rw[mM (.inl (by rw[oa.lo];omega))];exact oa.lo
 ·exact c.imp id λz=>⟨z,hn⟩
 ·refine (hx.aD s4 (F'':=λm=>wO (L m)\/Q m) (λ_ _ y=>y.elim) (λn _ (y:L n=4)=>.inl (.inr (.inl y)))).aD (fq.aH (F:=λm=>m=o) _ (λ_=>rfl)) (λ_ _ y=>y) (λn _ y=>.inl (by rw[y,oa.lo];exact .inr (.inr (.inr rfl))))
variable {P:Program}{f g:FuncId}
def sI (P:Program)(f:FuncId):Prop:=fZ P f=true/\∀(Q:Nat->Prop)(L:Nat->Nat)(h:fu)(r o:Nat)(x:RX)(m:fF)(e d:AV),iv L h r o x->fA (gZ m.es) Q h e->fA (gG m.aG) Q h d->(∀n,Q n->L n=0)->(x.o.aA.length+1)*168<=2^46->
 fO P f [.aF [.aA r 21 0 0,.aA o 5 0 0],.aF (m.aF e d)] h λ_ h'=>fJ wO Q L h r o (x.aI m) h'
theorem UL (hf:Is P f CQ):sI P f:=by
 refine⟨hf.2,λQ L h r o x m e d hx he hd hQ hb=>gy hf ?_⟩;obtain⟨R,out⟩:=x;obtain⟨⟨g,f',ra⟩,⟨ma,ca,aa,oa⟩,lt⟩:=hx;have rr:=ra.aA;have u:=oa.aA;have lr:=(WR.1 rr).1;have lo:=(WR.1 u).1;simp only[fy.aL]at rr;have R2:∀a b,(h++[a]++[b])[r]?=_:=λa b=>(fq.b2 a b).aA rr;have O2:∀a b,(h++[a]++[b])[o]?=_:=λa b=>(fq.b2 a b).aA u;have O3:∀a b c,(h++[a]++[b]++[c])[o]?=_:=λa b c=>(fq.b3 a b c).aA u;simp only[CQ,fF.aF,go_sem,he.aA,hd.aA,R2,O3];refine⟨iN ω,?_⟩;have l2:(h++[some (fC.aA 2 [[.aA r 21 0 0,.aA o 5 0 0]] false)]++[some (fC.aA 17 [[ι m.aC,ι R.id,ι m.to,ι R.aA.aE,ι R.aA.aC,ι m.aA,ι m.aH,ι m.aI,ι m.aM,ι m.aQ,ι m.aO,ι m.aN,ι m.aR,ι m.aP,.aE m.ok,e,d]] false)]).length=h.length+2:=by simp
 have ae:=mH (h++[some (fC.aA 2 [[.aA r 21 0 0,.aA o 5 0 0]] false)]++[some (fC.aA 17 [[ι m.aC,ι R.id,ι m.to,ι R.aA.aE,ι R.aA.aC,ι m.aA,ι m.aH,ι m.aI,ι m.aM,ι m.aQ,ι m.aO,ι m.aN,ι m.aR,ι m.aP,.aE m.ok,e,d]] false)]) 17 [[ι m.aC,ι R.id,ι m.to,ι R.aA.aE,ι R.aA.aC,ι m.aA,ι m.aH,ι m.aI,ι m.aM,ι m.aQ,ι m.aO,ι m.aN,ι m.aR,ι m.aP,.aE m.ok,e,d]] false (some 1) (len:=1) rfl;have X3:=fq.b3 (h:=h) (some (fC.aA 2 [[.aA r 21 0 0,.aA o 5 0 0]] false)) (some (fC.aA 17 [[ι m.aC,ι R.id,ι m.to,ι R.aA.aE,ι R.aA.aC,ι m.aA,ι m.aH,ι m.aI,ι m.aM,ι m.aQ,ι m.aO,ι m.aN,ι m.aR,ι m.aP,.aE m.ok,e,d]] false)) (some (fC.aA 17 [[ι m.aC,ι R.id,ι m.to,ι R.aA.aE,ι R.aA.aC,ι m.aA,ι m.aH,ι m.aI,ι m.aM,ι m.aQ,ι m.aO,ι m.aN,ι m.aR,ι m.aP,.aE m.ok,e,d]] false));obtain⟨ma',h2,s1,s2,s3,s4,s5⟩:=iv.aG ra oa lt (m:={m with aE:=R.id,aK:=R.aA.aE,aD:=R.aA.aC}) X3 he hd hQ hb;simp only[fF.aF]at s1;rw[<-iR ae,l2]at s1;rw[s1];have l3:o<h2.length:=(WR.1 s4).1;have ge:∀n,h.length<=n->L n=0:=λn hn=>W6 λz=>by have:=lt n z;omega
 have C0:=(s3.2 h.length ς (fun (z:L _=3)=>by rw[ge _ (WX _)]at z;omega)).trans (qB h _ _ _);have C1:=(s3.2 (h.length+1) ς (fun (z:L _=3)=>by rw[ge _ ω]at z;omega)).trans (rB h _ _ _);simp only[go_sem,s2,gV s2,s4,l3,C0,C1];exact s5
def uk (P:Program)(f:FuncId):Prop:=fZ P f=true/\∀(Q:Nat->Prop)(L:Nat->Nat)(h:fu)(r o:Nat)(x:RX)(m:gE)(e co cn ce sn:AV),iv L h r o x->fA (gZ m.aA.es) Q h e->fA (f_ m.aG.aA) Q h co->fA (f_ m.aG.aC) Q h cn->fA (f_ m.aG.aD) Q h ce->fA (gG m.aJ) Q h sn->
 (∀n,Q n->L n=0)->(x.o.aC.length+1)*216<=2^46->fO P f [.aF [.aA r 21 0 0,.aA o 5 0 0],.aF (m.aF e co cn ce sn)] h λ_ h'=>fJ wO Q L h r o (x.aX m) h'
theorem Vh (hf:Is P f CT):uk P f:=by
 refine⟨hf.2,λQ L h r o x m e co cn ce sn hx he O I E hd hQ hb=>gy hf ?_⟩;obtain⟨R,out⟩:=x;obtain⟨⟨g,f',ra⟩,⟨ma,ca,aa,oa⟩,lt⟩:=hx;have rr:=ra.aA;have u:=oa.aA;have lr:=(WR.1 rr).1;have lo:=(WR.1 u).1;simp only[fy.aL]at rr;have R2:∀a b,(h++[a]++[b])[r]?=_:=λa b=>(fq.b2 a b).aA rr;have O2:∀a b,(h++[a]++[b])[o]?=_:=λa b=>(fq.b2 a b).aA u;have O3:∀a b c,(h++[a]++[b]++[c])[o]?=_:=λa b c=>(fq.b3 a b c).aA u;simp only[CT,gE.aF,go_sem,he.aA,O.aA,I.aA,E.aA,hd.aA,R2,O3];refine⟨iN ω,?_⟩;have l2:(h++[some (fC.aA 2 [[.aA r 21 0 0,.aA o 5 0 0]] false)]++[some (fC.aA 17 [[ι m.aC,ι R.aA.aE,ι m.aK,ι m.aL,ι m.aE,ι m.aA.aA,ι m.aA.aD,e,co,cn,ce,sn,ι m.aD.aA,ι m.aD.aC,ι m.aD.aE,ι m.aD.aD,ι m.aD.aF]] false)]).length=h.length+2:=by simp
 have ae:=mH (h++[some (fC.aA 2 [[.aA r 21 0 0,.aA o 5 0 0]] false)]++[some (fC.aA 17 [[ι m.aC,ι R.aA.aE,ι m.aK,ι m.aL,ι m.aE,ι m.aA.aA,ι m.aA.aD,e,co,cn,ce,sn,ι m.aD.aA,ι m.aD.aC,ι m.aD.aE,ι m.aD.aD,ι m.aD.aF]] false)]) 17 [[ι m.aC,ι R.aA.aE,ι m.aK,ι m.aL,ι m.aE,ι m.aA.aA,ι m.aA.aD,e,co,cn,ce,sn,ι m.aD.aA,ι m.aD.aC,ι m.aD.aE,ι m.aD.aD,ι m.aD.aF]] false (some 1) (len:=1) rfl;have X3:=fq.b3 (h:=h) (some (fC.aA 2 [[.aA r 21 0 0,.aA o 5 0 0]] false)) (some (fC.aA 17 [[ι m.aC,ι R.aA.aE,ι m.aK,ι m.aL,ι m.aE,ι m.aA.aA,ι m.aA.aD,e,co,cn,ce,sn,ι m.aD.aA,ι m.aD.aC,ι m.aD.aE,ι m.aD.aD,ι m.aD.aF]] false)) (some (fC.aA 17 [[ι m.aC,ι R.aA.aE,ι m.aK,ι m.aL,ι m.aE,ι m.aA.aA,ι m.aA.aD,e,co,cn,ce,sn,ι m.aD.aA,ι m.aD.aC,ι m.aD.aE,ι m.aD.aD,ι m.aD.aF]] false));obtain⟨ca',h2,s1,s2,s3,s4,s5⟩:=iv.aF ra oa lt (m:={m with aH:=R.aA.aE}) X3 he O I E hd hQ hb;simp only[gE.aF]at s1;rw[<-iR ae,l2]at s1;rw[s1];have l3:o<h2.length:=(WR.1 s4).1;have ge:∀n,h.length<=n->L n=0:=λn hn=>W6 λz=>by have:=lt n z;omega
 have C0:=(s3.2 h.length ς (fun (z:L _=4)=>by rw[ge _ (WX _)]at z;omega)).trans (qB h _ _ _);have C1:=(s3.2 (h.length+1) ς (fun (z:L _=4)=>by rw[ge _ ω]at z;omega)).trans (rB h _ _ _);simp only[go_sem,s2,gV s2,s4,l3,C0,C1];exact s5
def nO (h:fu)(r:Nat)(x:fy):Prop:=∃g f,h[r]?=some (some (.aA 21 [x.aL g f] false))
theorem iv.aA {L h r o x}(a:iv L h r o x):nO h r x.r:=let⟨g,f,ra⟩:=a.r;⟨g,f,ra.aA⟩
theorem xP.p (hc:xP P f):vM P f:=⟨hc.1,λG h x e ha hR=>(hc.2 G h x e ha hR).aC λ_ _ ⟨_,h1,h2,h3⟩=>⟨h3,_,h1▸iu.aD (iu.aA (fU.fz _ (λ_ x=>x) _ h2)) (iu.aC _ _),rfl⟩⟩
theorem EA (x:fP)(h:fu):fH fB h x.c [ι x.aE,ι x.aC,ι x.aF,ι x.aA.aA,ι x.aA.aD,kE x.aA.es,gO x.aD.aA,gO x.aD.aC,gO x.aD.aD,jx x.aG]:=by rw[<-fP.aL];exact Jn fB h x
theorem m8 (x:fG)(h:fu):fH fB h x.c [ι x.aA,ι x.aD,kE x.es]:=by rw[<-fG.aN];exact EC fB h x
theorem w_ (x:fI)(h:fu):fH fB h x.c [gO x.aA,gO x.aC,gO x.aD]:=by rw[<-fI.aN];exact w9 fB h x
attribute [go_sem] tM tN xf
def sw (P:Program)(f:FuncId):Prop:=fZ P f=true/\∀(h:fu)(r:Nat)(x:fy),nO h r x->x.aA.aO->fO P f [.aA r 21 0 0] h λres h'=>res=.aF x.aN.v/\h'=h
def qm (P:Program)(f:FuncId):Prop:=fZ P f=true/\∀(h:fu)(r:Nat)(x:fy),nO h r x->kh x.aA.aA->fO P f [.aA r 21 0 0] h λres h'=>res=.aD .i64 x.aO/\h'=h
def vW (P:Program)(f:FuncId):Prop:=fZ P f=true/\∀(h:fu)(r:Nat)(x:fy)(n:Int),nO h r x->x.aA.aO->x.aN.aH (2^30)->fO P f [.aA r 21 0 0,.aD .i64 n] h λres h'=>res=.aE (x.bz n)/\h'=h
def vD (P:Program)(f:FuncId):Prop:=fZ P f=true/\∀(h:fu)(r o:Nat),fO P f [.aA r 21 0 0,.aA o 5 0 0] h λres h'=>res=.aF [.aA r 21 0 0,.aA o 5 0 0]/\fq fB h h'
theorem Rg (hf:Is P f (CJ g))(hg:vM P g):sw P f:=by refine⟨hf.2,λh r x hr hR=>fO.aC (K:=λres h'=>res=.aF x.aN.v/\fq fB h h') (gy hf ?_) (λr _ ⟨e,hx⟩=>⟨hx,r,by rw[e];exact iu.aA (DG _ _ _),e⟩)⟩;obtain⟨gg,ff,rr⟩:=hr;have lr:=(WR.1 rr).1;simp only[fy.aL]at rr;have R1:∀a,(h++[a])[r]?=_:=λa=>(fq.b1 a).aA rr;have u:=λH=>hg.2 fB H x.aA _ (EA x.aA H) hR;simp only[fI.aN]at u;simp only[CJ,go_sem,R1];refine gH hg.1 (u _) ?_;simp only[go_sem];exact⟨by unfold fy.aN;rw[fI.aN],fq.b2 _ _⟩
theorem Qi (hf:Is P f (CG g))(hg:mR P g):qm P f:=by refine⟨hf.2,λh r x hr hl=>gy hf ?_⟩;obtain⟨gg,ff,rr⟩:=hr;simp only[fy.aL]at rr;simp only[CG,go_sem,rr];refine gH hg.1 (hg.2 fB h x.aA.aA _ (m8 x.aA.aA h) hl) ?_;simp only[go_sem];rfl
theorem Wq {v c:FuncId}(hf:Is P f (CK g v c))(hg:sw P g)(hv:pJ P v fI.aI)(hc:oM P c):vW P f:=by
 refine⟨hf.2,λh r x n hr hR E=>fO.aC (K:=λres h'=>res=.aE (x.bz n)/\fq fB h h') (gy hf ?_) (λr _ ⟨e,hx⟩=>⟨hx,r,by rw[e];exact iu.aE _,e⟩)⟩;simp only[CK,go_sem];refine gH hg.1 (hg.2 h r x hr hR) ?_;simp only[go_sem];refine fK ⟨hv.1,hv.2 fB h x.aN _ (w9 fB h x.aN) ⟨by have:=E.1;omega,by have:=E.2.1;omega,by have:=E.2.2;omega⟩⟩ ?_;rintro w H ⟨ow,hx⟩;simp only[go_sem];have vl:x.aN.aI.length<=2^40:=by have u:=zO (x.aN.aA++x.aN.aC);simp only[WT]at u;have:=E.1;have:=E.2.1;simp only[fI.aI];omega
 refine gH hc.1 (hc.2 (λ_=>True) H _ w n (fA.rd _ (λ_ _=>Xb) _ ow) vl) ?_;simp only[go_sem];exact⟨rfl,hx⟩
theorem Mp (hf:Is P f CD):vD P f:=by refine⟨hf.2,λh r o=>gy hf ?_⟩;simp only[CD,go_sem];exact fq.b1 _
def sq (P:Program)(f:FuncId):Prop:=fZ P f=true/\∀(L:Nat->Nat)(h:fu)(r o:Nat)(x:RX)(l:Int),iv L h r o x->fO P f [.aA r 21 0 0,.aD .i64 l] h λ_ h'=>fJ wA fB L h r o (x.aO l) h'
theorem OF (hf:Is P f CF):sq P f:=by refine⟨hf.2,λL h r o x l hx=>gy hf ?_⟩;obtain⟨R,out⟩:=x;obtain⟨⟨g,f',ra⟩,⟨ma,ca,aa,oa⟩,lt⟩:=hx;have rr:=ra.aA;have lr:=(WR.1 rr).1;simp only[fy.aL]at rr;simp only[CF,go_sem,rr,lr,Yi];exact iv.aE (R':=R.aW l) ra oa lt rfl rfl
def vV (P:Program)(f:FuncId):Prop:=fZ P f=true/\∀(L:Nat->Nat)(h:fu)(r o:Nat)(x:RX)(t v:Int),iv L h r o x->(x.o.aC.length+1)*216<=2^46->fO P f [.aF [.aA r 21 0 0,.aA o 5 0 0],.aD .i64 t,.aD .i64 v] h λ_ h'=>fJ wA fB L h r o (x.aJ t v) h'
theorem Vi (hf:Is P f (CU g))(hg:uk P g):vV P f:=by refine⟨hf.2,λL h r o x t v hx hb=>gy hf ?_⟩;obtain⟨R,out⟩:=x;have E:=hx.up (fq.b1 (some (fC.aA 2 [[.aA r 21 0 0,.aA o 5 0 0]] false)));obtain⟨⟨g',f',ra⟩,⟨ma,ca,aa,oa⟩,lt⟩:=E;have e:=hx.lt;have rr:=ra.aA;have lr:=(WR.1 rr).1;have B0:=h_ h (some (fC.aA 2 [[.aA r 21 0 0,.aA o 5 0 0]] false));have lrh:r<h.length:=e r (by rw[ra.lr];omega);have ne:¬r=h.length:=ω;have X1:=fq.b1 (h:=h) (some (fC.aA 2 [[.aA r 21 0 0,.aA o 5 0 0]] false));simp only[fy.aL]at rr;have u:r<h.length+1:=ω;simp only[CU,go_sem,rr,u,ne,B0,W4,Yi];have T:fJ wA fB L (h++[some (fC.aA 2 [[.aA r 21 0 0,.aA o 5 0 0]] false)]) r o ⟨{R with aA:={R.aA with aC:=t,aF:=v}},out⟩ _:=iv.aD (R':={R with aA:={R.aA with aC:=t,aF:=v}}) ra oa lt rfl rfl;simp only[fy.aL]at T;refine fK ⟨hg.1,fJ.aK T (λ_ _ y=>y) λL1 x1=>(hg.2 fB L1 _ r o _ {gE.aI with aC:=1,aK:=t,aL:=v} .aC .aC .aC .aC .aC x1 (fA.aD 3) (fA.aD 1) (fA.aD 1) (fA.aD 1) (fA.aD 1) (λ_ y=>y.elim) hb).aA λ_ _ b=>b.aG nZ⟩ ?_;intro _ h' b;simp only[go_sem];exact fJ.aC X1 b
def sM (P:Program)(f:FuncId):Prop:=fZ P f=true/\∀(L:Nat->Nat)(h:fu)(r o:Nat)(x:RX)(w:fS),iv L h r o x->w.aJ->x.r.aA.aP->(x.o.aA.length+1)*168<=2^46->
 fO P f [.aF [.aA r 21 0 0,.aA o 5 0 0],.aF w.aF] h λ_ h'=>fJ wO fB L h r o (x.to w) h'
theorem Vm {k:FuncId}(hf:Is P f (CV g k))(hg:Ai P g)(hk:sI P k):sM P f:=by refine⟨hf.2,λL h r o x w hx hw u hb=>gy hf ?_⟩;obtain⟨R,out⟩:=x;have O:=λa b=>hx.up (fq.b2 (h:=h) a b);have lt:=hx.lt;obtain⟨⟨g',f',ra⟩,-,-⟩:=id hx;have rr:=ra.aA;simp only[fy.aL]at rr;have R2:∀a b,(h++[a]++[b])[r]?=_:=λa b=>(fq.b2 a b).aA rr;have X2:=fq.b2 (h:=h) (some (fC.aA 2 [[.aA r 21 0 0,.aA o 5 0 0]] false)) (some (fC.aA 4 [w.aF] false));have B0:=kr h (some (fC.aA 2 [[.aA r 21 0 0,.aA o 5 0 0]] false)) (some (fC.aA 4 [w.aF] false));have E:=O (some (fC.aA 2 [[.aA r 21 0 0,.aA o 5 0 0]] false)) (some (fC.aA 4 [w.aF] false));have nx:=hg.2 (h++[some (fC.aA 2 [[.aA r 21 0 0,.aA o 5 0 0]] false)]++[some (fC.aA 4 [w.aF] false)]) w R.id R.aA R.aD R.bG hw u;simp only[fP.aL,fS.aF]at nx X2 B0 E;simp only[CV,fS.aF,go_sem,R2];refine fK ⟨hg.1,nx⟩ ?_;rintro _ H ⟨e,d,rfl,he,hd,hX⟩;have l2:=X2.1;simp only[zk]at he hd l2;have I:=E.up hX;have RH:=hX.aA (R2 _ _);have C0:=hX.aA B0;have C1:=hX.aA (jy h (some (fC.aA 2 [[.aA r 21 0 0,.aA o 5 0 0]] false)) (some (fC.aA 4 [[ι w.aA,ι w.aD,ι w.aC,ι w.aI]] false)));rw[iY];simp only[go_sem,RH,C0,C1];refine fK ⟨hk.1,hk.2 (λn=>h.length+2<=n) L H r o _ _ e d I he hd (λn hn=>W6 λz=>by have:=lt n z;omega) hb⟩ ?_;intro _ h' T;have XX:=X2.tr hX;rw[iY];simp only[go_sem];exact (fJ.aC XX T).aT λm hm (y:h.length+2<=m)=>ω
end Glb
