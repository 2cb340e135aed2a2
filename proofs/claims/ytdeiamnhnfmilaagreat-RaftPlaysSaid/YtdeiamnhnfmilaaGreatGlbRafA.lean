/-
  A library of its own.
-/
import Derived.Test.YtdeiamnhnfmilaaGreatGlbConE
import Derived.Test.YtdeiamnhnfmilaaGreatGlbFloB
import Derived.Test.YtdeiamnhnfmilaaGreatGlbVotA
set_option linter.unusedSimpArgs false
set_option linter.unusedVariables false
set_option maxRecDepth 10000
set_option maxHeartbeats 8000000
namespace Glb
open Go
structure fm where
 id:Int
 aA:fV
 aI:Int
 aO:Int
 aM:Int
 aW:Int
 aF:Int
 aT:Int
 aG:List Int
 aB:List fO
 aL:Int
 aN:Int
 deriving DecidableEq
structure hM where
 aD:List fB
 aC:List fU
 aF:List gj
 aA:Int
 aB:Bool
 deriving DecidableEq
structure RX where
 r:fm
 o:hM
 deriving DecidableEq
def hM.aE:hM:=⟨[],[],[],0,false⟩
def fB.aG:fB:=⟨0,0,0,0,0,0,0,0,0,0,0,0,0,0,false,[],[]⟩
def fU.aD:fU:=⟨0,0,0,0,0,⟨0,0,[]⟩,⟨[],[],[]⟩,[],⟨0,0,0,0,0⟩⟩
def fm.bA (id:Int)(h:fV)(draw:Int):fm:=⟨id,h,h.aA.aA,h.aA.aA,0,0,0,jV draw,[],[],0,0⟩
def fm.aE (r:fm):fG:=r.aA.of.1
def fm.aK (r:fm):Int:=r.aA.aA.aC
def fm.aV (r:fm)(node:Int):Bool:=decide (node∈r.aE.aE)
def fm.aR (r:fm)(leader:Int):fm:={r with aM:=0,aW:=leader,aB:=[],aG:=[]}
def RX.aG (x:RX)(m:fB):RX:={x with o:={x.o with aD:=x.o.aD++[{m with aC:=x.r.id,aJ:=x.r.aA.aD,aF:=x.r.aA.aB}]}}
def RX.aU (x:RX)(c:fU):RX:={x with o:={x.o with aC:=x.o.aC++[{c with aI:=x.r.aA.aD}]}}
def RX.aL (x:RX)(term voted:Int):RX:=({x with r:={x.r with aA:={x.r.aA with aB:=term,aE:=voted}}}:RX).aU {fU.aD with aC:=1,aK:=term,aL:=voted}
def RX.aS (x:RX)(leader:Int):RX:={x with r:=x.r.aR leader}
def RX.to (x:RX)(f:fO):RX:=x.aG (f.aG x.r.id x.r.aA x.r.aI x.r.aL)
def RX.aJ (x:RX)(l:List fO):RX:=l.foldl RX.to x
def jD (was:List fO)(node last:Int):fO:=(was.find? λf=>decide (f.aB=node)).getD ⟨node,last+1,0,0⟩
def fm.bB (r:fm)(was:List fO)(last:Int):fm:={r with aB:=(r.aE.aL.filter λn=>!decide (n=r.id)).map λn=>jD was n last}
def RX.aC (x:RX)(kind:Int)(data:List Int):RX:=
 let last:=x.r.aK
 let l:=x.r.aA.aA.aF last [⟨x.r.aA.aB,kind,data⟩]
 let y:RX:=({x with r:={x.r with aA:={x.r.aA with aA:=l}}}:RX).aU {fU.aD with aC:=2,aF:=last+1,aA:=⟨0,0,l.aE (last+1) 1⟩}
 if kind=2 then {y with r:=y.r.bB y.r.aB last} else y
def fm.bE (r:fm):Int:=r.aE.aO (r.id :: r.aB.map fO.aB) (r.aK :: r.aB.map fO.aC)
def fm.bz (r:fm):fm:=if r.aI<r.bE/\r.aA.aA.aD r.bE=true/\r.aA.aA.aG r.bE=r.aA.aB then {r with aI:=r.bE} else r
def RX.aI (x:RX):RX:={x with r:=x.r.bz}
def RX.on (x:RX):RX:=x.aJ x.r.aB
def RX.aP (x:RX):RX:=
 let r:fm:={x.r with aM:=2,aW:=x.r.id,aN:=0,aG:=[],aB:=[]}
 ((({x with r:=r.bB [] r.aK}:RX).aC 0 []).on).aI
def fm.aZ (r:fm):fm:=if r.aM=2/\r.aA.of.2<=r.aI/\r.aV r.id=false then r.aR 0 else r
def RX.aD (x:RX):RX:=
 let r:=x.r.aZ
 if r.aI<=r.aO then ⟨r,x.o⟩ else ⟨{r with aO:=r.aI},{x.o with aA:=r.aO+1,aF:=r.aA.aA.aE (r.aO+1) (r.aI-r.aO)}⟩
def RX.aO (x:RX)(l:List fB):RX:=l.foldl RX.aG x
def RX.aW (x:RX)(draw:Int):RX:=
 let y:=(x.aL (x.r.aA.aB+1) x.r.id).aS 0
 let z:RX:={y with r:={y.r with aM:=1,aF:=0,aT:=jV draw,aG:=[y.r.id]}}
 if z.r.aE.aG z.r.aG then z.aP else z.aO (jo z.r.id z.r.aA.aD z.r.aA.aB z.r.aA.aA z.r.aE)
def fm.aC (r:fm):RX:=⟨r,hM.aE⟩
def fm.aQ (r:fm)(draw:Int):RX:=
 if r.aM=2 then (if r.aN+1≥2 then (({r with aN:=0}:fm).aC).on else ({r with aN:=r.aN+1}:fm).aC).aD
 else
  let s:fm:={r with aF:=r.aF+1}
  (if s.aT<=s.aF/\s.aV s.id=true/\s.aA.aB<2^40/\s.aK<2^40 then s.aC.aW draw else s.aC).aD
def RX.aR (x:RX)(m:fB):RX:=
 let ok:=mq x.r.aA.aB x.r.aA.aE x.r.aA.aA m
 let y:RX:=if ok then (let z:RX:={x with r:={x.r with aF:=0}};if z.r.aA.aE=m.aC then z else z.aL z.r.aA.aB m.aC) else x
 y.aG {fB.aG with aD:=2,to:=m.aC,ok:=ok}
def RX.aQ (x:RX)(m:fB):RX:=
 if ¬x.r.aM=1\/m.ok=false\/m.aC∈x.r.aG\/x.r.aV m.aC=false then x else
 let y:RX:={x with r:={x.r with aG:=x.r.aG++[m.aC]}}
 if y.r.aE.aG y.r.aG then y.aP else y
def RX.aM (x:RX)(m:fB)(ok:Bool)(index:Int):RX:=x.aG {fB.aG with aD:=4,to:=m.aC,ok:=ok,aA:=index,aM:=m.aM}
def RX.aE (x:RX)(m:fB):RX:=
 if m.aA<x.r.aA.aA.aA then x.aM m true x.r.aI else
 if x.r.aA.aA.aD m.aA=false\/¬x.r.aA.aA.aG m.aA=m.aI then x.aM m false (max 0 (min x.r.aK (m.aA-1))) else
 let l:=x.r.aA.aA.aF m.aA m.es
 let at':=x.r.aA.aA.aI m.aA m.es
 if 0<at'/\at'<=x.r.aI then x else
 let y:RX:=if 0<at' then ({x with r:={x.r with aA:={x.r.aA with aA:=l}}}:RX).aU {fU.aD with aC:=2,aF:=at',aA:=⟨0,0,l.aE at' l.es.length⟩} else x
 ({y with r:={y.r with aI:=max y.r.aI (min m.aK (m.aA+m.es.length))}}:RX).aM m true (m.aA+m.es.length)
def oV (l:List fO)(node:Int):Option Nat:=l.findIdx? λf=>decide (f.aB=node)
def RX.aK (x:RX)(m:fB):RX:=
 if ¬x.r.aM=2 then x else
 match oV x.r.aB m.aC with
 | none=>x
 | some i=>
  let f:=((x.r.aB[i]?).getD ⟨0,0,0,0⟩).aE m
  let y:RX:={x with r:={x.r with aB:=x.r.aB.set i f}}
  let z:=if m.ok then y.aI else y
  if m.ok=false\/f.aD<=z.r.aK then z.to f else z
def fm.aS (r:fm)(base term:Int):fE:=if r.aA.aA.aD base=true/\r.aA.aA.aG base=term then r.aA.aA.aK base else ⟨base,term,[]⟩
def RX.aV (x:RX)(base term:Int)(c:fG)(snap:List Int):RX:=
 ({x with r:={x.r with aA:={x.r.aA with aA:=x.r.aS base term,aC:=c,aF:=snap}}}:RX).aU {fU.aD with aC:=3,aA:=⟨base,term,[]⟩,aE:=c,aJ:=snap}
def jZ (l:List Int):List Int×List Int×Int:=
 let a:=EY.aA (some l)
 let b:=EY.aA a.2
 (a.1,b.1,b.2.aB)
def RX.aN (x:RX)(m:fB):RX:=
 if m.aA<=x.r.aI then x.aM m true x.r.aI else
 let s:=jZ m.aE
 if ¬s.2.2=0\/¬(gZ s.1).2=0 then x else
 let y:=x.aV m.aA m.aI (gZ s.1).1 s.2.1
 (⟨{y.r with aI:=m.aA,aO:=m.aA},{y.o with aB:=true}⟩:RX).aM m true m.aA
def RX.aT (x:RX)(m:fB):RX:=
 if ¬m.aJ=x.r.aA.aD\/m.aD<1\/5<m.aD\/(m.aD=1/\x.r.aV m.aC=false) then x else
 let y:=if x.r.aA.aB<m.aF then (x.aL m.aF 0).aS 0 else x
 if m.aF<y.r.aA.aB then
  (if m.aD=1 then y.aG {fB.aG with aD:=2,to:=m.aC} else if m.aD=3\/m.aD=5 then y.aG {fB.aG with aD:=4,to:=m.aC} else y)
 else if m.aD=1 then y.aR m else if m.aD=2 then y.aQ m else if m.aD=4 then y.aK m
 else if y.r.aM=2 then y else
  let z:RX:={y with r:={y.r.aR m.aC with aF:=0}}
  if m.aD=3 then z.aE m else z.aN m
def fm.aY (r:fm)(m:fB):RX:=(r.aC.aT m).aD
def fm.aP (r:fm)(kind:Int)(data:List Int):Int×RX×Int:=
 if ¬r.aM=2 then (0,r.aC,30) else
 if ¬kind=1/\¬kind=2 then (0,r.aC,13) else
 if kind=2/\¬(gZ data).2=0 then (0,r.aC,4) else
 if 2^40<=r.aK then (0,r.aC,17) else
 (r.aK+1,(((r.aC.aC kind data).on).aI).aD,0)
def fm.aX (r:fm):Int×RX×Int:=
 if ¬r.aM=2 then (0,r.aC,30) else
 if r.aA.aA.aD r.aI=false\/¬r.aA.aA.aG r.aI=r.aA.aB then (0,r.aC,11) else
 (r.aL+1,({r with aL:=r.aL+1}:fm).aC.on,0)
def fm.bD (r:fm)(round:Int):Bool:=
 if ¬r.aM=2\/round<1\/r.aL<round then false else
 r.aE.aG (r.id :: (r.aB.filter λf=>decide (round<=f.aF)).map fO.aB)
def fm.a_ (r:fm)(index:Int)(snap:List Int):RX×Int:=
 if index<=r.aA.aA.aA\/r.aO<index then (r.aC,3) else
 let up:fV:={r.aA with aA:={r.aA.aA with es:=r.aA.aA.es.take (index-r.aA.aA.aA).toNat}}
 ((r.aC.aV index (r.aA.aA.aG index) up.of.1 snap).aD,0)
theorem sK (l:fE)(e:gj):l.aF l.aC [e]=⟨l.aA,l.aB,l.es++[e]⟩:=by
 have h1:l.aD l.aC=true:=by unfold fE.aD fE.aC;simp;omega
 have h2:l.aD (l.aC+1)=false:=by unfold fE.aD;simp;omega
 have h3:l.aJ (l.aC+1) [e]=0:=by simp[fE.aJ,h2]
 unfold fE.aF;rw[Vf ⟨h1,by rw[h3];simp⟩,h3];congr 1;rw[show (l.aC+((0:Nat):Int)-l.aA).toNat=l.es.length by unfold fE.aC;omega];simp
theorem Dm (l:fE)(e:gj):(l.aF l.aC [e]).aE (l.aC+1) 1=[e]:=by
 rw[sK];unfold fE.aE;have h:(⟨l.aA,l.aB,l.es++[e]⟩:fE).aC=l.aC+1:=by unfold fE.aC;simp;omega
 rw[h,Ve (by unfold fE.aC;simp only;omega)];simp only;rw[show (l.aC+1-l.aA-1).toNat=l.es.length by unfold fE.aC;omega];simp
theorem HI {sz bytes:Nat}{F F0 Q:Nat->Prop}{ds es:List (List D)}{h0 h:eZ}{av:AV}{ys:List (List AV)}(ho:e_ (.sl sz ds) F0 h0 av)(hc:gq h0 av)
  (hx:eY fj h0 h) (hy:fP es Q h ys) (hQ:∀m,Q m->F m/\¬F0 m) (h0F:∀m,F0 m->F m) (hF:∀m,h0.length<=m->F m) (hb:(ds.length+es.length)*bytes<=2^46):
  ∃av' h',iL h sz bytes av ys=some (av',h')/\e_ (.sl sz (ds++es)) F h' av'/\gq h' av'/\eY F0 h h':=by
 have hyl:=py hy;have fresh:∀(hh:eZ) (dd:List (List D)) (es':List (List AV)),F hh.length->fP dd F hh es'->
   e_ (.sl sz dd) F (gR hh sz es').2 (gR hh sz es').1/\gq (gR hh sz es').2 (gR hh sz es').1:=by
  intro hh dd es' hl hd;have hlen:=py hd;refine⟨?_,⟨es',true,by simp[gR],(λ_=>rfl),(λc hc=>by cases hc)⟩⟩;simp only[e_,gR];refine .inr (.inr ⟨hh.length,0,none,es',true,by rw[hlen],hl,by simp,by omega,(λc hc=>by cases hc),?_⟩);have:(es'.drop 0).take dd.length=es':=by rw[Wf,V5 (by omega)]
  rw[this];refine fP.aA dd (λm hm=>⟨hm.1,by have:=hm.2;omega⟩) ?_ _ (fP.lt dd _ hd);intro m hm x hx;rw[VK hm.2];exact hx
 simp only[e_]at ho;rcases ho with⟨rfl,rfl⟩ | ⟨t,c,rfl,rfl⟩ | ⟨n,off,cap,row,g,rfl,hn0,hrow,hle,hcl,hd0⟩
 · -- nothing yet
  have hy':fP es F h ys:=fP.aA es (λm hm=>(hQ _ hm).1) (λ_ _ _ x=>x) _ hy;obtain⟨a,b⟩:=fresh h es ys (hF _ hx.1) hy';refine⟨_,_,?_,by simpa using a,b,?_⟩;·simp only[iL];rw[Vf (by rw[hyl];simpa using hb)]
  ·exact eY.aE _ _ _
 ·have hc1:c=true:=hc;subst hc1;have hy':fP es F h ys:=fP.aA es (λm hm=>(hQ _ hm).1) (λ_ _ _ x=>x) _ hy;simp only[iL];rw[Vf ⟨Vp,by rw[hyl];simpa using hb⟩];by_cases hy0:ys.length=0;·rw[Vf hy0];have hes:es=[]:=Vl (by omega);subst hes;refine⟨_,_,rfl,?_,rfl,eY.aC _ _⟩;simp only[e_];exact .inr (.inl ⟨t,true,rfl,rfl⟩)
  ·rw[Ve hy0,Vf Vp];obtain⟨a,b⟩:=fresh h es ys (hF _ hx.1) hy';exact⟨_,_,rfl,by simpa [gR] using a,b,eY.aE _ _ _⟩
 ·have hn:F n:=h0F _ hn0;have hd:fP ds (λm=>F m/\m≠n) h0 ((row.drop off).take ds.length):=fP.aA ds (λm hm=>⟨h0F _ hm.1,hm.2⟩) (λ_ _ _ x=>x) _ hd0;obtain⟨row',g',hrow',hcn,hcs⟩:=hc;rw[hrow]at hrow';obtain⟨rfl,rfl⟩:row=row'/\g=g':=by simpa using hrow'
  have hnlt:=(U_.1 hrow).1;have hrow1:h[n]?=some (some (.aA sz row g)):=hx.aA hrow;have hnlt1:=(U_.1 hrow1).1;have hd1:fP ds (λm=>F m/\m≠n) h ((row.drop off).take ds.length):=fP.aA ds (λm hm=>hm) (hx.aF _) _ hd;have hy1:fP es (λm=>F m/\m≠n) h ys:=fP.aA es (λm hm=>⟨(hQ _ hm).1,by rintro rfl;exact (hQ _ hm).2 hn0⟩) (λ_ _ _ x=>x) _ hy;have both:fP (ds++es) F h ((row.drop off).take ds.length++ys):=fP.aA _ (λm hm=>hm.1) (λ_ _ _ x=>x) _ (oG hd1 hy1);simp only[iL,hrow1];rw[Vf ⟨Vp,Vp,hle,by rw[hyl];exact hb⟩];cases cap with
  | none=>
   obtain rfl:=hcn rfl;simp only[V3];have both':fP (ds++es) F (h.set n none) (row.take ds.length++ys):=by have:=oG hd1 hy1;rw[Wf]at this;exact fP.aA _ (λm hm=>hm.1) (λm hm x hx=>by rw[Vb (λe=>hm.2 e.symm)];exact hx) _ this
   obtain⟨a,b⟩:=fresh (h.set n none) (ds++es) (row.take ds.length++ys) (by rw[Vh];exact hF _ hx.1) both';exact⟨_,_,rfl,a,b,(eY.aG none (λ_=>hn0)).aB (eY.aE F0 _ _) (λ_ _ x=>x) (λ_ _ x=>x)⟩
  | some c=>
   have hc1:=hcl c rfl;have hc2:=hcs c rfl;cases c with
   | zero=>
    have h0:ds.length=0:=by omega
    have hds:ds=[]:=Vl h0;subst hds;simp only[VN,V3];by_cases hy0:ys.length=0;·rw[Vf hy0];have hes:es=[]:=Vl (by omega);subst hes;refine⟨_,_,rfl,?_,⟨row,g,hrow1,(λe=>by cases e),(λc hc=>by cases hc;omega)⟩,eY.aC _ _⟩;simp only[e_];exact .inr (.inr ⟨n,off,some 0,row,g,rfl,hn,hrow1,by simpa using hle,(λc hc=>by cases hc;simp),by simp[fP]⟩)
    ·rw[Ve hy0];have hy2:fP es F h ys:=fP.aA es (λm hm=>hm.1) (λ_ _ _ x=>x) _ hy1;obtain⟨a,b⟩:=fresh h es ys (hF _ hx.1) hy2;exact⟨_,_,rfl,by simpa [gR] using a,b,eY.aE _ _ _⟩
   | succ c=>
    simp only;by_cases hcap:c+1<ds.length+ys.length;·rw[Vf hcap];obtain⟨a,b⟩:=fresh h (ds++es) _ (hF _ hx.1) both;exact⟨_,_,rfl,a,b,eY.aE _ _ _⟩
    ·rw[Ve hcap,Vf (by omega)];have hsl:(gY row (off+ds.length) ys).length=row.length:=by simp[gY];omega
     refine⟨_,_,rfl,?_,⟨_,g,by rw[Vd hnlt1],(λe=>by cases e),(λc' hc'=>by cases hc';rw[hsl];exact hc2)⟩,eY.aG _ (λ_=>hn0)⟩;simp only[e_];refine .inr (.inr ⟨n,off,some (c+1),gY row (off+ds.length) ys,g,by rw[Vj,hyl],hn,by rw[Vd hnlt1],by rw[hsl,Vj];omega,
      (λc' hc'=>by cases hc';rw[Vj];omega),?_⟩)
     have e:((gY row (off+ds.length) ys).drop off).take (ds++es).length=(row.drop off).take ds.length++ys:=by
      apply VT;intro i;simp only[V_,Vz,Vj,gY,Wb,Vw,Vj,VA];rw[show min (off+ds.length) row.length=off+ds.length by omega,show min ds.length (row.length-off)=ds.length by omega];by_cases h1:i<ds.length;·rw[Vf (by omega),Vf (by omega),Vf (by omega),Vf (by omega),Vf h1];simp[h1]
      ·by_cases h2:i<ds.length+es.length
       ·rw[Vf h2,Vf (by omega),Ve (by omega),Ve h1];congr 1;omega
       ·rw[Ve h2,Ve h1,VJ (by omega)]
     rw[e];refine fP.aA _ (λm hm=>hm) ?_ _ (oG hd1 hy1);intro m hm x hx;rw[Vb (λe=>hm.2 e.symm)];exact hx
def ig (l:List fO):D:=.sl 4 (l.map fO.c)
def fm.aJ (x:fm)(g f:AV):List AV:=[.aA .i64 x.id,.aA .i64 x.aA.aD,.aA .i64 x.aA.aB,.aA .i64 x.aA.aE,.aA .i64 x.aA.aA.aA,.aA .i64 x.aA.aA.aB,iD x.aA.aA.es,fA x.aA.aC.aA,fA x.aA.aC.aB,fA x.aA.aC.aC,gV x.aA.aF,
 .aA .i64 x.aI,.aA .i64 x.aO,.aA .i64 x.aM,.aA .i64 x.aW,.aA .i64 x.aF,.aA .i64 x.aT,g,f,.aA .i64 x.aL,.aA .i64 x.aN]
structure mY (L:Nat->Nat)(h:eZ)(r:Nat)(x:fm)(g f:AV):Prop where
 aA:h[r]?=some (some (.aA 21 [x.aJ g f] false))
 go:e_ (fK x.aG) (λm=>L m=1) h g
 gc:gq h g
 fo:e_ (ig x.aB) (λm=>L m=2) h f
 fc:gq h f
 lr:L r=6
structure oF (L:Nat->Nat)(h:eZ)(o:Nat)(x:hM)(ma ca aa:AV):Prop where
 aA:h[o]?=some (some (.aA 5 [[ma,ca,aa,.aA .i64 x.aA,.aD x.aB]] false))
 m:e_ (ks x.aD) (λm=>L m=3) h ma
 mc:gq h ma
 c:e_ (jQ x.aC) (λm=>L m=4) h ca
 cc:gq h ca
 a:e_ (f_ x.aF) (λm=>L m=5) h aa
 lo:L o=7
structure gS (L:Nat->Nat)(h:eZ)(r o:Nat)(x:RX):Prop where
 r:∃g f,mY L h r x.r g f
 o:∃ma ca aa,oF L h o x.o ma ca aa
 lt:∀m,L m≠0->m<h.length
def wO:Nat->Prop:=λk=>k=3\/k=4\/k=5\/k=7
def wA:Nat->Prop:=λk=>k≠0
def fF (W Q:Nat->Prop)(L:Nat->Nat)(h:eZ)(r o:Nat)(x:RX)(h':eZ):Prop:=∃L',gS L' h' r o x/\(∀m,m<h.length->L m≠0\/¬Q m->L' m=L m)/\eY (λm=>W (L m)\/Q m) h h'
theorem mY.aB {L h r x g f L' h'}(a:mY L h r x g f)(hL:∀m,m<h.length->L m≠0->L' m=L m) (hk:∀m,m<h.length->L m=1\/L m=2\/L m=6->h'[m]?=h[m]?):mY L' h' r x g f:=by have lr:=(U_.1 a.aA).1;have gl:=e_.lt _ _ a.go;have fl:=e_.lt _ _ a.fo;have kg:gz (λm=>L m=1/\m<h.length) h h':=λm hm y hy=>(hk m hm.2 (.inl hm.1)).trans hy;have kf:gz (λm=>L m=2/\m<h.length) h h':=λm hm y hy=>(hk m hm.2 (.inr (.inl hm.1))).trans hy;exact⟨(hk r lr (.inr (.inr a.lr))).trans a.aA,e_.aB _ (λm hm=>(hL m hm.2 (by rw[hm.1];omega)).trans hm.1) kg _ gl,a.gc.aA gl kg,e_.aB _ (λm hm=>(hL m hm.2 (by rw[hm.1];omega)).trans hm.1) kf _ fl,a.fc.aA fl kf,(hL r lr (by rw[a.lr];omega)).trans a.lr⟩
theorem oF.aB {L h o x ma ca aa L' h'}(a:oF L h o x ma ca aa)(hL:∀m,m<h.length->L m≠0->L' m=L m) (hk:∀m,m<h.length->L m=3\/L m=4\/L m=5\/L m=7->h'[m]?=h[m]?):oF L' h' o x ma ca aa:=by have lr:=(U_.1 a.aA).1;have ml:=e_.lt _ _ a.m;have cl:=e_.lt _ _ a.c;have al:=e_.lt _ _ a.a;have km:gz (λm=>L m=3/\m<h.length) h h':=λm hm y hy=>(hk m hm.2 (.inl hm.1)).trans hy;have kc:gz (λm=>L m=4/\m<h.length) h h':=λm hm y hy=>(hk m hm.2 (.inr (.inl hm.1))).trans hy;have ka:gz (λm=>L m=5/\m<h.length) h h':=λm hm y hy=>(hk m hm.2 (.inr (.inr (.inl hm.1)))).trans hy;exact⟨(hk o lr (.inr (.inr (.inr a.lo)))).trans a.aA,e_.aB _ (λm hm=>(hL m hm.2 (by rw[hm.1];omega)).trans hm.1) km _ ml,a.mc.aA ml km,e_.aB _ (λm hm=>(hL m hm.2 (by rw[hm.1];omega)).trans hm.1) kc _ cl,a.cc.aA cl kc,e_.aB _ (λm hm=>(hL m hm.2 (by rw[hm.1];omega)).trans hm.1) ka _ al,(hL o lr (by rw[a.lo];omega)).trans a.lo⟩
theorem gS.up {L h r o x h'}(a:gS L h r o x)(hx:eY fj h h'):gS L h' r o x:=by obtain⟨⟨g,f,ra⟩,⟨ma,ca,aa,oa⟩,lt⟩:=a;exact⟨⟨g,f,ra.aB (λ_ _ _=>rfl) λm hm _=>hx.2 m hm (λy=>y)⟩,⟨ma,ca,aa,oa.aB (λ_ _ _=>rfl) λm hm _=>hx.2 m hm (λy=>y)⟩,λm hm=>Vy (lt m hm) hx.1⟩
theorem gS.to {W Q L h r o x}(a:gS L h r o x):fF W Q L h r o x h:=⟨L,a,λ_ _ _=>rfl,eY.aC _ _⟩
theorem fF.aE {W Q Q' L L1 h r o h' x' h''}(l1:∀m,m<h.length->L m≠0\/¬Q m->L1 m=L m) (e1:eY (λm=>W (L m)\/Q m) h h') (hQ:∀m,m<h.length->Q' m->Q m) (b:fF W Q' L1 h' r o x' h''):fF W Q L h r o x' h'':=by
 obtain⟨L2,x2,l2,e2⟩:=b;have hh:=e1.1;have st:∀m,m<h.length->L m≠0\/¬Q m->L1 m≠0\/¬Q' m:=λm hm c=>by
  rcases c with c | c;·left;rw[l1 m hm (.inl c)];exact c
  ·right;exact λz=>c (hQ m hm z)
 refine⟨L2,x2,λm hm c=>(l2 m (by omega) (st m hm c)).trans (l1 m hm c),e1.aB e2 (λ_ _ y=>y) (λm hm y=>?_)⟩;rcases y with y | y
 ·by_cases c:L m≠0\/¬Q m
  ·left;rw[l1 m hm c]at y;exact y
  ·right;exact Vm λz=>c (.inr z)
 ·exact .inr (hQ m hm y)
theorem fF.aL {P:Program}{f:FuncId}{t:List AV}{W Q Q' L h r o x h' x'}(a:fF W Q L h r o x h')(hQ:∀m,m<h.length->Q' m->Q m)(hc:∀L',gS L' h' r o x->fy P f t h' λ_ h''=>fF W Q' L' h' r o x' h''):fy P f t h' λ_ h''=>fF W Q L h r o x' h'':=by obtain⟨L1,x1,l1,e1⟩:=a;exact (hc L1 x1).aA λv h'' b=>fF.aE l1 e1 hQ b
theorem fF.up {W Q L h r o x h' h''}(a:fF W Q L h r o x h')(hx:eY fj h' h''):fF W Q L h r o x h'':=by obtain⟨L1,x1,l1,e1⟩:=a;exact⟨L1,x1.up hx,l1,e1.aB hx (λ_ _ y=>y) (λ_ _ y=>y.elim)⟩
theorem fF.aT {W Q Q' L h r o x h'}(a:fF W Q L h r o x h')(hQ:∀m,m<h.length->Q m->Q' m):fF W Q' L h r o x h':=by obtain⟨L1,x1,l1,e1⟩:=a;exact⟨L1,x1,λm hm c=>l1 m hm (c.imp id λz y=>z (hQ m hm y)),e1.aO λm hm y=>y.imp id (hQ m hm)⟩
theorem fF.aB {W Q L h r o x h1 h'}(hx:eY fj h h1)(a:fF W Q L h1 r o x h'):fF W Q L h r o x h':=by obtain⟨L1,x1,l1,e1⟩:=a;have hh:=hx.1;exact⟨L1,x1,λm hm c=>l1 m (by omega) c,hx.aB e1 (λ_ _ y=>y.elim) (λ_ _ y=>y)⟩
theorem fF.aF {W W' Q L h r o x h'}(a:fF W Q L h r o x h')(hW:∀k,W k->W' k):fF W' Q L h r o x h':=by obtain⟨L1,x1,l1,e1⟩:=a;exact⟨L1,x1,l1,e1.aO λm _ y=>y.imp (hW _) id⟩
theorem me:∀k,wO k->wA k:=λk h=>by unfold wO at h;unfold wA;omega
theorem gS.aC {Q L h r o R R' out g f ma ca aa}(ra:mY L h r R g f)(oa:oF L h o out ma ca aa)(lt:∀m,L m≠0->m<h.length)(e1:R'.aG=R.aG)(e2:R'.aB=R.aB):
  fF wA Q L h r o ⟨R',out⟩ (h.set r (some (.aA 21 [R'.aJ g f] false))):=by
 have lr:=(U_.1 ra.aA).1;have ne:∀m,L m≠6->(h.set r (some (.aA 21 [R'.aJ g f] false)))[m]?=h[m]?:=λm hm=>Vb (by rintro rfl;exact hm ra.lr);have kg:gz (λm=>L m=1) h (h.set r (some (.aA 21 [R'.aJ g f] false))):=λm hm y hy=>(ne m (by omega)).trans hy;have kf:gz (λm=>L m=2) h (h.set r (some (.aA 21 [R'.aJ g f] false))):=λm hm y hy=>(ne m (by omega)).trans hy;refine⟨L,⟨⟨g,f,Vd lr,?_,ra.gc.aA ra.go kg,?_,ra.fc.aA ra.fo kf,ra.lr⟩,⟨ma,ca,aa,oa.aB (λ_ _ _=>rfl) λm hm y=>ne m (by omega)⟩,λm hm=>by rw[Vh];exact lt m hm⟩,λ_ _ _=>rfl,eY.aG _ λ_=>.inl (by rw[ra.lr];unfold wA;omega)⟩;·rw[e1];exact e_.aB _ (λ_ y=>y) kg _ ra.go
 ·rw[e2];exact e_.aB _ (λ_ y=>y) kf _ ra.fo
theorem gS.aD {Q L h r o R R' out g f ma ca aa}(ra:mY L h r R g f)(oa:oF L h o out ma ca aa)(lt:∀m,L m≠0->m<h.length) (e1:R'.aG=[]) (e2:R'.aB=[]):
  fF wA Q L h r o ⟨R',out⟩ (h.set r (some (.aA 21 [R'.aJ .aB .aB] false))):=by
 have lr:=(U_.1 ra.aA).1;have ne:∀m,L m≠6->(h.set r (some (.aA 21 [R'.aJ .aB .aB] false)))[m]?=h[m]?:=λm hm=>Vb (by rintro rfl;exact hm ra.lr);refine⟨L,⟨⟨.aB,.aB,Vd lr,?_,Vp,?_,Vp,ra.lr⟩,⟨ma,ca,aa,oa.aB (λ_ _ _=>rfl) λm hm y=>ne m (by omega)⟩,λm hm=>by rw[Vh];exact lt m hm⟩,λ_ _ _=>rfl,eY.aG _ λ_=>.inl (by rw[ra.lr];unfold wA;omega)⟩;·rw[e1];exact e_.aC 1
 ·rw[e2];exact e_.aC 4
open Classical in
noncomputable def ky (L:Nat->Nat) (Q:Nat->Prop) (a b k:Nat):Nat->Nat:=λm=>if L m=0/\m<b/\(Q m\/a<=m) then k else L m
theorem kX {L Q a b k m}(h:L m≠0\/(¬Q m/\m<a)):ky L Q a b k m=L m:=by
 unfold ky;rw[Ve];rintro⟨h1,-,h2⟩;rcases h with h | ⟨h3,h4⟩;·exact h h1
 ·rcases h2 with h2 | h2;·exact h3 h2
  ·omega
theorem sY {L Q a b k m}(h1:L m=0)(hb:m<b)(h:Q m\/a<=m):ky L Q a b k m=k:=by unfold ky;rw[Vf ⟨h1,hb,h⟩]
theorem sX {L Q a b k m}(hl:L m≠0->m<b)(h:ky L Q a b k m≠0):m<b:=by
 unfold ky at h;split at h;·rename_i c;exact c.2.1
 ·exact hl h
def sC (L:Nat->Nat)(Q:Nat->Prop)(a k n:Nat):Prop:=L n=k\/(L n=0/\(Q n\/a<=n))
theorem gS.aF {Q L h r o R out g f ma ca aa}(ra:mY L h r R g f)(oa:oF L h o out ma ca aa)(lt:∀m,L m≠0->m<h.length){m:fB}{e d:AV}{h1:eZ}(hx:eY fj h h1)(he:e_ (f_ m.es) Q h e)(hd:e_ (fT m.aE) Q h d)
  (hQ:∀n,Q n->L n=0) (hb:(out.aD.length+1)*168<=2^46):
  ∃ma' h2,iL h1 17 168 ma [m.aB e d]=some (ma',h2)/\ma'.aG=true/\eY (λn=>L n=3) h1 h2/\h2[o]?=some (some (.aA 5 [[ma,ca,aa,.aA .i64 out.aA,.aD out.aB]] false)) /\
   fF wO Q L h r o ⟨R,{out with aD:=out.aD++[m]}⟩ (h2.set o (some (.aA 5 [[ma',ca,aa,.aA .i64 out.aA,.aD out.aB]] false))):=by
 have hi:fP [m.c] (λn=>Q n/\n<h.length) h1 [m.aB e d]:=by
  refine fP.aA [m.c] (λ_ y=>y) (λn hn y hy=>hx.aA hy) _ ?_
  refine fP.lt [m.c] _ ?_
  simp only[fP,fW,e_,fB.c,fB.aB]
  exact⟨_,_,rfl,⟨_,_,rfl,rfl,_,_,rfl,rfl,_,_,rfl,rfl,_,_,rfl,rfl,_,_,rfl,rfl,_,_,rfl,rfl,_,_,rfl,rfl,_,_,rfl,rfl,_,_,rfl,rfl,_,_,rfl,rfl,_,_,rfl,rfl,_,_,rfl,rfl,_,_,rfl,rfl,_,_,rfl,rfl,_,_,rfl,rfl,_,_,rfl,he,_,_,rfl,hd,rfl⟩,rfl⟩
 have ge:∀n,h.length<=n->L n=0:=λn hn=>Vm λz=>by have:=lt n z;omega
 have t:=oa.aB (h':=h1) (λ_ _ _=>rfl) (λn hn _=>hx.2 n hn (λy=>y))
 obtain⟨ma',h2,s1,s2,s3,s4⟩:=HI (sz:=17) (bytes:=168) (F:=sC L Q h.length 3) (ds:=out.aD.map fB.c) (es:=[m.c]) oa.m oa.mc hx hi
  (λn hn=>⟨.inr ⟨hQ n hn.1,.inl hn.1⟩,by rw[hQ n hn.1];omega⟩) (λn hn=>.inl hn) (λn hn=>.inr ⟨ge n hn,.inr hn⟩) (by simpa using hb)
 have ob:=(U_.1 t.aA).1
 have st:∀n,n<h.length->L n≠3->n≠o->(h2.set o (some (.aA 5 [[ma',ca,aa,.aA .i64 out.aA,.aD out.aB]] false)))[n]?=h[n]?:=λn hn h3 ho=>
  (Vb (λe=>ho e.symm)).trans ((s4.2 n (Vy hn hx.1) h3).trans (hx.2 n hn (λy=>y)))
 have ol:o<h.length:=(U_.1 oa.aA).1
 have u:o<h2.length:=by have:=s4.1;omega
 have nl:∀n,L n≠0->L n≠7->n≠o:=λn _ h7 e=>h7 (e▸oa.lo)
 have b:=e_.lt _ _ s2
 have km:gz (λn=>sC L Q h.length 3 n/\n<h2.length) h2 (h2.set o (some (.aA 5 [[ma',ca,aa,.aA .i64 out.aA,.aD out.aB]] false))):=λn hn y hy=>
  (Vb (by rintro rfl;have:=oa.lo;rcases hn.1 with z | ⟨z,-⟩<;>omega)).trans hy
 have tm:∀n,sC L Q h.length 3 n/\n<h2.length->ky L Q h.length h2.length 3 n=3:=by
  rintro n ⟨z | ⟨z,z'⟩,hn⟩
  ·rw[kX (.inl (by omega))];exact z
  ·exact sY z hn z'
 have cl:=e_.lt _ _ oa.c
 have al:=e_.lt _ _ oa.a
 have kc:gz (λn=>L n=4/\n<h.length) h (h2.set o (some (.aA 5 [[ma',ca,aa,.aA .i64 out.aA,.aD out.aB]] false))):=λn hn y hy=>(st n hn.2 (by omega) (nl n (by omega) (by omega))).trans hy
 have ka:gz (λn=>L n=5/\n<h.length) h (h2.set o (some (.aA 5 [[ma',ca,aa,.aA .i64 out.aA,.aD out.aB]] false))):=λn hn y hy=>(st n hn.2 (by omega) (nl n (by omega) (by omega))).trans hy
 refine⟨ma',h2,s1,s2.aA,s4,(s4.2 o ob (fun (z:L o=3)=>by rw[oa.lo]at z;omega)).trans t.aA,ky L Q h.length h2.length 3,⟨⟨g,f,ra.aB (λn _ hn=>kX (.inl hn)) λn hn c=>st n hn (by omega) (nl n (by omega) (by omega))⟩,⟨ma',ca,aa,Vd u,?_,?_,?_,?_,?_,?_⟩,λn hn=>by rw[Vh];exact sX (λz=>by have:=lt n z;have:=hx.1;have:=s4.1;omega) hn⟩,λn hn c=>kX ?_,?_⟩
 ·show e_ (.sl 17 ((out.aD++[m]).map fB.c)) _ _ _
  rw[show (out.aD++[m]).map fB.c=out.aD.map fB.c++[m.c] by simp]
  exact e_.aB _ tm km _ b
 ·exact s3.aA b km
 ·exact e_.aB _ (λn hn=>by rw[kX (.inl (by omega))];exact hn.1) kc _ cl
 ·exact oa.cc.aA cl kc
 ·exact e_.aB _ (λn hn=>by rw[kX (.inl (by omega))];exact hn.1) ka _ al
 ·rw[kX (.inl (by rw[oa.lo];omega))];exact oa.lo
 ·exact c.imp id λz=>⟨z,hn⟩
 ·refine (hx.aB s4 (F'':=λm=>wO (L m)\/Q m) (λ_ _ y=>y.elim) (λn _ (y:L n=3)=>.inl (.inl y))).aB (eY.aG (F:=λm=>m=o) _ (λ_=>rfl)) (λ_ _ y=>y) (λn _ y=>.inl (by rw[y,oa.lo];exact .inr (.inr (.inr rfl))))
theorem gS.aE {Q L h r o R out g f ma ca aa}(ra:mY L h r R g f)(oa:oF L h o out ma ca aa)(lt:∀m,L m≠0->m<h.length){m:fU}{e co cn ce sn:AV}{h1:eZ}(hx:eY fj h h1)(he:e_ (f_ m.aA.es) Q h e)(I:e_ (fK m.aE.aA) Q h co)(E:e_ (fK m.aE.aB) Q h cn)(C:e_ (fK m.aE.aC) Q h ce)(hd:e_ (fT m.aJ) Q h sn)
  (hQ:∀n,Q n->L n=0) (hb:(out.aC.length+1)*216<=2^46):
  ∃ca' h2,iL h1 17 216 ca [m.aG e co cn ce sn]=some (ca',h2)/\ca'.aG=true/\eY (λn=>L n=4) h1 h2/\h2[o]?=some (some (.aA 5 [[ma,ca,aa,.aA .i64 out.aA,.aD out.aB]] false)) /\
   fF wO Q L h r o ⟨R,{out with aC:=out.aC++[m]}⟩ (h2.set o (some (.aA 5 [[ma,ca',aa,.aA .i64 out.aA,.aD out.aB]] false))):=by
 have hi:fP [m.c] (λn=>Q n/\n<h.length) h1 [m.aG e co cn ce sn]:=by
  refine fP.aA [m.c] (λ_ y=>y) (λn hn y hy=>hx.aA hy) _ ?_
  refine fP.lt [m.c] _ ?_
  simp only[fP,fW,e_,fU.c,fU.aG]
  exact⟨_,_,rfl,⟨_,_,rfl,rfl,_,_,rfl,rfl,_,_,rfl,rfl,_,_,rfl,rfl,_,_,rfl,rfl,_,_,rfl,rfl,_,_,rfl,rfl,_,_,rfl,he,_,_,rfl,I,_,_,rfl,E,_,_,rfl,C,_,_,rfl,hd,_,_,rfl,rfl,_,_,rfl,rfl,_,_,rfl,rfl,_,_,rfl,rfl,_,_,rfl,rfl,rfl⟩,rfl⟩
 have ge:∀n,h.length<=n->L n=0:=λn hn=>Vm λz=>by have:=lt n z;omega
 have t:=oa.aB (h':=h1) (λ_ _ _=>rfl) (λn hn _=>hx.2 n hn (λy=>y))
 obtain⟨ca',h2,s1,s2,s3,s4⟩:=HI (sz:=17) (bytes:=216) (F:=sC L Q h.length 4) (ds:=out.aC.map fU.c) (es:=[m.c]) oa.c oa.cc hx hi
  (λn hn=>⟨.inr ⟨hQ n hn.1,.inl hn.1⟩,by rw[hQ n hn.1];omega⟩) (λn hn=>.inl hn) (λn hn=>.inr ⟨ge n hn,.inr hn⟩) (by simpa using hb)
 have ob:=(U_.1 t.aA).1
 have st:∀n,n<h.length->L n≠4->n≠o->(h2.set o (some (.aA 5 [[ma,ca',aa,.aA .i64 out.aA,.aD out.aB]] false)))[n]?=h[n]?:=λn hn h3 ho=>
  (Vb (λe=>ho e.symm)).trans ((s4.2 n (Vy hn hx.1) h3).trans (hx.2 n hn (λy=>y)))
 have ol:o<h.length:=(U_.1 oa.aA).1
 have u:o<h2.length:=by have:=s4.1;omega
 have nl:∀n,L n≠0->L n≠7->n≠o:=λn _ h7 e=>h7 (e▸oa.lo)
 have b:=e_.lt _ _ s2
 have km:gz (λn=>sC L Q h.length 4 n/\n<h2.length) h2 (h2.set o (some (.aA 5 [[ma,ca',aa,.aA .i64 out.aA,.aD out.aB]] false))):=λn hn y hy=>
  (Vb (by rintro rfl;have:=oa.lo;rcases hn.1 with z | ⟨z,-⟩<;>omega)).trans hy
 have tm:∀n,sC L Q h.length 4 n/\n<h2.length->ky L Q h.length h2.length 4 n=4:=by
  rintro n ⟨z | ⟨z,z'⟩,hn⟩
  ·rw[kX (.inl (by omega))];exact z
  ·exact sY z hn z'
 have cl:=e_.lt _ _ oa.m
 have al:=e_.lt _ _ oa.a
 have kc:gz (λn=>L n=3/\n<h.length) h (h2.set o (some (.aA 5 [[ma,ca',aa,.aA .i64 out.aA,.aD out.aB]] false))):=λn hn y hy=>(st n hn.2 (by omega) (nl n (by omega) (by omega))).trans hy
 have ka:gz (λn=>L n=5/\n<h.length) h (h2.set o (some (.aA 5 [[ma,ca',aa,.aA .i64 out.aA,.aD out.aB]] false))):=λn hn y hy=>(st n hn.2 (by omega) (nl n (by omega) (by omega))).trans hy
 refine⟨ca',h2,s1,s2.aA,s4,(s4.2 o ob (fun (z:L o=4)=>by rw[oa.lo]at z;omega)).trans t.aA,ky L Q h.length h2.length 4,⟨⟨g,f,ra.aB (λn _ hn=>kX (.inl hn)) λn hn c=>st n hn (by omega) (nl n (by omega) (by omega))⟩,⟨ma,ca',aa,Vd u,?_,?_,?_,?_,?_,?_⟩,λn hn=>by rw[Vh];exact sX (λz=>by have:=lt n z;have:=hx.1;have:=s4.1;omega) hn⟩,λn hn c=>kX ?_,?_⟩
 ·exact e_.aB _ (λn hn=>by rw[kX (.inl (by omega))];exact hn.1) kc _ cl
 ·exact oa.mc.aA cl kc
 ·show e_ (.sl 17 ((out.aC++[m]).map fU.c)) _ _ _
  rw[show (out.aC++[m]).map fU.c=out.aC.map fU.c++[m.c] by simp]
  exact e_.aB _ tm km _ b
 ·exact s3.aA b km
 ·exact e_.aB _ (λn hn=>by rw[kX (.inl (by omega))];exact hn.1) ka _ al
 ·rw[kX (.inl (by rw[oa.lo];omega))];exact oa.lo
 ·exact c.imp id λz=>⟨z,hn⟩
 ·refine (hx.aB s4 (F'':=λm=>wO (L m)\/Q m) (λ_ _ y=>y.elim) (λn _ (y:L n=4)=>.inl (.inr (.inl y)))).aB (eY.aG (F:=λm=>m=o) _ (λ_=>rfl)) (λ_ _ y=>y) (λn _ y=>.inl (by rw[y,oa.lo];exact .inr (.inr (.inr rfl))))
def qt (P:Program)(f:FuncId):Prop:=fI P f=true/\∀(Q:Nat->Prop)(L:Nat->Nat)(h:eZ)(r o:Nat)(x:RX)(m:fB)(e d:AV),gS L h r o x->e_ (f_ m.es) Q h e->e_ (fT m.aE) Q h d->(∀n,Q n->L n=0)->(x.o.aD.length+1)*168<=2^46->
 fy P f [.aE [.aC r 21 0 0,.aC o 5 0 0],.aE (m.aB e d)] h λ_ h'=>fF wO Q L h r o (x.aG m) h'
theorem Tg {P:Program}{f:FuncId}(hf:Is P f BO):qt P f:=by
 refine⟨hf.2,λQ L h r o x m e d hx he hd hQ hb=>fN hf ?_⟩;obtain⟨R,out⟩:=x;obtain⟨⟨g,f',ra⟩,⟨ma,ca,aa,oa⟩,lt⟩:=hx;have rr:=ra.aA;have t:=oa.aA;have lr:=(U_.1 rr).1;have lo:=(U_.1 t).1;simp only[fm.aJ]at rr;have R2:∀a b,(h++[a]++[b])[r]?=_:=λa b=>(eY.b2 a b).aA rr;have O2:∀a b,(h++[a]++[b])[o]?=_:=λa b=>(eY.b2 a b).aA t;have O3:∀a b c,(h++[a]++[b]++[c])[o]?=_:=λa b c=>(eY.b3 a b c).aA t;simp only[BO,fB.aB,go_sem,he.aA,hd.aA,R2,O3];refine⟨iv (by omega),?_⟩;have l2:(h++[some (fh.aA 2 [[.aC r 21 0 0,.aC o 5 0 0]] false)]++[some (fh.aA 17 [[.aA .i64 m.aD,.aA .i64 R.id,.aA .i64 m.to,.aA .i64 R.aA.aD,.aA .i64 R.aA.aB,.aA .i64 m.aA,.aA .i64 m.aI,.aA .i64 m.aK,.aA .i64 m.aM,.aA .i64 m.aQ,.aA .i64 m.aO,.aA .i64 m.aN,.aA .i64 m.aR,.aA .i64 m.aP,.aD m.ok,e,d]] false)]).length=h.length+2:=by simp
 have ae:=jn (h++[some (fh.aA 2 [[.aC r 21 0 0,.aC o 5 0 0]] false)]++[some (fh.aA 17 [[.aA .i64 m.aD,.aA .i64 R.id,.aA .i64 m.to,.aA .i64 R.aA.aD,.aA .i64 R.aA.aB,.aA .i64 m.aA,.aA .i64 m.aI,.aA .i64 m.aK,.aA .i64 m.aM,.aA .i64 m.aQ,.aA .i64 m.aO,.aA .i64 m.aN,.aA .i64 m.aR,.aA .i64 m.aP,.aD m.ok,e,d]] false)]) 17 [[.aA .i64 m.aD,.aA .i64 R.id,.aA .i64 m.to,.aA .i64 R.aA.aD,.aA .i64 R.aA.aB,.aA .i64 m.aA,.aA .i64 m.aI,.aA .i64 m.aK,.aA .i64 m.aM,.aA .i64 m.aQ,.aA .i64 m.aO,.aA .i64 m.aN,.aA .i64 m.aR,.aA .i64 m.aP,.aD m.ok,e,d]] false (some 1) (len:=1) rfl;have X3:=eY.b3 (h:=h) (some (fh.aA 2 [[.aC r 21 0 0,.aC o 5 0 0]] false)) (some (fh.aA 17 [[.aA .i64 m.aD,.aA .i64 R.id,.aA .i64 m.to,.aA .i64 R.aA.aD,.aA .i64 R.aA.aB,.aA .i64 m.aA,.aA .i64 m.aI,.aA .i64 m.aK,.aA .i64 m.aM,.aA .i64 m.aQ,.aA .i64 m.aO,.aA .i64 m.aN,.aA .i64 m.aR,.aA .i64 m.aP,.aD m.ok,e,d]] false)) (some (fh.aA 17 [[.aA .i64 m.aD,.aA .i64 R.id,.aA .i64 m.to,.aA .i64 R.aA.aD,.aA .i64 R.aA.aB,.aA .i64 m.aA,.aA .i64 m.aI,.aA .i64 m.aK,.aA .i64 m.aM,.aA .i64 m.aQ,.aA .i64 m.aO,.aA .i64 m.aN,.aA .i64 m.aR,.aA .i64 m.aP,.aD m.ok,e,d]] false));obtain⟨ma',h2,s1,s2,s3,s4,s5⟩:=gS.aF ra oa lt (m:={m with aC:=R.id,aJ:=R.aA.aD,aF:=R.aA.aB}) X3 he hd hQ hb;simp only[fB.aB]at s1;rw[<-ic ae,l2]at s1;rw[s1];have l3:o<h2.length:=(U_.1 s4).1;have ge:∀n,h.length<=n->L n=0:=λn hn=>Vm λz=>by have:=lt n z;omega
 have C0:=(s3.2 h.length (by simp) (fun (z:L _=3)=>by rw[ge _ (Vg _)]at z;omega)).trans (oS h _ _ _);have C1:=(s3.2 (h.length+1) (by simp) (fun (z:L _=3)=>by rw[ge _ (by omega)]at z;omega)).trans (pG h _ _ _);simp only[go_sem,s2,gH s2,s4,l3,C0,C1];exact s5
def rN (P:Program)(f:FuncId):Prop:=fI P f=true/\∀(Q:Nat->Prop)(L:Nat->Nat)(h:eZ)(r o:Nat)(x:RX)(m:fU)(e co cn ce sn:AV),gS L h r o x->e_ (f_ m.aA.es) Q h e->e_ (fK m.aE.aA) Q h co->e_ (fK m.aE.aB) Q h cn->e_ (fK m.aE.aC) Q h ce->e_ (fT m.aJ) Q h sn->
 (∀n,Q n->L n=0)->(x.o.aC.length+1)*216<=2^46->fy P f [.aE [.aC r 21 0 0,.aC o 5 0 0],.aE (m.aG e co cn ce sn)] h λ_ h'=>fF wO Q L h r o (x.aU m) h'
theorem TJ {P:Program}{f:FuncId}(hf:Is P f BT):rN P f:=by
 refine⟨hf.2,λQ L h r o x m e co cn ce sn hx he E C u hd hQ hb=>fN hf ?_⟩;obtain⟨R,out⟩:=x;obtain⟨⟨g,f',ra⟩,⟨ma,ca,aa,oa⟩,lt⟩:=hx;have rr:=ra.aA;have t:=oa.aA;have lr:=(U_.1 rr).1;have lo:=(U_.1 t).1;simp only[fm.aJ]at rr;have R2:∀a b,(h++[a]++[b])[r]?=_:=λa b=>(eY.b2 a b).aA rr;have O2:∀a b,(h++[a]++[b])[o]?=_:=λa b=>(eY.b2 a b).aA t;have O3:∀a b c,(h++[a]++[b]++[c])[o]?=_:=λa b c=>(eY.b3 a b c).aA t;simp only[BT,fU.aG,go_sem,he.aA,E.aA,C.aA,u.aA,hd.aA,R2,O3];refine⟨iv (by omega),?_⟩;have l2:(h++[some (fh.aA 2 [[.aC r 21 0 0,.aC o 5 0 0]] false)]++[some (fh.aA 17 [[.aA .i64 m.aC,.aA .i64 R.aA.aD,.aA .i64 m.aK,.aA .i64 m.aL,.aA .i64 m.aF,.aA .i64 m.aA.aA,.aA .i64 m.aA.aB,e,co,cn,ce,sn,.aA .i64 m.aB.aD,.aA .i64 m.aB.aB,.aA .i64 m.aB.aC,.aA .i64 m.aB.aA,.aA .i64 m.aB.aE]] false)]).length=h.length+2:=by simp
 have ae:=jn (h++[some (fh.aA 2 [[.aC r 21 0 0,.aC o 5 0 0]] false)]++[some (fh.aA 17 [[.aA .i64 m.aC,.aA .i64 R.aA.aD,.aA .i64 m.aK,.aA .i64 m.aL,.aA .i64 m.aF,.aA .i64 m.aA.aA,.aA .i64 m.aA.aB,e,co,cn,ce,sn,.aA .i64 m.aB.aD,.aA .i64 m.aB.aB,.aA .i64 m.aB.aC,.aA .i64 m.aB.aA,.aA .i64 m.aB.aE]] false)]) 17 [[.aA .i64 m.aC,.aA .i64 R.aA.aD,.aA .i64 m.aK,.aA .i64 m.aL,.aA .i64 m.aF,.aA .i64 m.aA.aA,.aA .i64 m.aA.aB,e,co,cn,ce,sn,.aA .i64 m.aB.aD,.aA .i64 m.aB.aB,.aA .i64 m.aB.aC,.aA .i64 m.aB.aA,.aA .i64 m.aB.aE]] false (some 1) (len:=1) rfl;have X3:=eY.b3 (h:=h) (some (fh.aA 2 [[.aC r 21 0 0,.aC o 5 0 0]] false)) (some (fh.aA 17 [[.aA .i64 m.aC,.aA .i64 R.aA.aD,.aA .i64 m.aK,.aA .i64 m.aL,.aA .i64 m.aF,.aA .i64 m.aA.aA,.aA .i64 m.aA.aB,e,co,cn,ce,sn,.aA .i64 m.aB.aD,.aA .i64 m.aB.aB,.aA .i64 m.aB.aC,.aA .i64 m.aB.aA,.aA .i64 m.aB.aE]] false)) (some (fh.aA 17 [[.aA .i64 m.aC,.aA .i64 R.aA.aD,.aA .i64 m.aK,.aA .i64 m.aL,.aA .i64 m.aF,.aA .i64 m.aA.aA,.aA .i64 m.aA.aB,e,co,cn,ce,sn,.aA .i64 m.aB.aD,.aA .i64 m.aB.aB,.aA .i64 m.aB.aC,.aA .i64 m.aB.aA,.aA .i64 m.aB.aE]] false));obtain⟨ca',h2,s1,s2,s3,s4,s5⟩:=gS.aE ra oa lt (m:={m with aI:=R.aA.aD}) X3 he E C u hd hQ hb;simp only[fU.aG]at s1;rw[<-ic ae,l2]at s1;rw[s1];have l3:o<h2.length:=(U_.1 s4).1;have ge:∀n,h.length<=n->L n=0:=λn hn=>Vm λz=>by have:=lt n z;omega
 have C0:=(s3.2 h.length (by simp) (fun (z:L _=4)=>by rw[ge _ (Vg _)]at z;omega)).trans (oS h _ _ _);have C1:=(s3.2 (h.length+1) (by simp) (fun (z:L _=4)=>by rw[ge _ (by omega)]at z;omega)).trans (pG h _ _ _);simp only[go_sem,s2,gH s2,s4,l3,C0,C1];exact s5
def nP (h:eZ)(r:Nat)(x:fm):Prop:=∃g f,h[r]?=some (some (.aA 21 [x.aJ g f] false))
theorem gS.aA {L h r o x}(a:gS L h r o x):nP h r x.r:=let⟨g,f,ra⟩:=a.r;⟨g,f,ra.aA⟩
theorem vW.p {P:Program}{f:FuncId}(hc:vW P f):nM P f:=⟨hc.1,λG h x b ha hR=>(hc.2 G h x b ha hR).aB λ_ _ ⟨_,h1,h2,h3⟩=>⟨h3,_,h1▸gM.aC (gM.aA (fW.fz _ (λ_ x=>x) _ h2)) (gM.aB _ _),rfl⟩⟩
theorem qV (x:fV)(h:eZ):fu fj h x.c [.aA .i64 x.aD,.aA .i64 x.aB,.aA .i64 x.aE,.aA .i64 x.aA.aA,.aA .i64 x.aA.aB,iD x.aA.es,fA x.aC.aA,fA x.aC.aB,fA x.aC.aC,gV x.aF]:=by rw[<-fV.aM];exact Ic fj h x
theorem lY (x:fE)(h:eZ):fu fj h x.c [.aA .i64 x.aA,.aA .i64 x.aB,iD x.es]:=by rw[<-fE.aM];exact Dg fj h x
theorem sS (x:fG)(h:eZ):fu fj h x.c [fA x.aA,fA x.aB,fA x.aC]:=by rw[<-fG.aD];exact sR fj h x
attribute [go_sem] n7 iB l7
def px (P:Program)(f:FuncId):Prop:=fI P f=true/\∀(h:eZ)(r:Nat)(x:fm),nP h r x->x.aA.aL->fy P f [.aC r 21 0 0] h λres h'=>res=.aE x.aE.v/\h'=h
def oJ (P:Program)(f:FuncId):Prop:=fI P f=true/\∀(h:eZ)(r:Nat)(x:fm),nP h r x->jl x.aA.aA->fy P f [.aC r 21 0 0] h λres h'=>res=.aA .i64 x.aK/\h'=h
def tV (P:Program)(f:FuncId):Prop:=fI P f=true/\∀(h:eZ)(r:Nat)(x:fm)(n:Int),nP h r x->x.aA.aL->x.aE.aF (2^30)->fy P f [.aC r 21 0 0,.aA .i64 n] h λres h'=>res=.aD (x.aV n)/\h'=h
def p8 (P:Program)(f:FuncId):Prop:=fI P f=true/\∀(h:eZ)(r o:Nat),fy P f [.aC r 21 0 0,.aC o 5 0 0] h λres h'=>res=.aE [.aC r 21 0 0,.aC o 5 0 0]/\eY fj h h'
theorem Qb {P:Program}{f g:FuncId}(hf:Is P f (BH g))(hg:nM P g):px P f:=by refine⟨hf.2,λh r x hr hR=>fy.aB (K:=λres h'=>res=.aE x.aE.v/\eY fj h h') (fN hf ?_) (λr _ ⟨e,hx⟩=>⟨hx,r,by rw[e];exact gM.aA (sy _ _ _),e⟩)⟩;obtain⟨gg,ff,rr⟩:=hr;have lr:=(U_.1 rr).1;simp only[fm.aJ]at rr;have R1:∀a,(h++[a])[r]?=_:=λa=>(eY.b1 a).aA rr;have b:=λH=>hg.2 fj H x.aA _ (qV x.aA H) hR;simp only[fG.aD]at b;simp only[BH,go_sem,R1];refine fR hg.1 (b _) ?_;simp only[go_sem];exact⟨by unfold fm.aE;rw[fG.aD],eY.b2 _ _⟩
theorem Pw {P:Program}{f g:FuncId}(hf:Is P f (BF g))(hg:kj P g):oJ P f:=by refine⟨hf.2,λh r x hr hl=>fN hf ?_⟩;obtain⟨gg,ff,rr⟩:=hr;simp only[fm.aJ]at rr;simp only[BF,go_sem,rr];refine fR hg.1 (hg.2 fj h x.aA.aA _ (lY x.aA.aA h) hl) ?_;simp only[go_sem];rfl
theorem UO {P:Program}{f g v c:FuncId}(hf:Is P f (BI g v c))(hg:px P g)(hv:nL P v fG.aE)(hc:j_ P c):tV P f:=by
 refine⟨hf.2,λh r x n hr hR b=>fy.aB (K:=λres h'=>res=.aD (x.aV n)/\eY fj h h') (fN hf ?_) (λr _ ⟨e,hx⟩=>⟨hx,r,by rw[e];exact gM.aD _,e⟩)⟩;simp only[BI,go_sem];refine fR hg.1 (hg.2 h r x hr hR) ?_;simp only[go_sem];refine fq ⟨hv.1,hv.2 fj h x.aE _ (sR fj h x.aE) ⟨by have:=b.1;omega,by have:=b.2.1;omega,by have:=b.2.2;omega⟩⟩ ?_;rintro w H ⟨ow,hx⟩;simp only[go_sem];have vl:x.aE.aE.length<=2^40:=by have u:=th (x.aE.aA++x.aE.aB);simp only[Vj]at u;have:=b.1;have:=b.2.1;simp only[fG.aE];omega
 refine fR hc.1 (hc.2 (λ_=>True) H _ w n (e_.rd _ (λ_ _=>Vp) _ ow) vl) ?_;simp only[go_sem];exact⟨rfl,hx⟩
theorem K9 {P:Program}{f:FuncId}(hf:Is P f BC):p8 P f:=by refine⟨hf.2,λh r o=>fN hf ?_⟩;simp only[BC,go_sem];exact eY.b1 _
def qi (P:Program)(f:FuncId):Prop:=fI P f=true/\∀(L:Nat->Nat)(h:eZ)(r o:Nat)(x:RX)(l:Int),gS L h r o x->fy P f [.aC r 21 0 0,.aA .i64 l] h λ_ h'=>fF wA fj L h r o (x.aS l) h'
theorem NI {P:Program}{f:FuncId}(hf:Is P f BE):qi P f:=by refine⟨hf.2,λL h r o x l hx=>fN hf ?_⟩;obtain⟨R,out⟩:=x;obtain⟨⟨g,f',ra⟩,⟨ma,ca,aa,oa⟩,lt⟩:=hx;have rr:=ra.aA;have lr:=(U_.1 rr).1;simp only[fm.aJ]at rr;simp only[BE,go_sem,rr,lr,V8];exact gS.aD (R':=R.aR l) ra oa lt rfl rfl
def tU (P:Program)(f:FuncId):Prop:=fI P f=true/\∀(L:Nat->Nat)(h:eZ)(r o:Nat)(x:RX)(t v:Int),gS L h r o x->(x.o.aC.length+1)*216<=2^46->fy P f [.aE [.aC r 21 0 0,.aC o 5 0 0],.aA .i64 t,.aA .i64 v] h λ_ h'=>fF wA fj L h r o (x.aL t v) h'
theorem TK {P:Program}{f g:FuncId}(hf:Is P f (BU g))(hg:rN P g):tU P f:=by
 refine⟨hf.2,λL h r o x t v hx hb=>fN hf ?_⟩;obtain⟨R,out⟩:=x;have E:=hx.up (eY.b1 (some (fh.aA 2 [[.aC r 21 0 0,.aC o 5 0 0]] false)));obtain⟨⟨g',f',ra⟩,⟨ma,ca,aa,oa⟩,lt⟩:=E;have u:=hx.lt;have rr:=ra.aA;have lr:=(U_.1 rr).1;have B0:=gh h (some (fh.aA 2 [[.aC r 21 0 0,.aC o 5 0 0]] false));have lrh:r<h.length:=u r (by rw[ra.lr];omega);have ne:¬r=h.length:=by omega
 have X1:=eY.b1 (h:=h) (some (fh.aA 2 [[.aC r 21 0 0,.aC o 5 0 0]] false));simp only[fm.aJ]at rr;have C:r<h.length+1:=by omega
 simp only[BU,go_sem,rr,C,ne,B0,Vh,V8];have T:fF wA fj L (h++[some (fh.aA 2 [[.aC r 21 0 0,.aC o 5 0 0]] false)]) r o ⟨{R with aA:={R.aA with aB:=t,aE:=v}},out⟩ _:=gS.aC (R':={R with aA:={R.aA with aB:=t,aE:=v}}) ra oa lt rfl rfl;simp only[fm.aJ]at T;refine fq ⟨hg.1,fF.aL T (λ_ _ y=>y) λL1 x1=>(hg.2 fj L1 _ r o _ {fU.aD with aC:=1,aK:=t,aL:=v} .aB .aB .aB .aB .aB x1 (e_.aC 3) (e_.aC 1) (e_.aC 1) (e_.aC 1) (e_.aC 1) (λ_ y=>y.elim) hb).aA λ_ _ b=>b.aF me⟩ ?_;intro _ h' b;simp only[go_sem];exact fF.aB X1 b
def pA (P:Program)(f:FuncId):Prop:=fI P f=true/\∀(L:Nat->Nat)(h:eZ)(r o:Nat)(x:RX)(w:fO),gS L h r o x->w.aJ->x.r.aA.aN->(x.o.aD.length+1)*168<=2^46->
 fy P f [.aE [.aC r 21 0 0,.aC o 5 0 0],.aE w.aA] h λ_ h'=>fF wO fj L h r o (x.to w) h'
theorem TN {P:Program}{f g k:FuncId}(hf:Is P f (BV g k))(hg:ym P g)(hk:qt P k):pA P f:=by refine⟨hf.2,λL h r o x w hx hw t hb=>fN hf ?_⟩;obtain⟨R,out⟩:=x;have E:=λa b=>hx.up (eY.b2 (h:=h) a b);have lt:=hx.lt;obtain⟨⟨g',f',ra⟩,-,-⟩:=id hx;have rr:=ra.aA;simp only[fm.aJ]at rr;have R2:∀a b,(h++[a]++[b])[r]?=_:=λa b=>(eY.b2 a b).aA rr;have X2:=eY.b2 (h:=h) (some (fh.aA 2 [[.aC r 21 0 0,.aC o 5 0 0]] false)) (some (fh.aA 4 [w.aA] false));have B0:=iE h (some (fh.aA 2 [[.aC r 21 0 0,.aC o 5 0 0]] false)) (some (fh.aA 4 [w.aA] false));have u:=E (some (fh.aA 2 [[.aC r 21 0 0,.aC o 5 0 0]] false)) (some (fh.aA 4 [w.aA] false));have nx:=hg.2 (h++[some (fh.aA 2 [[.aC r 21 0 0,.aC o 5 0 0]] false)]++[some (fh.aA 4 [w.aA] false)]) w R.id R.aA R.aI R.aL hw t;simp only[fV.aM,fO.aA]at nx X2 B0 u;simp only[BV,fO.aA,go_sem,R2];refine fq ⟨hg.1,nx⟩ ?_;rintro _ H ⟨e,d,rfl,he,hd,hX⟩;have l2:=X2.1;simp only[kU]at he hd l2;have C:=u.up hX;have RH:=hX.aA (R2 _ _);have C0:=hX.aA B0;have C1:=hX.aA (iq h (some (fh.aA 2 [[.aC r 21 0 0,.aC o 5 0 0]] false)) (some (fh.aA 4 [[.aA .i64 w.aB,.aA .i64 w.aD,.aA .i64 w.aC,.aA .i64 w.aF]] false)));rw[gF];simp only[go_sem,RH,C0,C1];refine fq ⟨hk.1,hk.2 (λn=>h.length+2<=n) L H r o _ _ e d C he hd (λn hn=>Vm λz=>by have:=lt n z;omega) hb⟩ ?_;intro _ h' T;have XX:=X2.tr hX;rw[gF];simp only[go_sem];exact (fF.aB XX T).aT λm hm (y:h.length+2<=m)=>by omega
end Glb
