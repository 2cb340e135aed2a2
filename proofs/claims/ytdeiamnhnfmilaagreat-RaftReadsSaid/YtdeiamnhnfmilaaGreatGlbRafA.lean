/-
  A library of its own.
-/
import Derived.Test.YtdeiamnhnfmilaaGreatGlbConE
import Derived.Test.YtdeiamnhnfmilaaGreatGlbFloB
import Derived.Test.YtdeiamnhnfmilaaGreatGlbVotA
set_option linter.unusedSimpArgs false
set_option linter.unusedVariables false
set_option maxRecDepth 10000
set_option maxHeartbeats 8000000
namespace Glb
open Go
structure eZ where
 id:Int
 aA:fF
 aE:Int
 aH:Int
 aG:Int
 aX:Int
 aK:Int
 aY:Int
 aI:List Int
 aC:List fR
 aL:Int
 aO:Int
 deriving DecidableEq
structure kT where
 aD:List fE
 aA:List fZ
 aF:List fT
 aE:Int
 aC:Bool
 deriving DecidableEq
structure RX where
 r:eZ
 o:kT
 deriving DecidableEq
def kT.aG:kT:=⟨[],[],[],0,false⟩
def fE.aI:fE:=⟨0,0,0,0,0,0,0,0,0,0,0,0,0,0,false,[],[]⟩
def fZ.aI:fZ:=⟨0,0,0,0,0,⟨0,0,[]⟩,⟨[],[],[]⟩,[],⟨0,0,0,0,0⟩⟩
def eZ.aU (id:Int)(h:fF)(draw:Int):eZ:=⟨id,h,h.aA.aA,h.aA.aA,0,0,0,lZ draw,[],[],0,0⟩
def eZ.aN (r:eZ):fq:=r.aA.of.1
def eZ.aM (r:eZ):Int:=r.aA.aA.aC
def eZ.aZ (r:eZ)(node:Int):Bool:=decide (node∈r.aN.aI)
def eZ.aW (r:eZ)(leader:Int):eZ:={r with aG:=0,aX:=leader,aC:=[],aI:=[]}
def RX.aK (x:RX)(m:fE):RX:={x with o:={x.o with aD:=x.o.aD++[{m with aC:=x.r.id,aM:=x.r.aA.aE,aF:=x.r.aA.aC}]}}
def RX.aX (x:RX)(c:fZ):RX:={x with o:={x.o with aA:=x.o.aA++[{c with aH:=x.r.aA.aE}]}}
def RX.aI (x:RX)(term voted:Int):RX:=({x with r:={x.r with aA:={x.r.aA with aC:=term,aF:=voted}}}:RX).aX {fZ.aI with aC:=1,aK:=term,aL:=voted}
def RX.aL (x:RX)(leader:Int):RX:={x with r:=x.r.aW leader}
def RX.to (x:RX)(f:fR):RX:=x.aK (f.aI x.r.id x.r.aA x.r.aE x.r.aL)
def RX.aO (x:RX)(l:List fR):RX:=l.foldl RX.to x
def lK (was:List fR)(node last:Int):fR:=(was.find? λf=>decide (f.aD=node)).getD ⟨node,last+1,0,0⟩
def eZ.bx (r:eZ)(was:List fR)(last:Int):eZ:={r with aC:=(r.aN.aL.filter λn=>!decide (n=r.id)).map λn=>lK was n last}
def RX.aF (x:RX)(kind:Int)(data:List Int):RX:=
 let last:=x.r.aM
 let l:=x.r.aA.aA.aE last [⟨x.r.aA.aC,kind,data⟩]
 let y:RX:=({x with r:={x.r with aA:={x.r.aA with aA:=l}}}:RX).aX {fZ.aI with aC:=2,aE:=last+1,aA:=⟨0,0,l.aI (last+1) 1⟩}
 if kind=2 then {y with r:=y.r.bx y.r.aC last} else y
def eZ.bz (r:eZ):Int:=r.aN.aO (r.id :: r.aC.map fR.aD) (r.aM :: r.aC.map fR.aE)
def eZ.aV (r:eZ):eZ:=if r.aE<r.bz/\r.aA.aA.aF r.bz=true/\r.aA.aA.aJ r.bz=r.aA.aC then {r with aE:=r.bz} else r
def RX.aH (x:RX):RX:={x with r:=x.r.aV}
def RX.on (x:RX):RX:=x.aO x.r.aC
def RX.aN (x:RX):RX:=
 let r:eZ:={x.r with aG:=2,aX:=x.r.id,aO:=0,aI:=[],aC:=[]}
 ((({x with r:=r.bx [] r.aM}:RX).aF 0 []).on).aH
def eZ.aT (r:eZ):eZ:=if r.aG=2/\r.aA.of.2<=r.aE/\r.aZ r.id=false then r.aW 0 else r
def RX.aA (x:RX):RX:=
 let r:=x.r.aT
 if r.aE<=r.aH then ⟨r,x.o⟩ else ⟨{r with aH:=r.aE},{x.o with aE:=r.aH+1,aF:=r.aA.aA.aI (r.aH+1) (r.aE-r.aH)}⟩
def RX.aM (x:RX)(l:List fE):RX:=l.foldl RX.aK x
def RX.aV (x:RX)(draw:Int):RX:=
 let y:=(x.aI (x.r.aA.aC+1) x.r.id).aL 0
 let z:RX:={y with r:={y.r with aG:=1,aK:=0,aY:=lZ draw,aI:=[y.r.id]}}
 if z.r.aN.aF z.r.aI then z.aN else z.aM (kj z.r.id z.r.aA.aE z.r.aA.aC z.r.aA.aA z.r.aN)
def eZ.aF (r:eZ):RX:=⟨r,kT.aG⟩
def eZ.aQ (r:eZ)(draw:Int):RX:=
 if r.aG=2 then (if r.aO+1≥2 then (({r with aO:=0}:eZ).aF).on else ({r with aO:=r.aO+1}:eZ).aF).aA
 else
  let s:eZ:={r with aK:=r.aK+1}
  (if s.aY<=s.aK/\s.aZ s.id=true/\s.aA.aC<2^40/\s.aM<2^40 then s.aF.aV draw else s.aF).aA
def RX.aQ (x:RX)(m:fE):RX:=
 let ok:=mo x.r.aA.aC x.r.aA.aF x.r.aA.aA m
 let y:RX:=if ok then (let z:RX:={x with r:={x.r with aK:=0}};if z.r.aA.aF=m.aC then z else z.aI z.r.aA.aC m.aC) else x
 y.aK {fE.aI with aD:=2,to:=m.aC,ok:=ok}
def RX.aU (x:RX)(m:fE):RX:=
 if ¬x.r.aG=1\/m.ok=false\/m.aC∈x.r.aI\/x.r.aZ m.aC=false then x else
 let y:RX:={x with r:={x.r with aI:=x.r.aI++[m.aC]}}
 if y.r.aN.aF y.r.aI then y.aN else y
def RX.aS (x:RX)(m:fE)(ok:Bool)(index:Int):RX:=x.aK {fE.aI with aD:=4,to:=m.aC,ok:=ok,aA:=index,aK:=m.aK}
def RX.aJ (x:RX)(m:fE):RX:=
 if m.aA<x.r.aA.aA.aA then x.aS m true x.r.aE else
 if x.r.aA.aA.aF m.aA=false\/¬x.r.aA.aA.aJ m.aA=m.aH then x.aS m false (max 0 (min x.r.aM (m.aA-1))) else
 let l:=x.r.aA.aA.aE m.aA m.es
 let at':=x.r.aA.aA.aH m.aA m.es
 if 0<at'/\at'<=x.r.aE then x else
 let y:RX:=if 0<at' then ({x with r:={x.r with aA:={x.r.aA with aA:=l}}}:RX).aX {fZ.aI with aC:=2,aE:=at',aA:=⟨0,0,l.aI at' l.es.length⟩} else x
 ({y with r:={y.r with aE:=max y.r.aE (min m.aJ (m.aA+m.es.length))}}:RX).aS m true (m.aA+m.es.length)
def tg (l:List fR)(node:Int):Option Nat:=l.findIdx? λf=>decide (f.aD=node)
def RX.aP (x:RX)(m:fE):RX:=
 if ¬x.r.aG=2 then x else
 match tg x.r.aC m.aC with
 | none=>x
 | some i=>
  let f:=((x.r.aC[i]?).getD ⟨0,0,0,0⟩).aF m
  let y:RX:={x with r:={x.r with aC:=x.r.aC.set i f}}
  let z:=if m.ok then y.aH else y
  if m.ok=false\/f.aC<=z.r.aM then z.to f else z
def eZ.aS (r:eZ)(base term:Int):fu:=if r.aA.aA.aF base=true/\r.aA.aA.aJ base=term then r.aA.aA.aK base else ⟨base,term,[]⟩
def RX.aW (x:RX)(base term:Int)(c:fq)(snap:List Int):RX:=
 ({x with r:={x.r with aA:={x.r.aA with aA:=x.r.aS base term,aD:=c,aG:=snap}}}:RX).aX {fZ.aI with aC:=3,aA:=⟨base,term,[]⟩,aG:=c,aJ:=snap}
def iH (l:List Int):List Int×List Int×Int:=
 let a:=ny.aA (some l)
 let b:=ny.aA a.2
 (a.1,b.1,b.2.aD)
def RX.aR (x:RX)(m:fE):RX:=
 if m.aA<=x.r.aE then x.aS m true x.r.aE else
 let s:=iH m.aG
 if ¬s.2.2=0\/¬(ie s.1).2=0 then x else
 let y:=x.aW m.aA m.aH (ie s.1).1 s.2.1
 (⟨{y.r with aE:=m.aA,aH:=m.aA},{y.o with aC:=true}⟩:RX).aS m true m.aA
def RX.aT (x:RX)(m:fE):RX:=
 if ¬m.aM=x.r.aA.aE\/m.aD<1\/5<m.aD\/(m.aD=1/\x.r.aZ m.aC=false) then x else
 let y:=if x.r.aA.aC<m.aF then (x.aI m.aF 0).aL 0 else x
 if m.aF<y.r.aA.aC then
  (if m.aD=1 then y.aK {fE.aI with aD:=2,to:=m.aC} else if m.aD=3\/m.aD=5 then y.aK {fE.aI with aD:=4,to:=m.aC} else y)
 else if m.aD=1 then y.aQ m else if m.aD=2 then y.aU m else if m.aD=4 then y.aP m
 else if y.r.aG=2 then y else
  let z:RX:={y with r:={y.r.aW m.aC with aK:=0}}
  if m.aD=3 then z.aJ m else z.aR m
def eZ.a_ (r:eZ)(m:fE):RX:=(r.aF.aT m).aA
def eZ.aP (r:eZ)(kind:Int)(data:List Int):Int×RX×Int:=
 if ¬r.aG=2 then (0,r.aF,30) else
 if ¬kind=1/\¬kind=2 then (0,r.aF,13) else
 if kind=2/\¬(ie data).2=0 then (0,r.aF,4) else
 if 2^40<=r.aM then (0,r.aF,17) else
 (r.aM+1,(((r.aF.aF kind data).on).aH).aA,0)
def eZ.aR (r:eZ):Int×RX×Int:=
 if ¬r.aG=2 then (0,r.aF,30) else
 if r.aA.aA.aF r.aE=false\/¬r.aA.aA.aJ r.aE=r.aA.aC then (0,r.aF,11) else
 (r.aL+1,({r with aL:=r.aL+1}:eZ).aF.on,0)
def eZ.bB (r:eZ)(round:Int):Bool:=
 if ¬r.aG=2\/round<1\/r.aL<round then false else
 r.aN.aF (r.id :: (r.aC.filter λf=>decide (round<=f.aG)).map fR.aD)
def eZ.bE (r:eZ)(index:Int)(snap:List Int):RX×Int:=
 if index<=r.aA.aA.aA\/r.aH<index then (r.aF,3) else
 let up:fF:={r.aA with aA:={r.aA.aA with es:=r.aA.aA.es.take (index-r.aA.aA.aA).toNat}}
 ((r.aF.aW index (r.aA.aA.aJ index) up.of.1 snap).aA,0)
theorem qA (l:fu)(e:fT):l.aE l.aC [e]=⟨l.aA,l.aD,l.es++[e]⟩:=by
 have h1:l.aF l.aC=true:=by unfold fu.aF fu.aC;simp;omega
 have h2:l.aF (l.aC+1)=false:=by unfold fu.aF;simp;omega
 have h3:l.aG (l.aC+1) [e]=0:=by simp[fu.aG,h2]
 unfold fu.aE;rw[Uv ⟨h1,by rw[h3];simp⟩,h3];congr 1;rw[show (l.aC+((0:Nat):Int)-l.aA).toNat=l.es.length by unfold fu.aC;omega];simp
theorem CJ (l:fu)(e:fT):(l.aE l.aC [e]).aI (l.aC+1) 1=[e]:=by
 rw[qA];unfold fu.aI;have h:(⟨l.aA,l.aD,l.es++[e]⟩:fu).aC=l.aC+1:=by unfold fu.aC;simp;omega
 rw[h,Uw (by unfold fu.aC;simp only;omega)];simp only;rw[show (l.aC+1-l.aA-1).toNat=l.es.length by unfold fu.aC;omega];simp
theorem GJ {sz bytes:Nat}{F F0 Q:Nat->Prop}{ds es:List (List D)}{h0 h:eW}{av:AV}{ys:List (List AV)}(ho:eX (.sl sz ds) F0 h0 av)(hc:gP h0 av)
  (hx:eV eY h0 h) (hy:fG es Q h ys) (hQ:∀m,Q m->F m/\¬F0 m) (h0F:∀m,F0 m->F m) (hF:∀m,h0.length<=m->F m) (hb:(ds.length+es.length)*bytes<=2^46):
  ∃av' h',ij h sz bytes av ys=some (av',h')/\eX (.sl sz (ds++es)) F h' av'/\gP h' av'/\eV F0 h h':=by
 have hyl:=oE hy;have fresh:∀(hh:eW) (dd:List (List D)) (es':List (List AV)),F hh.length->fG dd F hh es'->
   eX (.sl sz dd) F (gM hh sz es').2 (gM hh sz es').1/\gP (gM hh sz es').2 (gM hh sz es').1:=by
  intro hh dd es' hl hd;have hlen:=oE hd;refine⟨?_,⟨es',true,by simp[gM],(λ_=>rfl),(λc hc=>by cases hc)⟩⟩;simp only[eX,gM];refine .inr (.inr ⟨hh.length,0,none,es',true,by rw[hlen],hl,by simp,by omega,(λc hc=>by cases hc),?_⟩);have:(es'.drop 0).take dd.length=es':=by rw[Vy,UU (by omega)]
  rw[this];refine fG.aA dd (λm hm=>⟨hm.1,by have:=hm.2;omega⟩) ?_ _ (fG.lt dd _ hd);intro m hm x hx;rw[UZ hm.2];exact hx
 simp only[eX]at ho;rcases ho with⟨rfl,rfl⟩ | ⟨t,c,rfl,rfl⟩ | ⟨n,off,cap,row,g,rfl,hn0,hrow,hle,hcl,hd0⟩
 · -- nothing yet
  have hy':fG es F h ys:=fG.aA es (λm hm=>(hQ _ hm).1) (λ_ _ _ x=>x) _ hy;obtain⟨a,b⟩:=fresh h es ys (hF _ hx.1) hy';refine⟨_,_,?_,by simpa using a,b,?_⟩;·simp only[ij];rw[Uv (by rw[hyl];simpa using hb)]
  ·exact eV.aF _ _ _
 ·have hc1:c=true:=hc;subst hc1;have hy':fG es F h ys:=fG.aA es (λm hm=>(hQ _ hm).1) (λ_ _ _ x=>x) _ hy;simp only[ij];rw[Uv ⟨UF,by rw[hyl];simpa using hb⟩];by_cases hy0:ys.length=0;·rw[Uv hy0];have hes:es=[]:=Uz (by omega);subst hes;refine⟨_,_,rfl,?_,rfl,eV.aC _ _⟩;simp only[eX];exact .inr (.inl ⟨t,true,rfl,rfl⟩)
  ·rw[Uw hy0,Uv UF];obtain⟨a,b⟩:=fresh h es ys (hF _ hx.1) hy';exact⟨_,_,rfl,by simpa [gM] using a,b,eV.aF _ _ _⟩
 ·have hn:F n:=h0F _ hn0;have hd:fG ds (λm=>F m/\m≠n) h0 ((row.drop off).take ds.length):=fG.aA ds (λm hm=>⟨h0F _ hm.1,hm.2⟩) (λ_ _ _ x=>x) _ hd0;obtain⟨row',g',hrow',hcn,hcs⟩:=hc;rw[hrow]at hrow';obtain⟨rfl,rfl⟩:row=row'/\g=g':=by simpa using hrow'
  have hnlt:=(Up.1 hrow).1;have hrow1:h[n]?=some (some (.aA sz row g)):=hx.aA hrow;have hnlt1:=(Up.1 hrow1).1;have hd1:fG ds (λm=>F m/\m≠n) h ((row.drop off).take ds.length):=fG.aA ds (λm hm=>hm) (hx.aE _) _ hd;have hy1:fG es (λm=>F m/\m≠n) h ys:=fG.aA es (λm hm=>⟨(hQ _ hm).1,by rintro rfl;exact (hQ _ hm).2 hn0⟩) (λ_ _ _ x=>x) _ hy;have both:fG (ds++es) F h ((row.drop off).take ds.length++ys):=fG.aA _ (λm hm=>hm.1) (λ_ _ _ x=>x) _ (ni hd1 hy1);simp only[ij,hrow1];rw[Uv ⟨UF,UF,hle,by rw[hyl];exact hb⟩];cases cap with
  | none=>
   obtain rfl:=hcn rfl;simp only[Vm];have both':fG (ds++es) F (h.set n none) (row.take ds.length++ys):=by have:=ni hd1 hy1;rw[Vy]at this;exact fG.aA _ (λm hm=>hm.1) (λm hm x hx=>by rw[Uq (λe=>hm.2 e.symm)];exact hx) _ this
   obtain⟨a,b⟩:=fresh (h.set n none) (ds++es) (row.take ds.length++ys) (by rw[UA];exact hF _ hx.1) both';exact⟨_,_,rfl,a,b,(eV.aI none (λ_=>hn0)).aD (eV.aF F0 _ _) (λ_ _ x=>x) (λ_ _ x=>x)⟩
  | some c=>
   have hc1:=hcl c rfl;have hc2:=hcs c rfl;cases c with
   | zero=>
    have h0:ds.length=0:=by omega
    have hds:ds=[]:=Uz h0;subst hds;simp only[UJ,Vm];by_cases hy0:ys.length=0;·rw[Uv hy0];have hes:es=[]:=Uz (by omega);subst hes;refine⟨_,_,rfl,?_,⟨row,g,hrow1,(λe=>by cases e),(λc hc=>by cases hc;omega)⟩,eV.aC _ _⟩;simp only[eX];exact .inr (.inr ⟨n,off,some 0,row,g,rfl,hn,hrow1,by simpa using hle,(λc hc=>by cases hc;simp),by simp[fG]⟩)
    ·rw[Uw hy0];have hy2:fG es F h ys:=fG.aA es (λm hm=>hm.1) (λ_ _ _ x=>x) _ hy1;obtain⟨a,b⟩:=fresh h es ys (hF _ hx.1) hy2;exact⟨_,_,rfl,by simpa [gM] using a,b,eV.aF _ _ _⟩
   | succ c=>
    simp only;by_cases hcap:c+1<ds.length+ys.length;·rw[Uv hcap];obtain⟨a,b⟩:=fresh h (ds++es) _ (hF _ hx.1) both;exact⟨_,_,rfl,a,b,eV.aF _ _ _⟩
    ·rw[Uw hcap,Uv (by omega)];have hsl:(gZ row (off+ds.length) ys).length=row.length:=by simp[gZ];omega
     refine⟨_,_,rfl,?_,⟨_,g,by rw[Ux hnlt1],(λe=>by cases e),(λc' hc'=>by cases hc';rw[hsl];exact hc2)⟩,eV.aI _ (λ_=>hn0)⟩;simp only[eX];refine .inr (.inr ⟨n,off,some (c+1),gZ row (off+ds.length) ys,g,by rw[Ut,hyl],hn,by rw[Ux hnlt1],by rw[hsl,Ut];omega,
      (λc' hc'=>by cases hc';rw[Ut];omega),?_⟩)
     have e:((gZ row (off+ds.length) ys).drop off).take (ds++es).length=(row.drop off).take ds.length++ys:=by
      apply Vf;intro i;simp only[Vp,UR,Ut,gZ,Vu,UD,Ut,UP];rw[show min (off+ds.length) row.length=off+ds.length by omega,show min ds.length (row.length-off)=ds.length by omega];by_cases h1:i<ds.length;·rw[Uv (by omega),Uv (by omega),Uv (by omega),Uv (by omega),Uv h1];simp[h1]
      ·by_cases h2:i<ds.length+es.length
       ·rw[Uv h2,Uv (by omega),Uw (by omega),Uw h1];congr 1;omega
       ·rw[Uw h2,Uw h1,U8 (by omega)]
     rw[e];refine fG.aA _ (λm hm=>hm) ?_ _ (ni hd1 hy1);intro m hm x hx;rw[Uq (λe=>hm.2 e.symm)];exact hx
def nD (l:List fR):D:=.sl 4 (l.map fR.c)
def eZ.aJ (x:eZ)(g f:AV):List AV:=[.aA .i64 x.id,.aA .i64 x.aA.aE,.aA .i64 x.aA.aC,.aA .i64 x.aA.aF,.aA .i64 x.aA.aA.aA,.aA .i64 x.aA.aA.aD,ki x.aA.aA.es,gG x.aA.aD.aA,gG x.aA.aD.aC,gG x.aA.aD.aD,i9 x.aA.aG,
 .aA .i64 x.aE,.aA .i64 x.aH,.aA .i64 x.aG,.aA .i64 x.aX,.aA .i64 x.aK,.aA .i64 x.aY,g,f,.aA .i64 x.aL,.aA .i64 x.aO]
structure nQ (L:Nat->Nat)(h:eW)(r:Nat)(x:eZ)(g f:AV):Prop where
 aA:h[r]?=some (some (.aA 21 [x.aJ g f] false))
 go:eX (fM x.aI) (λm=>L m=1) h g
 gc:gP h g
 fo:eX (nD x.aC) (λm=>L m=2) h f
 fc:gP h f
 lr:L r=6
structure pf (L:Nat->Nat)(h:eW)(o:Nat)(x:kT)(ma ca aa:AV):Prop where
 aA:h[o]?=some (some (.aA 5 [[ma,ca,aa,.aA .i64 x.aE,.aE x.aC]] false))
 m:eX (td x.aD) (λm=>L m=3) h ma
 mc:gP h ma
 c:eX (nV x.aA) (λm=>L m=4) h ca
 cc:gP h ca
 a:eX (gN x.aF) (λm=>L m=5) h aa
 lo:L o=7
structure g_ (L:Nat->Nat)(h:eW)(r o:Nat)(x:RX):Prop where
 r:∃g f,nQ L h r x.r g f
 o:∃ma ca aa,pf L h o x.o ma ca aa
 lt:∀m,L m≠0->m<h.length
def wO:Nat->Prop:=λk=>k=3\/k=4\/k=5\/k=7
def wA:Nat->Prop:=λk=>k≠0
def fy (W Q:Nat->Prop)(L:Nat->Nat)(h:eW)(r o:Nat)(x:RX)(h':eW):Prop:=∃L',g_ L' h' r o x/\(∀m,m<h.length->L m≠0\/¬Q m->L' m=L m)/\eV (λm=>W (L m)\/Q m) h h'
theorem nQ.aC {L h r x g f L' h'}(a:nQ L h r x g f)(hL:∀m,m<h.length->L m≠0->L' m=L m) (hk:∀m,m<h.length->L m=1\/L m=2\/L m=6->h'[m]?=h[m]?):nQ L' h' r x g f:=by have lr:=(Up.1 a.aA).1;have gl:=eX.lt _ _ a.go;have fl:=eX.lt _ _ a.fo;have kg:gS (λm=>L m=1/\m<h.length) h h':=λm hm y hy=>(hk m hm.2 (.inl hm.1)).trans hy;have kf:gS (λm=>L m=2/\m<h.length) h h':=λm hm y hy=>(hk m hm.2 (.inr (.inl hm.1))).trans hy;exact⟨(hk r lr (.inr (.inr a.lr))).trans a.aA,eX.aC _ (λm hm=>(hL m hm.2 (by rw[hm.1];omega)).trans hm.1) kg _ gl,a.gc.aA gl kg,eX.aC _ (λm hm=>(hL m hm.2 (by rw[hm.1];omega)).trans hm.1) kf _ fl,a.fc.aA fl kf,(hL r lr (by rw[a.lr];omega)).trans a.lr⟩
theorem pf.aC {L h o x ma ca aa L' h'}(a:pf L h o x ma ca aa)(hL:∀m,m<h.length->L m≠0->L' m=L m) (hk:∀m,m<h.length->L m=3\/L m=4\/L m=5\/L m=7->h'[m]?=h[m]?):pf L' h' o x ma ca aa:=by have lr:=(Up.1 a.aA).1;have ml:=eX.lt _ _ a.m;have cl:=eX.lt _ _ a.c;have al:=eX.lt _ _ a.a;have km:gS (λm=>L m=3/\m<h.length) h h':=λm hm y hy=>(hk m hm.2 (.inl hm.1)).trans hy;have kc:gS (λm=>L m=4/\m<h.length) h h':=λm hm y hy=>(hk m hm.2 (.inr (.inl hm.1))).trans hy;have ka:gS (λm=>L m=5/\m<h.length) h h':=λm hm y hy=>(hk m hm.2 (.inr (.inr (.inl hm.1)))).trans hy;exact⟨(hk o lr (.inr (.inr (.inr a.lo)))).trans a.aA,eX.aC _ (λm hm=>(hL m hm.2 (by rw[hm.1];omega)).trans hm.1) km _ ml,a.mc.aA ml km,eX.aC _ (λm hm=>(hL m hm.2 (by rw[hm.1];omega)).trans hm.1) kc _ cl,a.cc.aA cl kc,eX.aC _ (λm hm=>(hL m hm.2 (by rw[hm.1];omega)).trans hm.1) ka _ al,(hL o lr (by rw[a.lo];omega)).trans a.lo⟩
theorem g_.up {L h r o x h'}(a:g_ L h r o x)(hx:eV eY h h'):g_ L h' r o x:=by obtain⟨⟨g,f,ra⟩,⟨ma,ca,aa,oa⟩,lt⟩:=a;exact⟨⟨g,f,ra.aC (λ_ _ _=>rfl) λm hm _=>hx.2 m hm (λy=>y)⟩,⟨ma,ca,aa,oa.aC (λ_ _ _=>rfl) λm hm _=>hx.2 m hm (λy=>y)⟩,λm hm=>UM (lt m hm) hx.1⟩
theorem g_.to {W Q L h r o x}(a:g_ L h r o x):fy W Q L h r o x h:=⟨L,a,λ_ _ _=>rfl,eV.aC _ _⟩
theorem fy.aF {W Q Q' L L1 h r o h' x' h''}(l1:∀m,m<h.length->L m≠0\/¬Q m->L1 m=L m) (e1:eV (λm=>W (L m)\/Q m) h h') (hQ:∀m,m<h.length->Q' m->Q m) (b:fy W Q' L1 h' r o x' h''):fy W Q L h r o x' h'':=by
 obtain⟨L2,x2,l2,e2⟩:=b;have hh:=e1.1;have st:∀m,m<h.length->L m≠0\/¬Q m->L1 m≠0\/¬Q' m:=λm hm c=>by
  rcases c with c | c;·left;rw[l1 m hm (.inl c)];exact c
  ·right;exact λz=>c (hQ m hm z)
 refine⟨L2,x2,λm hm c=>(l2 m (by omega) (st m hm c)).trans (l1 m hm c),e1.aD e2 (λ_ _ y=>y) (λm hm y=>?_)⟩;rcases y with y | y
 ·by_cases c:L m≠0\/¬Q m
  ·left;rw[l1 m hm c]at y;exact y
  ·right;exact UC λz=>c (.inr z)
 ·exact .inr (hQ m hm y)
theorem fy.aK {P:Program}{f:FuncId}{u:List AV}{W Q Q' L h r o x h' x'}(a:fy W Q L h r o x h')(hQ:∀m,m<h.length->Q' m->Q m)(hc:∀L',g_ L' h' r o x->fC P f u h' λ_ e=>fy W Q' L' h' r o x' e):fC P f u h' λ_ e=>fy W Q L h r o x' e:=by obtain⟨L1,x1,l1,e1⟩:=a;exact (hc L1 x1).aA λv e b=>fy.aF l1 e1 hQ b
theorem fy.up {W Q L h r o x h' h''}(a:fy W Q L h r o x h')(hx:eV eY h' h''):fy W Q L h r o x h'':=by obtain⟨L1,x1,l1,e1⟩:=a;exact⟨L1,x1.up hx,l1,e1.aD hx (λ_ _ y=>y) (λ_ _ y=>y.elim)⟩
theorem fy.aT {W Q Q' L h r o x h'}(a:fy W Q L h r o x h')(hQ:∀m,m<h.length->Q m->Q' m):fy W Q' L h r o x h':=by obtain⟨L1,x1,l1,e1⟩:=a;exact⟨L1,x1,λm hm c=>l1 m hm (c.imp id λz y=>z (hQ m hm y)),e1.aK λm hm y=>y.imp id (hQ m hm)⟩
theorem fy.aC {W Q L h r o x h1 h'}(hx:eV eY h h1)(a:fy W Q L h1 r o x h'):fy W Q L h r o x h':=by obtain⟨L1,x1,l1,e1⟩:=a;have hh:=hx.1;exact⟨L1,x1,λm hm c=>l1 m (by omega) c,hx.aD e1 (λ_ _ y=>y.elim) (λ_ _ y=>y)⟩
theorem fy.aG {W W' Q L h r o x h'}(a:fy W Q L h r o x h')(hW:∀k,W k->W' k):fy W' Q L h r o x h':=by obtain⟨L1,x1,l1,e1⟩:=a;exact⟨L1,x1,l1,e1.aK λm _ y=>y.imp (hW _) id⟩
theorem mO:∀k,wO k->wA k:=λk h=>by unfold wO at h;unfold wA;omega
theorem g_.aD {Q L h r o R R' out g f ma ca aa}(ra:nQ L h r R g f)(oa:pf L h o out ma ca aa)(lt:∀m,L m≠0->m<h.length)(e1:R'.aI=R.aI)(e2:R'.aC=R.aC):
  fy wA Q L h r o ⟨R',out⟩ (h.set r (some (.aA 21 [R'.aJ g f] false))):=by
 have lr:=(Up.1 ra.aA).1;have ne:∀m,L m≠6->(h.set r (some (.aA 21 [R'.aJ g f] false)))[m]?=h[m]?:=λm hm=>Uq (by rintro rfl;exact hm ra.lr);have kg:gS (λm=>L m=1) h (h.set r (some (.aA 21 [R'.aJ g f] false))):=λm hm y hy=>(ne m (by omega)).trans hy;have kf:gS (λm=>L m=2) h (h.set r (some (.aA 21 [R'.aJ g f] false))):=λm hm y hy=>(ne m (by omega)).trans hy;refine⟨L,⟨⟨g,f,Ux lr,?_,ra.gc.aA ra.go kg,?_,ra.fc.aA ra.fo kf,ra.lr⟩,⟨ma,ca,aa,oa.aC (λ_ _ _=>rfl) λm hm y=>ne m (by omega)⟩,λm hm=>by rw[UA];exact lt m hm⟩,λ_ _ _=>rfl,eV.aI _ λ_=>.inl (by rw[ra.lr];unfold wA;omega)⟩;·rw[e1];exact eX.aC _ (λ_ y=>y) kg _ ra.go
 ·rw[e2];exact eX.aC _ (λ_ y=>y) kf _ ra.fo
theorem g_.aE {Q L h r o R R' out g f ma ca aa}(ra:nQ L h r R g f)(oa:pf L h o out ma ca aa)(lt:∀m,L m≠0->m<h.length) (e1:R'.aI=[]) (e2:R'.aC=[]):
  fy wA Q L h r o ⟨R',out⟩ (h.set r (some (.aA 21 [R'.aJ .aD .aD] false))):=by
 have lr:=(Up.1 ra.aA).1;have ne:∀m,L m≠6->(h.set r (some (.aA 21 [R'.aJ .aD .aD] false)))[m]?=h[m]?:=λm hm=>Uq (by rintro rfl;exact hm ra.lr);refine⟨L,⟨⟨.aD,.aD,Ux lr,?_,UF,?_,UF,ra.lr⟩,⟨ma,ca,aa,oa.aC (λ_ _ _=>rfl) λm hm y=>ne m (by omega)⟩,λm hm=>by rw[UA];exact lt m hm⟩,λ_ _ _=>rfl,eV.aI _ λ_=>.inl (by rw[ra.lr];unfold wA;omega)⟩;·rw[e1];exact eX.aD 1
 ·rw[e2];exact eX.aD 4
open Classical in
noncomputable def k_ (L:Nat->Nat) (Q:Nat->Prop) (a b k:Nat):Nat->Nat:=λm=>if L m=0/\m<b/\(Q m\/a<=m) then k else L m
theorem lW {L Q a b k m}(h:L m≠0\/(¬Q m/\m<a)):k_ L Q a b k m=L m:=by
 unfold k_;rw[Uw];rintro⟨h1,-,h2⟩;rcases h with h | ⟨h3,h4⟩;·exact h h1
 ·rcases h2 with h2 | h2;·exact h3 h2
  ·omega
theorem tQ {L Q a b k m}(h1:L m=0)(hb:m<b)(h:Q m\/a<=m):k_ L Q a b k m=k:=by unfold k_;rw[Uv ⟨h1,hb,h⟩]
theorem tP {L Q a b k m}(hl:L m≠0->m<b)(h:k_ L Q a b k m≠0):m<b:=by
 unfold k_ at h;split at h;·rename_i c;exact c.2.1
 ·exact hl h
def tq (L:Nat->Nat)(Q:Nat->Prop)(a k n:Nat):Prop:=L n=k\/(L n=0/\(Q n\/a<=n))
theorem g_.aG {Q L h r o R out g f ma ca aa}(ra:nQ L h r R g f)(oa:pf L h o out ma ca aa)(lt:∀m,L m≠0->m<h.length){m:fE}{e d:AV}{h1:eW}(hx:eV eY h h1)(he:eX (gN m.es) Q h e)(hd:eX (gj m.aG) Q h d)
  (hQ:∀n,Q n->L n=0) (hb:(out.aD.length+1)*168<=2^46):
  ∃u h2,ij h1 17 168 ma [m.aE e d]=some (u,h2)/\u.aH=true/\eV (λn=>L n=3) h1 h2/\h2[o]?=some (some (.aA 5 [[ma,ca,aa,.aA .i64 out.aE,.aE out.aC]] false)) /\
   fy wO Q L h r o ⟨R,{out with aD:=out.aD++[m]}⟩ (h2.set o (some (.aA 5 [[u,ca,aa,.aA .i64 out.aE,.aE out.aC]] false))):=by
 have hi:fG [m.c] (λn=>Q n/\n<h.length) h1 [m.aE e d]:=by
  refine fG.aA [m.c] (λ_ y=>y) (λn hn y hy=>hx.aA hy) _ ?_
  refine fG.lt [m.c] _ ?_
  simp only[fG,fI,eX,fE.c,fE.aE]
  exact⟨_,_,rfl,⟨_,_,rfl,rfl,_,_,rfl,rfl,_,_,rfl,rfl,_,_,rfl,rfl,_,_,rfl,rfl,_,_,rfl,rfl,_,_,rfl,rfl,_,_,rfl,rfl,_,_,rfl,rfl,_,_,rfl,rfl,_,_,rfl,rfl,_,_,rfl,rfl,_,_,rfl,rfl,_,_,rfl,rfl,_,_,rfl,rfl,_,_,rfl,he,_,_,rfl,hd,rfl⟩,rfl⟩
 have ge:∀n,h.length<=n->L n=0:=λn hn=>UC λz=>by have:=lt n z;omega
 have I:=oa.aC (h':=h1) (λ_ _ _=>rfl) (λn hn _=>hx.2 n hn (λy=>y))
 obtain⟨u,h2,s1,s2,s3,s4⟩:=GJ (sz:=17) (bytes:=168) (F:=tq L Q h.length 3) (ds:=out.aD.map fE.c) (es:=[m.c]) oa.m oa.mc hx hi
  (λn hn=>⟨.inr ⟨hQ n hn.1,.inl hn.1⟩,by rw[hQ n hn.1];omega⟩) (λn hn=>.inl hn) (λn hn=>.inr ⟨ge n hn,.inr hn⟩) (by simpa using hb)
 have ob:=(Up.1 I.aA).1
 have st:∀n,n<h.length->L n≠3->n≠o->(h2.set o (some (.aA 5 [[u,ca,aa,.aA .i64 out.aE,.aE out.aC]] false)))[n]?=h[n]?:=λn hn h3 ho=>
  (Uq (λe=>ho e.symm)).trans ((s4.2 n (UM hn hx.1) h3).trans (hx.2 n hn (λy=>y)))
 have ol:o<h.length:=(Up.1 oa.aA).1
 have M:o<h2.length:=by have:=s4.1;omega
 have nl:∀n,L n≠0->L n≠7->n≠o:=λn _ h7 e=>h7 (e▸oa.lo)
 have E:=eX.lt _ _ s2
 have km:gS (λn=>tq L Q h.length 3 n/\n<h2.length) h2 (h2.set o (some (.aA 5 [[u,ca,aa,.aA .i64 out.aE,.aE out.aC]] false))):=λn hn y hy=>
  (Uq (by rintro rfl;have:=oa.lo;rcases hn.1 with z | ⟨z,-⟩<;>omega)).trans hy
 have tm:∀n,tq L Q h.length 3 n/\n<h2.length->k_ L Q h.length h2.length 3 n=3:=by
  rintro n ⟨z | ⟨z,z'⟩,hn⟩
  ·rw[lW (.inl (by omega))];exact z
  ·exact tQ z hn z'
 have cl:=eX.lt _ _ oa.c
 have al:=eX.lt _ _ oa.a
 have kc:gS (λn=>L n=4/\n<h.length) h (h2.set o (some (.aA 5 [[u,ca,aa,.aA .i64 out.aE,.aE out.aC]] false))):=λn hn y hy=>(st n hn.2 (by omega) (nl n (by omega) (by omega))).trans hy
 have ka:gS (λn=>L n=5/\n<h.length) h (h2.set o (some (.aA 5 [[u,ca,aa,.aA .i64 out.aE,.aE out.aC]] false))):=λn hn y hy=>(st n hn.2 (by omega) (nl n (by omega) (by omega))).trans hy
 refine⟨u,h2,s1,s2.aA,s4,(s4.2 o ob (fun (z:L o=3)=>by rw[oa.lo]at z;omega)).trans I.aA,k_ L Q h.length h2.length 3,⟨⟨g,f,ra.aC (λn _ hn=>lW (.inl hn)) λn hn c=>st n hn (by omega) (nl n (by omega) (by omega))⟩,⟨u,ca,aa,Ux M,?_,?_,?_,?_,?_,?_⟩,λn hn=>by rw[UA];exact tP (λz=>by have:=lt n z;have:=hx.1;have:=s4.1;omega) hn⟩,λn hn c=>lW ?_,?_⟩
 ·show eX (.sl 17 ((out.aD++[m]).map fE.c)) _ _ _
  rw[show (out.aD++[m]).map fE.c=out.aD.map fE.c++[m.c] by simp]
  exact eX.aC _ tm km _ E
 ·exact s3.aA E km
 ·exact eX.aC _ (λn hn=>by rw[lW (.inl (by omega))];exact hn.1) kc _ cl
 ·exact oa.cc.aA cl kc
 ·exact eX.aC _ (λn hn=>by rw[lW (.inl (by omega))];exact hn.1) ka _ al
 ·rw[lW (.inl (by rw[oa.lo];omega))];exact oa.lo
 ·exact c.imp id λz=>⟨z,hn⟩
 ·refine (hx.aD s4 (F'':=λm=>wO (L m)\/Q m) (λ_ _ y=>y.elim) (λn _ (y:L n=3)=>.inl (.inl y))).aD (eV.aI (F:=λm=>m=o) _ (λ_=>rfl)) (λ_ _ y=>y) (λn _ y=>.inl (by rw[y,oa.lo];exact .inr (.inr (.inr rfl))))
theorem g_.aF {Q L h r o R out g f ma ca aa}(ra:nQ L h r R g f)(oa:pf L h o out ma ca aa)(lt:∀m,L m≠0->m<h.length){m:fZ}{e co cn ce sn:AV}{h1:eW}(hx:eV eY h h1)(he:eX (gN m.aA.es) Q h e)(W:eX (fM m.aG.aA) Q h co)(U:eX (fM m.aG.aC) Q h cn)(O:eX (fM m.aG.aD) Q h ce)(hd:eX (gj m.aJ) Q h sn)
  (hQ:∀n,Q n->L n=0) (hb:(out.aA.length+1)*216<=2^46):
  ∃u h2,ij h1 17 216 ca [m.aF e co cn ce sn]=some (u,h2)/\u.aH=true/\eV (λn=>L n=4) h1 h2/\h2[o]?=some (some (.aA 5 [[ma,ca,aa,.aA .i64 out.aE,.aE out.aC]] false)) /\
   fy wO Q L h r o ⟨R,{out with aA:=out.aA++[m]}⟩ (h2.set o (some (.aA 5 [[ma,u,aa,.aA .i64 out.aE,.aE out.aC]] false))):=by
 have hi:fG [m.c] (λn=>Q n/\n<h.length) h1 [m.aF e co cn ce sn]:=by
  refine fG.aA [m.c] (λ_ y=>y) (λn hn y hy=>hx.aA hy) _ ?_
  refine fG.lt [m.c] _ ?_
  simp only[fG,fI,eX,fZ.c,fZ.aF]
  exact⟨_,_,rfl,⟨_,_,rfl,rfl,_,_,rfl,rfl,_,_,rfl,rfl,_,_,rfl,rfl,_,_,rfl,rfl,_,_,rfl,rfl,_,_,rfl,rfl,_,_,rfl,he,_,_,rfl,W,_,_,rfl,U,_,_,rfl,O,_,_,rfl,hd,_,_,rfl,rfl,_,_,rfl,rfl,_,_,rfl,rfl,_,_,rfl,rfl,_,_,rfl,rfl,rfl⟩,rfl⟩
 have ge:∀n,h.length<=n->L n=0:=λn hn=>UC λz=>by have:=lt n z;omega
 have I:=oa.aC (h':=h1) (λ_ _ _=>rfl) (λn hn _=>hx.2 n hn (λy=>y))
 obtain⟨u,h2,s1,s2,s3,s4⟩:=GJ (sz:=17) (bytes:=216) (F:=tq L Q h.length 4) (ds:=out.aA.map fZ.c) (es:=[m.c]) oa.c oa.cc hx hi
  (λn hn=>⟨.inr ⟨hQ n hn.1,.inl hn.1⟩,by rw[hQ n hn.1];omega⟩) (λn hn=>.inl hn) (λn hn=>.inr ⟨ge n hn,.inr hn⟩) (by simpa using hb)
 have ob:=(Up.1 I.aA).1
 have st:∀n,n<h.length->L n≠4->n≠o->(h2.set o (some (.aA 5 [[ma,u,aa,.aA .i64 out.aE,.aE out.aC]] false)))[n]?=h[n]?:=λn hn h3 ho=>
  (Uq (λe=>ho e.symm)).trans ((s4.2 n (UM hn hx.1) h3).trans (hx.2 n hn (λy=>y)))
 have ol:o<h.length:=(Up.1 oa.aA).1
 have M:o<h2.length:=by have:=s4.1;omega
 have nl:∀n,L n≠0->L n≠7->n≠o:=λn _ h7 e=>h7 (e▸oa.lo)
 have E:=eX.lt _ _ s2
 have km:gS (λn=>tq L Q h.length 4 n/\n<h2.length) h2 (h2.set o (some (.aA 5 [[ma,u,aa,.aA .i64 out.aE,.aE out.aC]] false))):=λn hn y hy=>
  (Uq (by rintro rfl;have:=oa.lo;rcases hn.1 with z | ⟨z,-⟩<;>omega)).trans hy
 have tm:∀n,tq L Q h.length 4 n/\n<h2.length->k_ L Q h.length h2.length 4 n=4:=by
  rintro n ⟨z | ⟨z,z'⟩,hn⟩
  ·rw[lW (.inl (by omega))];exact z
  ·exact tQ z hn z'
 have cl:=eX.lt _ _ oa.m
 have al:=eX.lt _ _ oa.a
 have kc:gS (λn=>L n=3/\n<h.length) h (h2.set o (some (.aA 5 [[ma,u,aa,.aA .i64 out.aE,.aE out.aC]] false))):=λn hn y hy=>(st n hn.2 (by omega) (nl n (by omega) (by omega))).trans hy
 have ka:gS (λn=>L n=5/\n<h.length) h (h2.set o (some (.aA 5 [[ma,u,aa,.aA .i64 out.aE,.aE out.aC]] false))):=λn hn y hy=>(st n hn.2 (by omega) (nl n (by omega) (by omega))).trans hy
 refine⟨u,h2,s1,s2.aA,s4,(s4.2 o ob (fun (z:L o=4)=>by rw[oa.lo]at z;omega)).trans I.aA,k_ L Q h.length h2.length 4,⟨⟨g,f,ra.aC (λn _ hn=>lW (.inl hn)) λn hn c=>st n hn (by omega) (nl n (by omega) (by omega))⟩,⟨ma,u,aa,Ux M,?_,?_,?_,?_,?_,?_⟩,λn hn=>by rw[UA];exact tP (λz=>by have:=lt n z;have:=hx.1;have:=s4.1;omega) hn⟩,λn hn c=>lW ?_,?_⟩
 ·exact eX.aC _ (λn hn=>by rw[lW (.inl (by omega))];exact hn.1) kc _ cl
 ·exact oa.mc.aA cl kc
 ·show eX (.sl 17 ((out.aA++[m]).map fZ.c)) _ _ _
  rw[show (out.aA++[m]).map fZ.c=out.aA.map fZ.c++[m.c] by simp]
  exact eX.aC _ tm km _ E
 ·exact s3.aA E km
 ·exact eX.aC _ (λn hn=>by rw[lW (.inl (by omega))];exact hn.1) ka _ al
 ·rw[lW (.inl (by rw[oa.lo];omega))];exact oa.lo
 ·exact c.imp id λz=>⟨z,hn⟩
 ·refine (hx.aD s4 (F'':=λm=>wO (L m)\/Q m) (λ_ _ y=>y.elim) (λn _ (y:L n=4)=>.inl (.inr (.inl y)))).aD (eV.aI (F:=λm=>m=o) _ (λ_=>rfl)) (λ_ _ y=>y) (λn _ y=>.inl (by rw[y,oa.lo];exact .inr (.inr (.inr rfl))))
def qW (P:Program)(f:FuncId):Prop:=fP P f=true/\∀(Q:Nat->Prop)(L:Nat->Nat)(h:eW)(r o:Nat)(x:RX)(m:fE)(e d:AV),g_ L h r o x->eX (gN m.es) Q h e->eX (gj m.aG) Q h d->(∀n,Q n->L n=0)->(x.o.aD.length+1)*168<=2^46->
 fC P f [.aF [.aC r 21 0 0,.aC o 5 0 0],.aF (m.aE e d)] h λ_ h'=>fy wO Q L h r o (x.aK m) h'
theorem RZ {P:Program}{f:FuncId}(hf:Is P f Bd):qW P f:=by
 refine⟨hf.2,λQ L h r o x m e d hx he hd hQ hb=>fU hf ?_⟩;obtain⟨R,out⟩:=x;obtain⟨⟨g,f',ra⟩,⟨ma,ca,aa,oa⟩,lt⟩:=hx;have rr:=ra.aA;have u:=oa.aA;have lr:=(Up.1 rr).1;have lo:=(Up.1 u).1;simp only[eZ.aJ]at rr;have R2:∀a b,(h++[a]++[b])[r]?=_:=λa b=>(eV.b2 a b).aA rr;have O2:∀a b,(h++[a]++[b])[o]?=_:=λa b=>(eV.b2 a b).aA u;have O3:∀a b c,(h++[a]++[b]++[c])[o]?=_:=λa b c=>(eV.b3 a b c).aA u;simp only[Bd,fE.aE,go_sem,he.aA,hd.aA,R2,O3];refine⟨iu (by omega),?_⟩;have l2:(h++[some (e_.aA 2 [[.aC r 21 0 0,.aC o 5 0 0]] false)]++[some (e_.aA 17 [[.aA .i64 m.aD,.aA .i64 R.id,.aA .i64 m.to,.aA .i64 R.aA.aE,.aA .i64 R.aA.aC,.aA .i64 m.aA,.aA .i64 m.aH,.aA .i64 m.aJ,.aA .i64 m.aK,.aA .i64 m.aQ,.aA .i64 m.aO,.aA .i64 m.aN,.aA .i64 m.aR,.aA .i64 m.aP,.aE m.ok,e,d]] false)]).length=h.length+2:=by simp
 have ae:=lR (h++[some (e_.aA 2 [[.aC r 21 0 0,.aC o 5 0 0]] false)]++[some (e_.aA 17 [[.aA .i64 m.aD,.aA .i64 R.id,.aA .i64 m.to,.aA .i64 R.aA.aE,.aA .i64 R.aA.aC,.aA .i64 m.aA,.aA .i64 m.aH,.aA .i64 m.aJ,.aA .i64 m.aK,.aA .i64 m.aQ,.aA .i64 m.aO,.aA .i64 m.aN,.aA .i64 m.aR,.aA .i64 m.aP,.aE m.ok,e,d]] false)]) 17 [[.aA .i64 m.aD,.aA .i64 R.id,.aA .i64 m.to,.aA .i64 R.aA.aE,.aA .i64 R.aA.aC,.aA .i64 m.aA,.aA .i64 m.aH,.aA .i64 m.aJ,.aA .i64 m.aK,.aA .i64 m.aQ,.aA .i64 m.aO,.aA .i64 m.aN,.aA .i64 m.aR,.aA .i64 m.aP,.aE m.ok,e,d]] false (some 1) (len:=1) rfl;have X3:=eV.b3 (h:=h) (some (e_.aA 2 [[.aC r 21 0 0,.aC o 5 0 0]] false)) (some (e_.aA 17 [[.aA .i64 m.aD,.aA .i64 R.id,.aA .i64 m.to,.aA .i64 R.aA.aE,.aA .i64 R.aA.aC,.aA .i64 m.aA,.aA .i64 m.aH,.aA .i64 m.aJ,.aA .i64 m.aK,.aA .i64 m.aQ,.aA .i64 m.aO,.aA .i64 m.aN,.aA .i64 m.aR,.aA .i64 m.aP,.aE m.ok,e,d]] false)) (some (e_.aA 17 [[.aA .i64 m.aD,.aA .i64 R.id,.aA .i64 m.to,.aA .i64 R.aA.aE,.aA .i64 R.aA.aC,.aA .i64 m.aA,.aA .i64 m.aH,.aA .i64 m.aJ,.aA .i64 m.aK,.aA .i64 m.aQ,.aA .i64 m.aO,.aA .i64 m.aN,.aA .i64 m.aR,.aA .i64 m.aP,.aE m.ok,e,d]] false));obtain⟨ma',h2,s1,s2,s3,s4,s5⟩:=g_.aG ra oa lt (m:={m with aC:=R.id,aM:=R.aA.aE,aF:=R.aA.aC}) X3 he hd hQ hb;simp only[fE.aE]at s1;rw[<-iq ae,l2]at s1;rw[s1];have l3:o<h2.length:=(Up.1 s4).1;have ge:∀n,h.length<=n->L n=0:=λn hn=>UC λz=>by have:=lt n z;omega
 have C0:=(s3.2 h.length (by simp) (fun (z:L _=3)=>by rw[ge _ (Uy _)]at z;omega)).trans (oJ h _ _ _);have C1:=(s3.2 (h.length+1) (by simp) (fun (z:L _=3)=>by rw[ge _ (by omega)]at z;omega)).trans (pF h _ _ _);simp only[go_sem,s2,gC s2,s4,l3,C0,C1];exact s5
def sK (P:Program)(f:FuncId):Prop:=fP P f=true/\∀(Q:Nat->Prop)(L:Nat->Nat)(h:eW)(r o:Nat)(x:RX)(m:fZ)(e co cn ce sn:AV),g_ L h r o x->eX (gN m.aA.es) Q h e->eX (fM m.aG.aA) Q h co->eX (fM m.aG.aC) Q h cn->eX (fM m.aG.aD) Q h ce->eX (gj m.aJ) Q h sn->
 (∀n,Q n->L n=0)->(x.o.aA.length+1)*216<=2^46->fC P f [.aF [.aC r 21 0 0,.aC o 5 0 0],.aF (m.aF e co cn ce sn)] h λ_ h'=>fy wO Q L h r o (x.aX m) h'
theorem SF {P:Program}{f:FuncId}(hf:Is P f Bg):sK P f:=by
 refine⟨hf.2,λQ L h r o x m e co cn ce sn hx he M I E hd hQ hb=>fU hf ?_⟩;obtain⟨R,out⟩:=x;obtain⟨⟨g,f',ra⟩,⟨ma,ca,aa,oa⟩,lt⟩:=hx;have rr:=ra.aA;have u:=oa.aA;have lr:=(Up.1 rr).1;have lo:=(Up.1 u).1;simp only[eZ.aJ]at rr;have R2:∀a b,(h++[a]++[b])[r]?=_:=λa b=>(eV.b2 a b).aA rr;have O2:∀a b,(h++[a]++[b])[o]?=_:=λa b=>(eV.b2 a b).aA u;have O3:∀a b c,(h++[a]++[b]++[c])[o]?=_:=λa b c=>(eV.b3 a b c).aA u;simp only[Bg,fZ.aF,go_sem,he.aA,M.aA,I.aA,E.aA,hd.aA,R2,O3];refine⟨iu (by omega),?_⟩;have l2:(h++[some (e_.aA 2 [[.aC r 21 0 0,.aC o 5 0 0]] false)]++[some (e_.aA 17 [[.aA .i64 m.aC,.aA .i64 R.aA.aE,.aA .i64 m.aK,.aA .i64 m.aL,.aA .i64 m.aE,.aA .i64 m.aA.aA,.aA .i64 m.aA.aD,e,co,cn,ce,sn,.aA .i64 m.aD.aA,.aA .i64 m.aD.aC,.aA .i64 m.aD.aE,.aA .i64 m.aD.aD,.aA .i64 m.aD.aF]] false)]).length=h.length+2:=by simp
 have ae:=lR (h++[some (e_.aA 2 [[.aC r 21 0 0,.aC o 5 0 0]] false)]++[some (e_.aA 17 [[.aA .i64 m.aC,.aA .i64 R.aA.aE,.aA .i64 m.aK,.aA .i64 m.aL,.aA .i64 m.aE,.aA .i64 m.aA.aA,.aA .i64 m.aA.aD,e,co,cn,ce,sn,.aA .i64 m.aD.aA,.aA .i64 m.aD.aC,.aA .i64 m.aD.aE,.aA .i64 m.aD.aD,.aA .i64 m.aD.aF]] false)]) 17 [[.aA .i64 m.aC,.aA .i64 R.aA.aE,.aA .i64 m.aK,.aA .i64 m.aL,.aA .i64 m.aE,.aA .i64 m.aA.aA,.aA .i64 m.aA.aD,e,co,cn,ce,sn,.aA .i64 m.aD.aA,.aA .i64 m.aD.aC,.aA .i64 m.aD.aE,.aA .i64 m.aD.aD,.aA .i64 m.aD.aF]] false (some 1) (len:=1) rfl;have X3:=eV.b3 (h:=h) (some (e_.aA 2 [[.aC r 21 0 0,.aC o 5 0 0]] false)) (some (e_.aA 17 [[.aA .i64 m.aC,.aA .i64 R.aA.aE,.aA .i64 m.aK,.aA .i64 m.aL,.aA .i64 m.aE,.aA .i64 m.aA.aA,.aA .i64 m.aA.aD,e,co,cn,ce,sn,.aA .i64 m.aD.aA,.aA .i64 m.aD.aC,.aA .i64 m.aD.aE,.aA .i64 m.aD.aD,.aA .i64 m.aD.aF]] false)) (some (e_.aA 17 [[.aA .i64 m.aC,.aA .i64 R.aA.aE,.aA .i64 m.aK,.aA .i64 m.aL,.aA .i64 m.aE,.aA .i64 m.aA.aA,.aA .i64 m.aA.aD,e,co,cn,ce,sn,.aA .i64 m.aD.aA,.aA .i64 m.aD.aC,.aA .i64 m.aD.aE,.aA .i64 m.aD.aD,.aA .i64 m.aD.aF]] false));obtain⟨ca',h2,s1,s2,s3,s4,s5⟩:=g_.aF ra oa lt (m:={m with aH:=R.aA.aE}) X3 he M I E hd hQ hb;simp only[fZ.aF]at s1;rw[<-iq ae,l2]at s1;rw[s1];have l3:o<h2.length:=(Up.1 s4).1;have ge:∀n,h.length<=n->L n=0:=λn hn=>UC λz=>by have:=lt n z;omega
 have C0:=(s3.2 h.length (by simp) (fun (z:L _=4)=>by rw[ge _ (Uy _)]at z;omega)).trans (oJ h _ _ _);have C1:=(s3.2 (h.length+1) (by simp) (fun (z:L _=4)=>by rw[ge _ (by omega)]at z;omega)).trans (pF h _ _ _);simp only[go_sem,s2,gC s2,s4,l3,C0,C1];exact s5
def np (h:eW)(r:Nat)(x:eZ):Prop:=∃g f,h[r]?=some (some (.aA 21 [x.aJ g f] false))
theorem g_.aA {L h r o x}(a:g_ L h r o x):np h r x.r:=let⟨g,f,ra⟩:=a.r;⟨g,f,ra.aA⟩
theorem wc.p {P:Program}{f:FuncId}(hc:wc P f):ui P f:=⟨hc.1,λG h x e ha hR=>(hc.2 G h x e ha hR).aC λ_ _ ⟨_,h1,h2,h3⟩=>⟨h3,_,h1▸gY.aD (gY.aA (fI.fz _ (λ_ x=>x) _ h2)) (gY.aC _ _),rfl⟩⟩
theorem CB (x:fF)(h:eW):fm eY h x.c [.aA .i64 x.aE,.aA .i64 x.aC,.aA .i64 x.aF,.aA .i64 x.aA.aA,.aA .i64 x.aA.aD,ki x.aA.es,gG x.aD.aA,gG x.aD.aC,gG x.aD.aD,i9 x.aG]:=by rw[<-fF.aL];exact G8 eY h x
theorem m_ (x:fu)(h:eW):fm eY h x.c [.aA .i64 x.aA,.aA .i64 x.aD,ki x.es]:=by rw[<-fu.aM];exact CD eY h x
theorem vw (x:fq)(h:eW):fm eY h x.c [gG x.aA,gG x.aC,gG x.aD]:=by rw[<-fq.aK];exact tO eY h x
attribute [go_sem] rV rW vC
def pZ (P:Program)(f:FuncId):Prop:=fP P f=true/\∀(h:eW)(r:Nat)(x:eZ),np h r x->x.aA.aO->fC P f [.aC r 21 0 0] h λres h'=>res=.aF x.aN.v/\h'=h
def pn (P:Program)(f:FuncId):Prop:=fP P f=true/\∀(h:eW)(r:Nat)(x:eZ),np h r x->jH x.aA.aA->fC P f [.aC r 21 0 0] h λres h'=>res=.aA .i64 x.aM/\h'=h
def uD (P:Program)(f:FuncId):Prop:=fP P f=true/\∀(h:eW)(r:Nat)(x:eZ)(n:Int),np h r x->x.aA.aO->x.aN.aH (2^30)->fC P f [.aC r 21 0 0,.aA .i64 n] h λres h'=>res=.aE (x.aZ n)/\h'=h
def r_ (P:Program)(f:FuncId):Prop:=fP P f=true/\∀(h:eW)(r o:Nat),fC P f [.aC r 21 0 0,.aC o 5 0 0] h λres h'=>res=.aF [.aC r 21 0 0,.aC o 5 0 0]/\eV eY h h'
theorem OK {P:Program}{f g:FuncId}(hf:Is P f (AZ g))(hg:ui P g):pZ P f:=by refine⟨hf.2,λh r x hr hR=>fC.aC (K:=λres h'=>res=.aF x.aN.v/\eV eY h h') (fU hf ?_) (λr _ ⟨e,hx⟩=>⟨hx,r,by rw[e];exact gY.aA (BQ _ _ _),e⟩)⟩;obtain⟨gg,ff,rr⟩:=hr;have lr:=(Up.1 rr).1;simp only[eZ.aJ]at rr;have R1:∀a,(h++[a])[r]?=_:=λa=>(eV.b1 a).aA rr;have u:=λH=>hg.2 eY H x.aA _ (CB x.aA H) hR;simp only[fq.aK]at u;simp only[AZ,go_sem,R1];refine gh hg.1 (u _) ?_;simp only[go_sem];exact⟨by unfold eZ.aN;rw[fq.aK],eV.b2 _ _⟩
theorem NQ {P:Program}{f g:FuncId}(hf:Is P f (AW g))(hg:o9 P g):pn P f:=by refine⟨hf.2,λh r x hr hl=>fU hf ?_⟩;obtain⟨gg,ff,rr⟩:=hr;simp only[eZ.aJ]at rr;simp only[AW,go_sem,rr];refine gh hg.1 (hg.2 eY h x.aA.aA _ (m_ x.aA.aA h) hl) ?_;simp only[go_sem];rfl
theorem TS {P:Program}{f g v c:FuncId}(hf:Is P f (A8 g v c))(hg:pZ P g)(hv:ot P v fq.aI)(hc:nO P c):uD P f:=by
 refine⟨hf.2,λh r x n hr hR E=>fC.aC (K:=λres h'=>res=.aE (x.aZ n)/\eV eY h h') (fU hf ?_) (λr _ ⟨e,hx⟩=>⟨hx,r,by rw[e];exact gY.aE _,e⟩)⟩;simp only[A8,go_sem];refine gh hg.1 (hg.2 h r x hr hR) ?_;simp only[go_sem];refine fA ⟨hv.1,hv.2 eY h x.aN _ (tO eY h x.aN) ⟨by have:=E.1;omega,by have:=E.2.1;omega,by have:=E.2.2;omega⟩⟩ ?_;rintro w H ⟨ow,hx⟩;simp only[go_sem];have vl:x.aN.aI.length<=2^40:=by have u:=xO (x.aN.aA++x.aN.aC);simp only[Ut]at u;have:=E.1;have:=E.2.1;simp only[fq.aI];omega
 refine gh hc.1 (hc.2 (λ_=>True) H _ w n (eX.rd _ (λ_ _=>UF) _ ow) vl) ?_;simp only[go_sem];exact⟨rfl,hx⟩
theorem JX {P:Program}{f:FuncId}(hf:Is P f AS):r_ P f:=by refine⟨hf.2,λh r o=>fU hf ?_⟩;simp only[AS,go_sem];exact eV.b1 _
def qO (P:Program)(f:FuncId):Prop:=fP P f=true/\∀(L:Nat->Nat)(h:eW)(r o:Nat)(x:RX)(l:Int),g_ L h r o x->fC P f [.aC r 21 0 0,.aA .i64 l] h λ_ h'=>fy wA eY L h r o (x.aL l) h'
theorem Ma {P:Program}{f:FuncId}(hf:Is P f AU):qO P f:=by refine⟨hf.2,λL h r o x l hx=>fU hf ?_⟩;obtain⟨R,out⟩:=x;obtain⟨⟨g,f',ra⟩,⟨ma,ca,aa,oa⟩,lt⟩:=hx;have rr:=ra.aA;have lr:=(Up.1 rr).1;simp only[eZ.aJ]at rr;simp only[AU,go_sem,rr,lr,Vs];exact g_.aE (R':=R.aW l) ra oa lt rfl rfl
def uC (P:Program)(f:FuncId):Prop:=fP P f=true/\∀(L:Nat->Nat)(h:eW)(r o:Nat)(x:RX)(t v:Int),g_ L h r o x->(x.o.aA.length+1)*216<=2^46->fC P f [.aF [.aC r 21 0 0,.aC o 5 0 0],.aA .i64 t,.aA .i64 v] h λ_ h'=>fy wA eY L h r o (x.aI t v) h'
theorem SG {P:Program}{f g:FuncId}(hf:Is P f (Bh g))(hg:sK P g):uC P f:=by
 refine⟨hf.2,λL h r o x t v hx hb=>fU hf ?_⟩;obtain⟨R,out⟩:=x;have E:=hx.up (eV.b1 (some (e_.aA 2 [[.aC r 21 0 0,.aC o 5 0 0]] false)));obtain⟨⟨g',f',ra⟩,⟨ma,ca,aa,oa⟩,lt⟩:=E;have e:=hx.lt;have rr:=ra.aA;have lr:=(Up.1 rr).1;have B0:=gH h (some (e_.aA 2 [[.aC r 21 0 0,.aC o 5 0 0]] false));have lrh:r<h.length:=e r (by rw[ra.lr];omega);have ne:¬r=h.length:=by omega
 have X1:=eV.b1 (h:=h) (some (e_.aA 2 [[.aC r 21 0 0,.aC o 5 0 0]] false));simp only[eZ.aJ]at rr;have u:r<h.length+1:=by omega
 simp only[Bh,go_sem,rr,u,ne,B0,UA,Vs];have T:fy wA eY L (h++[some (e_.aA 2 [[.aC r 21 0 0,.aC o 5 0 0]] false)]) r o ⟨{R with aA:={R.aA with aC:=t,aF:=v}},out⟩ _:=g_.aD (R':={R with aA:={R.aA with aC:=t,aF:=v}}) ra oa lt rfl rfl;simp only[eZ.aJ]at T;refine fA ⟨hg.1,fy.aK T (λ_ _ y=>y) λL1 x1=>(hg.2 eY L1 _ r o _ {fZ.aI with aC:=1,aK:=t,aL:=v} .aD .aD .aD .aD .aD x1 (eX.aD 3) (eX.aD 1) (eX.aD 1) (eX.aD 1) (eX.aD 1) (λ_ y=>y.elim) hb).aA λ_ _ b=>b.aG mO⟩ ?_;intro _ h' b;simp only[go_sem];exact fy.aC X1 b
def p8 (P:Program)(f:FuncId):Prop:=fP P f=true/\∀(L:Nat->Nat)(h:eW)(r o:Nat)(x:RX)(w:fR),g_ L h r o x->w.aJ->x.r.aA.aP->(x.o.aD.length+1)*168<=2^46->
 fC P f [.aF [.aC r 21 0 0,.aC o 5 0 0],.aF w.aA] h λ_ h'=>fy wO eY L h r o (x.to w) h'
theorem SL {P:Program}{f g k:FuncId}(hf:Is P f (Bi g k))(hg:yq P g)(hk:qW P k):p8 P f:=by refine⟨hf.2,λL h r o x w hx hw u hb=>fU hf ?_⟩;obtain⟨R,out⟩:=x;have M:=λa b=>hx.up (eV.b2 (h:=h) a b);have lt:=hx.lt;obtain⟨⟨g',f',ra⟩,-,-⟩:=id hx;have rr:=ra.aA;simp only[eZ.aJ]at rr;have R2:∀a b,(h++[a]++[b])[r]?=_:=λa b=>(eV.b2 a b).aA rr;have X2:=eV.b2 (h:=h) (some (e_.aA 2 [[.aC r 21 0 0,.aC o 5 0 0]] false)) (some (e_.aA 4 [w.aA] false));have B0:=jJ h (some (e_.aA 2 [[.aC r 21 0 0,.aC o 5 0 0]] false)) (some (e_.aA 4 [w.aA] false));have E:=M (some (e_.aA 2 [[.aC r 21 0 0,.aC o 5 0 0]] false)) (some (e_.aA 4 [w.aA] false));have nx:=hg.2 (h++[some (e_.aA 2 [[.aC r 21 0 0,.aC o 5 0 0]] false)]++[some (e_.aA 4 [w.aA] false)]) w R.id R.aA R.aE R.aL hw u;simp only[fF.aL,fR.aA]at nx X2 B0 E;simp only[Bi,fR.aA,go_sem,R2];refine fA ⟨hg.1,nx⟩ ?_;rintro _ H ⟨e,d,rfl,he,hd,hX⟩;have l2:=X2.1;simp only[xw]at he hd l2;have I:=E.up hX;have RH:=hX.aA (R2 _ _);have C0:=hX.aA B0;have C1:=hX.aA (iO h (some (e_.aA 2 [[.aC r 21 0 0,.aC o 5 0 0]] false)) (some (e_.aA 4 [[.aA .i64 w.aD,.aA .i64 w.aC,.aA .i64 w.aE,.aA .i64 w.aG]] false)));rw[iC];simp only[go_sem,RH,C0,C1];refine fA ⟨hk.1,hk.2 (λn=>h.length+2<=n) L H r o _ _ e d I he hd (λn hn=>UC λz=>by have:=lt n z;omega) hb⟩ ?_;intro _ h' T;have XX:=X2.tr hX;rw[iC];simp only[go_sem];exact (fy.aC XX T).aT λm hm (y:h.length+2<=m)=>by omega
end Glb
