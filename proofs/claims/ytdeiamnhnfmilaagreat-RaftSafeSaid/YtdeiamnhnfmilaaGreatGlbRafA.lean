/-
  A library of its own.
-/
import Derived.Test.YtdeiamnhnfmilaaGreatGlbConE
import Derived.Test.YtdeiamnhnfmilaaGreatGlbFloB
import Derived.Test.YtdeiamnhnfmilaaGreatGlbVotA
set_option linter.unusedSimpArgs false
set_option linter.unusedVariables false
set_option maxRecDepth 10000
set_option maxHeartbeats 8000000
namespace Glb
open Go
structure fj where
 id:Int
 aA:fF
 aE:Int
 aF:Int
 aI:Int
 aV:Int
 aK:Int
 aX:Int
 aH:List Int
 aC:List fV
 bw:Int
 aN:Int
 deriving DecidableEq
structure mu where
 aD:List fJ
 aC:List gi
 aF:List fU
 aE:Int
 aA:Bool
 deriving DecidableEq
structure RX where
 r:fj
 o:mu
 deriving DecidableEq
def mu.aG:mu:=⟨[],[],[],0,false⟩
def fJ.aK:fJ:=⟨0,0,0,0,0,0,0,0,0,0,0,0,0,0,false,[],[]⟩
def gi.aI:gi:=⟨0,0,0,0,0,⟨0,0,[]⟩,⟨[],[],[]⟩,[],⟨0,0,0,0,0⟩⟩
def fj.aQ (id:Int)(h:fF)(draw:Int):fj:=⟨id,h,h.aA.aA,h.aA.aA,0,0,0,mi draw,[],[],0,0⟩
def fj.aM (r:fj):fq:=r.aA.of.1
def fj.aL (r:fj):Int:=r.aA.aA.aC
def fj.aZ (r:fj)(node:Int):Bool:=decide (node∈r.aM.aK)
def fj.aU (r:fj)(leader:Int):fj:={r with aI:=0,aV:=leader,aC:=[],aH:=[]}
def RX.aH (x:RX)(m:fJ):RX:={x with o:={x.o with aD:=x.o.aD++[{m with aC:=x.r.id,aL:=x.r.aA.aE,aG:=x.r.aA.aC}]}}
def RX.aX (x:RX)(c:gi):RX:={x with o:={x.o with aC:=x.o.aC++[{c with aH:=x.r.aA.aE}]}}
def RX.aJ (x:RX)(term voted:Int):RX:=({x with r:={x.r with aA:={x.r.aA with aC:=term,aF:=voted}}}:RX).aX {gi.aI with aC:=1,aK:=term,aL:=voted}
def RX.aR (x:RX)(leader:Int):RX:={x with r:=x.r.aU leader}
def RX.to (x:RX)(f:fV):RX:=x.aH (f.aI x.r.id x.r.aA x.r.aE x.r.bw)
def RX.aM (x:RX)(l:List fV):RX:=l.foldl RX.to x
def lp (was:List fV)(node last:Int):fV:=(was.find? λf=>decide (f.aE=node)).getD ⟨node,last+1,0,0⟩
def fj.a_ (r:fj)(was:List fV)(last:Int):fj:={r with aC:=(r.aM.aQ.filter λn=>!decide (n=r.id)).map λn=>lp was n last}
def RX.aF (x:RX)(kind:Int)(data:List Int):RX:=
 let last:=x.r.aL
 let l:=x.r.aA.aA.aE last [⟨x.r.aA.aC,kind,data⟩]
 let y:RX:=({x with r:={x.r with aA:={x.r.aA with aA:=l}}}:RX).aX {gi.aI with aC:=2,aE:=last+1,aA:=⟨0,0,l.aJ (last+1) 1⟩}
 if kind=2 then {y with r:=y.r.a_ y.r.aC last} else y
def fj.bu (r:fj):Int:=r.aM.aT (r.id :: r.aC.map fV.aE) (r.aL :: r.aC.map fV.aD)
def fj.aW (r:fj):fj:=if r.aE<r.bu/\r.aA.aA.aF r.bu=true/\r.aA.aA.aH r.bu=r.aA.aC then {r with aE:=r.bu} else r
def RX.aK (x:RX):RX:={x with r:=x.r.aW}
def RX.on (x:RX):RX:=x.aM x.r.aC
def RX.aN (x:RX):RX:=
 let r:fj:={x.r with aI:=2,aV:=x.r.id,aN:=0,aH:=[],aC:=[]}
 ((({x with r:=r.a_ [] r.aL}:RX).aF 0 []).on).aK
def fj.aS (r:fj):fj:=if r.aI=2/\r.aA.of.2<=r.aE/\r.aZ r.id=false then r.aU 0 else r
def RX.aA (x:RX):RX:=
 let r:=x.r.aS
 if r.aE<=r.aF then ⟨r,x.o⟩ else ⟨{r with aF:=r.aE},{x.o with aE:=r.aF+1,aF:=r.aA.aA.aJ (r.aF+1) (r.aE-r.aF)}⟩
def RX.aL (x:RX)(l:List fJ):RX:=l.foldl RX.aH x
def RX.aW (x:RX)(draw:Int):RX:=
 let y:=(x.aJ (x.r.aA.aC+1) x.r.id).aR 0
 let z:RX:={y with r:={y.r with aI:=1,aK:=0,aX:=mi draw,aH:=[y.r.id]}}
 if z.r.aM.aH z.r.aH then z.aN else z.aL (kh z.r.id z.r.aA.aE z.r.aA.aC z.r.aA.aA z.r.aM)
def fj.aG (r:fj):RX:=⟨r,mu.aG⟩
def fj.aR (r:fj)(draw:Int):RX:=
 if r.aI=2 then (if r.aN+1≥2 then (({r with aN:=0}:fj).aG).on else ({r with aN:=r.aN+1}:fj).aG).aA
 else
  let s:fj:={r with aK:=r.aK+1}
  (if s.aX<=s.aK/\s.aZ s.id=true/\s.aA.aC<2^40/\s.aL<2^40 then s.aG.aW draw else s.aG).aA
def RX.aT (x:RX)(m:fJ):RX:=
 let ok:=lZ x.r.aA.aC x.r.aA.aF x.r.aA.aA m
 let y:RX:=if ok then (let z:RX:={x with r:={x.r with aK:=0}};if z.r.aA.aF=m.aC then z else z.aJ z.r.aA.aC m.aC) else x
 y.aH {fJ.aK with aE:=2,to:=m.aC,ok:=ok}
def RX.aV (x:RX)(m:fJ):RX:=
 if ¬x.r.aI=1\/m.ok=false\/m.aC∈x.r.aH\/x.r.aZ m.aC=false then x else
 let y:RX:={x with r:={x.r with aH:=x.r.aH++[m.aC]}}
 if y.r.aM.aH y.r.aH then y.aN else y
def RX.aS (x:RX)(m:fJ)(ok:Bool)(index:Int):RX:=x.aH {fJ.aK with aE:=4,to:=m.aC,ok:=ok,aA:=index,aM:=m.aM}
def RX.aI (x:RX)(m:fJ):RX:=
 if m.aA<x.r.aA.aA.aA then x.aS m true x.r.aE else
 if x.r.aA.aA.aF m.aA=false\/¬x.r.aA.aA.aH m.aA=m.aH then x.aS m false (max 0 (min x.r.aL (m.aA-1))) else
 let l:=x.r.aA.aA.aE m.aA m.es
 let at':=x.r.aA.aA.aI m.aA m.es
 if 0<at'/\at'<=x.r.aE then x else
 let y:RX:=if 0<at' then ({x with r:={x.r with aA:={x.r.aA with aA:=l}}}:RX).aX {gi.aI with aC:=2,aE:=at',aA:=⟨0,0,l.aJ at' l.es.length⟩} else x
 ({y with r:={y.r with aE:=max y.r.aE (min m.aI (m.aA+m.es.length))}}:RX).aS m true (m.aA+m.es.length)
def tj (l:List fV)(node:Int):Option Nat:=l.findIdx? λf=>decide (f.aE=node)
def RX.aO (x:RX)(m:fJ):RX:=
 if ¬x.r.aI=2 then x else
 match tj x.r.aC m.aC with
 | none=>x
 | some i=>
  let f:=((x.r.aC[i]?).getD ⟨0,0,0,0⟩).aF m
  let y:RX:={x with r:={x.r with aC:=x.r.aC.set i f}}
  let z:=if m.ok then y.aK else y
  if m.ok=false\/f.aC<=z.r.aL then z.to f else z
def fj.aO (r:fj)(base term:Int):fA:=if r.aA.aA.aF base=true/\r.aA.aA.aH base=term then r.aA.aA.aK base else ⟨base,term,[]⟩
def RX.aQ (x:RX)(base term:Int)(c:fq)(snap:List Int):RX:=
 ({x with r:={x.r with aA:={x.r.aA with aA:=x.r.aO base term,aD:=c,aG:=snap}}}:RX).aX {gi.aI with aC:=3,aA:=⟨base,term,[]⟩,aG:=c,aJ:=snap}
def iL (l:List Int):List Int×List Int×Int:=
 let a:=ni.aA (some l)
 let b:=ni.aA a.2
 (a.1,b.1,b.2.aD)
def RX.aP (x:RX)(m:fJ):RX:=
 if m.aA<=x.r.aE then x.aS m true x.r.aE else
 let s:=iL m.aF
 if ¬s.2.2=0\/¬(im s.1).2=0 then x else
 let y:=x.aQ m.aA m.aH (im s.1).1 s.2.1
 (⟨{y.r with aE:=m.aA,aF:=m.aA},{y.o with aA:=true}⟩:RX).aS m true m.aA
def RX.aU (x:RX)(m:fJ):RX:=
 if ¬m.aL=x.r.aA.aE\/m.aE<1\/5<m.aE\/(m.aE=1/\x.r.aZ m.aC=false) then x else
 let y:=if x.r.aA.aC<m.aG then (x.aJ m.aG 0).aR 0 else x
 if m.aG<y.r.aA.aC then
  (if m.aE=1 then y.aH {fJ.aK with aE:=2,to:=m.aC} else if m.aE=3\/m.aE=5 then y.aH {fJ.aK with aE:=4,to:=m.aC} else y)
 else if m.aE=1 then y.aT m else if m.aE=2 then y.aV m else if m.aE=4 then y.aO m
 else if y.r.aI=2 then y else
  let z:RX:={y with r:={y.r.aU m.aC with aK:=0}}
  if m.aE=3 then z.aI m else z.aP m
def fj.bt (r:fj)(m:fJ):RX:=(r.aG.aU m).aA
def fj.aP (r:fj)(kind:Int)(data:List Int):Int×RX×Int:=
 if ¬r.aI=2 then (0,r.aG,30) else
 if ¬kind=1/\¬kind=2 then (0,r.aG,13) else
 if kind=2/\¬(im data).2=0 then (0,r.aG,4) else
 if 2^40<=r.aL then (0,r.aG,17) else
 (r.aL+1,(((r.aG.aF kind data).on).aK).aA,0)
def fj.aT (r:fj)(index:Int)(snap:List Int):RX×Int:=
 if index<=r.aA.aA.aA\/r.aF<index then (r.aG,3) else
 let up:fF:={r.aA with aA:={r.aA.aA with es:=r.aA.aA.es.take (index-r.aA.aA.aA).toNat}}
 ((r.aG.aQ index (r.aA.aA.aH index) up.of.1 snap).aA,0)
theorem tJ (l:fA)(e:fU):l.aE l.aC [e]=⟨l.aA,l.aD,l.es++[e]⟩:=by
 have h1:l.aF l.aC=true:=by unfold fA.aF fA.aC;simp;omega
 have h2:l.aF (l.aC+1)=false:=by unfold fA.aF;simp;omega
 have h3:l.aG (l.aC+1) [e]=0:=by simp[fA.aG,h2]
 unfold fA.aE;rw[U4 ⟨h1,by rw[h3];simp⟩,h3];congr 1;rw[show (l.aC+((0:Nat):Int)-l.aA).toNat=l.es.length by unfold fA.aC;omega];simp
theorem Dk (l:fA)(e:fU):(l.aE l.aC [e]).aJ (l.aC+1) 1=[e]:=by
 rw[tJ];unfold fA.aJ;have h:(⟨l.aA,l.aD,l.es++[e]⟩:fA).aC=l.aC+1:=by unfold fA.aC;simp;omega
 rw[h,U6 (by unfold fA.aC;simp only;omega)];simp only;rw[show (l.aC+1-l.aA-1).toNat=l.es.length by unfold fA.aC;omega];simp
theorem Hs {sz bytes:Nat}{F F0 Q:Nat->Prop}{ds es:List (List D)}{h0 h:eX}{av:AV}{ys:List (List AV)}(ho:eY (.sl sz ds) F0 h0 av)(hc:gV h0 av)
  (hx:eW eZ h0 h) (hy:fG es Q h ys) (hQ:∀m,Q m->F m/\¬F0 m) (h0F:∀m,F0 m->F m) (hF:∀m,h0.length<=m->F m) (hb:(ds.length+es.length)*bytes<=2^46):
  ∃av' h',iu h sz bytes av ys=some (av',h')/\eY (.sl sz (ds++es)) F h' av'/\gV h' av'/\eW F0 h h':=by
 have hyl:=oG hy;have fresh:∀(hh:eX) (dd:List (List D)) (es':List (List AV)),F hh.length->fG dd F hh es'->
   eY (.sl sz dd) F (gR hh sz es').2 (gR hh sz es').1/\gV (gR hh sz es').2 (gR hh sz es').1:=by
  intro hh dd es' hl hd;have hlen:=oG hd;refine⟨?_,⟨es',true,by simp[gR],(λ_=>rfl),(λc hc=>by cases hc)⟩⟩;simp only[eY,gR];refine .inr (.inr ⟨hh.length,0,none,es',true,by rw[hlen],hl,by simp,by omega,(λc hc=>by cases hc),?_⟩);have:(es'.drop 0).take dd.length=es':=by rw[V9,Vs (by omega)]
  rw[this];refine fG.aA dd (λm hm=>⟨hm.1,by have:=hm.2;omega⟩) ?_ _ (fG.lt dd _ hd);intro m hm x hx;rw[Vy hm.2];exact hx
 simp only[eY]at ho;rcases ho with⟨rfl,rfl⟩ | ⟨t,c,rfl,rfl⟩ | ⟨n,off,cap,row,g,rfl,hn0,hrow,hle,hcl,hd0⟩
 · -- nothing yet
  have hy':fG es F h ys:=fG.aA es (λm hm=>(hQ _ hm).1) (λ_ _ _ x=>x) _ hy;obtain⟨a,b⟩:=fresh h es ys (hF _ hx.1) hy';refine⟨_,_,?_,by simpa using a,b,?_⟩;·simp only[iu];rw[U4 (by rw[hyl];simpa using hb)]
  ·exact eW.aF _ _ _
 ·have hc1:c=true:=hc;subst hc1;have hy':fG es F h ys:=fG.aA es (λm hm=>(hQ _ hm).1) (λ_ _ _ x=>x) _ hy;simp only[iu];rw[U4 ⟨Vd,by rw[hyl];simpa using hb⟩];by_cases hy0:ys.length=0;·rw[U4 hy0];have hes:es=[]:=U7 (by omega);subst hes;refine⟨_,_,rfl,?_,rfl,eW.aC _ _⟩;simp only[eY];exact .inr (.inl ⟨t,true,rfl,rfl⟩)
  ·rw[U6 hy0,U4 Vd];obtain⟨a,b⟩:=fresh h es ys (hF _ hx.1) hy';exact⟨_,_,rfl,by simpa [gR] using a,b,eW.aF _ _ _⟩
 ·have hn:F n:=h0F _ hn0;have hd:fG ds (λm=>F m/\m≠n) h0 ((row.drop off).take ds.length):=fG.aA ds (λm hm=>⟨h0F _ hm.1,hm.2⟩) (λ_ _ _ x=>x) _ hd0;obtain⟨row',g',hrow',hcn,hcs⟩:=hc;rw[hrow]at hrow';obtain⟨rfl,rfl⟩:row=row'/\g=g':=by simpa using hrow'
  have hnlt:=(UY.1 hrow).1;have hrow1:h[n]?=some (some (.aA sz row g)):=hx.aA hrow;have hnlt1:=(UY.1 hrow1).1;have hd1:fG ds (λm=>F m/\m≠n) h ((row.drop off).take ds.length):=fG.aA ds (λm hm=>hm) (hx.aE _) _ hd;have hy1:fG es (λm=>F m/\m≠n) h ys:=fG.aA es (λm hm=>⟨(hQ _ hm).1,by rintro rfl;exact (hQ _ hm).2 hn0⟩) (λ_ _ _ x=>x) _ hy;have both:fG (ds++es) F h ((row.drop off).take ds.length++ys):=fG.aA _ (λm hm=>hm.1) (λ_ _ _ x=>x) _ (na hd1 hy1);simp only[iu,hrow1];rw[U4 ⟨Vd,Vd,hle,by rw[hyl];exact hb⟩];cases cap with
  | none=>
   obtain rfl:=hcn rfl;simp only[VS];have both':fG (ds++es) F (h.set n none) (row.take ds.length++ys):=by have:=na hd1 hy1;rw[V9]at this;exact fG.aA _ (λm hm=>hm.1) (λm hm x hx=>by rw[UZ (λe=>hm.2 e.symm)];exact hx) _ this
   obtain⟨a,b⟩:=fresh (h.set n none) (ds++es) (row.take ds.length++ys) (by rw[U9];exact hF _ hx.1) both';exact⟨_,_,rfl,a,b,(eW.aI none (λ_=>hn0)).aD (eW.aF F0 _ _) (λ_ _ x=>x) (λ_ _ x=>x)⟩
  | some c=>
   have hc1:=hcl c rfl;have hc2:=hcs c rfl;cases c with
   | zero=>
    have h0:ds.length=0:=by omega
    have hds:ds=[]:=U7 h0;subst hds;simp only[Ve,VS];by_cases hy0:ys.length=0;·rw[U4 hy0];have hes:es=[]:=U7 (by omega);subst hes;refine⟨_,_,rfl,?_,⟨row,g,hrow1,(λe=>by cases e),(λc hc=>by cases hc;omega)⟩,eW.aC _ _⟩;simp only[eY];exact .inr (.inr ⟨n,off,some 0,row,g,rfl,hn,hrow1,by simpa using hle,(λc hc=>by cases hc;simp),by simp[fG]⟩)
    ·rw[U6 hy0];have hy2:fG es F h ys:=fG.aA es (λm hm=>hm.1) (λ_ _ _ x=>x) _ hy1;obtain⟨a,b⟩:=fresh h es ys (hF _ hx.1) hy2;exact⟨_,_,rfl,by simpa [gR] using a,b,eW.aF _ _ _⟩
   | succ c=>
    simp only;by_cases hcap:c+1<ds.length+ys.length;·rw[U4 hcap];obtain⟨a,b⟩:=fresh h (ds++es) _ (hF _ hx.1) both;exact⟨_,_,rfl,a,b,eW.aF _ _ _⟩
    ·rw[U6 hcap,U4 (by omega)];have hsl:(gM row (off+ds.length) ys).length=row.length:=by simp[gM];omega
     refine⟨_,_,rfl,?_,⟨_,g,by rw[U5 hnlt1],(λe=>by cases e),(λc' hc'=>by cases hc';rw[hsl];exact hc2)⟩,eW.aI _ (λ_=>hn0)⟩;simp only[eY];refine .inr (.inr ⟨n,off,some (c+1),gM row (off+ds.length) ys,g,by rw[U1,hyl],hn,by rw[U5 hnlt1],by rw[hsl,U1];omega,
      (λc' hc'=>by cases hc';rw[U1];omega),?_⟩)
     have e:((gM row (off+ds.length) ys).drop off).take (ds++es).length=(row.drop off).take ds.length++ys:=by
      apply VM;intro i;simp only[VZ,Vt,U1,gM,V_,Va,U1,Vo];rw[show min (off+ds.length) row.length=off+ds.length by omega,show min ds.length (row.length-off)=ds.length by omega];by_cases h1:i<ds.length;·rw[U4 (by omega),U4 (by omega),U4 (by omega),U4 (by omega),U4 h1];simp[h1]
      ·by_cases h2:i<ds.length+es.length
       ·rw[U4 h2,U4 (by omega),U6 (by omega),U6 h1];congr 1;omega
       ·rw[U6 h2,U6 h1,VH (by omega)]
     rw[e];refine fG.aA _ (λm hm=>hm) ?_ _ (na hd1 hy1);intro m hm x hx;rw[UZ (λe=>hm.2 e.symm)];exact hx
def jN (l:List fV):D:=.sl 4 (l.map fV.c)
def fj.aJ (x:fj)(g f:AV):List AV:=[.aA .i64 x.id,.aA .i64 x.aA.aE,.aA .i64 x.aA.aC,.aA .i64 x.aA.aF,.aA .i64 x.aA.aA.aA,.aA .i64 x.aA.aA.aD,jv x.aA.aA.es,ga x.aA.aD.aA,ga x.aA.aD.aC,ga x.aA.aD.aD,iS x.aA.aG,
 .aA .i64 x.aE,.aA .i64 x.aF,.aA .i64 x.aI,.aA .i64 x.aV,.aA .i64 x.aK,.aA .i64 x.aX,g,f,.aA .i64 x.bw,.aA .i64 x.aN]
structure nM (L:Nat->Nat)(h:eX)(r:Nat)(x:fj)(g f:AV):Prop where
 aA:h[r]?=some (some (.aA 21 [x.aJ g f] false))
 go:eY (fN x.aH) (λm=>L m=1) h g
 gc:gV h g
 fo:eY (jN x.aC) (λm=>L m=2) h f
 fc:gV h f
 lr:L r=6
structure pn (L:Nat->Nat)(h:eX)(o:Nat)(x:mu)(ma ca aa:AV):Prop where
 aA:h[o]?=some (some (.aA 5 [[ma,ca,aa,.aA .i64 x.aE,.aE x.aA]] false))
 m:eY (td x.aD) (λm=>L m=3) h ma
 mc:gV h ma
 c:eY (nS x.aC) (λm=>L m=4) h ca
 cc:gV h ca
 a:eY (gK x.aF) (λm=>L m=5) h aa
 lo:L o=7
structure h_ (L:Nat->Nat)(h:eX)(r o:Nat)(x:RX):Prop where
 r:∃g f,nM L h r x.r g f
 o:∃ma ca aa,pn L h o x.o ma ca aa
 lt:∀m,L m≠0->m<h.length
def wO:Nat->Prop:=λk=>k=3\/k=4\/k=5\/k=7
def wA:Nat->Prop:=λk=>k≠0
def fB (W Q:Nat->Prop)(L:Nat->Nat)(h:eX)(r o:Nat)(x:RX)(h':eX):Prop:=∃L',h_ L' h' r o x/\(∀m,m<h.length->L m≠0\/¬Q m->L' m=L m)/\eW (λm=>W (L m)\/Q m) h h'
theorem nM.aC {L h r x g f L' h'}(a:nM L h r x g f)(hL:∀m,m<h.length->L m≠0->L' m=L m) (hk:∀m,m<h.length->L m=1\/L m=2\/L m=6->h'[m]?=h[m]?):nM L' h' r x g f:=by have lr:=(UY.1 a.aA).1;have gl:=eY.lt _ _ a.go;have fl:=eY.lt _ _ a.fo;have kg:gY (λm=>L m=1/\m<h.length) h h':=λm hm y hy=>(hk m hm.2 (.inl hm.1)).trans hy;have kf:gY (λm=>L m=2/\m<h.length) h h':=λm hm y hy=>(hk m hm.2 (.inr (.inl hm.1))).trans hy;exact⟨(hk r lr (.inr (.inr a.lr))).trans a.aA,eY.aC _ (λm hm=>(hL m hm.2 (by rw[hm.1];omega)).trans hm.1) kg _ gl,a.gc.aA gl kg,eY.aC _ (λm hm=>(hL m hm.2 (by rw[hm.1];omega)).trans hm.1) kf _ fl,a.fc.aA fl kf,(hL r lr (by rw[a.lr];omega)).trans a.lr⟩
theorem pn.aC {L h o x ma ca aa L' h'}(a:pn L h o x ma ca aa)(hL:∀m,m<h.length->L m≠0->L' m=L m) (hk:∀m,m<h.length->L m=3\/L m=4\/L m=5\/L m=7->h'[m]?=h[m]?):pn L' h' o x ma ca aa:=by have lr:=(UY.1 a.aA).1;have ml:=eY.lt _ _ a.m;have cl:=eY.lt _ _ a.c;have al:=eY.lt _ _ a.a;have km:gY (λm=>L m=3/\m<h.length) h h':=λm hm y hy=>(hk m hm.2 (.inl hm.1)).trans hy;have kc:gY (λm=>L m=4/\m<h.length) h h':=λm hm y hy=>(hk m hm.2 (.inr (.inl hm.1))).trans hy;have ka:gY (λm=>L m=5/\m<h.length) h h':=λm hm y hy=>(hk m hm.2 (.inr (.inr (.inl hm.1)))).trans hy;exact⟨(hk o lr (.inr (.inr (.inr a.lo)))).trans a.aA,eY.aC _ (λm hm=>(hL m hm.2 (by rw[hm.1];omega)).trans hm.1) km _ ml,a.mc.aA ml km,eY.aC _ (λm hm=>(hL m hm.2 (by rw[hm.1];omega)).trans hm.1) kc _ cl,a.cc.aA cl kc,eY.aC _ (λm hm=>(hL m hm.2 (by rw[hm.1];omega)).trans hm.1) ka _ al,(hL o lr (by rw[a.lo];omega)).trans a.lo⟩
theorem h_.up {L h r o x h'}(a:h_ L h r o x)(hx:eW eZ h h'):h_ L h' r o x:=by obtain⟨⟨g,f,ra⟩,⟨ma,ca,aa,oa⟩,lt⟩:=a;exact⟨⟨g,f,ra.aC (λ_ _ _=>rfl) λm hm _=>hx.2 m hm (λy=>y)⟩,⟨ma,ca,aa,oa.aC (λ_ _ _=>rfl) λm hm _=>hx.2 m hm (λy=>y)⟩,λm hm=>Vj (lt m hm) hx.1⟩
theorem h_.to {W Q L h r o x}(a:h_ L h r o x):fB W Q L h r o x h:=⟨L,a,λ_ _ _=>rfl,eW.aC _ _⟩
theorem fB.aE {W Q Q' L L1 h r o h' x' h''}(l1:∀m,m<h.length->L m≠0\/¬Q m->L1 m=L m) (e1:eW (λm=>W (L m)\/Q m) h h') (hQ:∀m,m<h.length->Q' m->Q m) (b:fB W Q' L1 h' r o x' h''):fB W Q L h r o x' h'':=by
 obtain⟨L2,x2,l2,e2⟩:=b;have hh:=e1.1;have st:∀m,m<h.length->L m≠0\/¬Q m->L1 m≠0\/¬Q' m:=λm hm c=>by
  rcases c with c | c;·left;rw[l1 m hm (.inl c)];exact c
  ·right;exact λz=>c (hQ m hm z)
 refine⟨L2,x2,λm hm c=>(l2 m (by omega) (st m hm c)).trans (l1 m hm c),e1.aD e2 (λ_ _ y=>y) (λm hm y=>?_)⟩;rcases y with y | y
 ·by_cases c:L m≠0\/¬Q m
  ·left;rw[l1 m hm c]at y;exact y
  ·right;exact Vb λz=>c (.inr z)
 ·exact .inr (hQ m hm y)
theorem fB.aK {P:Program}{f:FuncId}{u:List AV}{W Q Q' L h r o x h' x'}(a:fB W Q L h r o x h')(hQ:∀m,m<h.length->Q' m->Q m)(hc:∀L',h_ L' h' r o x->fC P f u h' λ_ e=>fB W Q' L' h' r o x' e):fC P f u h' λ_ e=>fB W Q L h r o x' e:=by obtain⟨L1,x1,l1,e1⟩:=a;exact (hc L1 x1).aA λv e b=>fB.aE l1 e1 hQ b
theorem fB.up {W Q L h r o x h' h''}(a:fB W Q L h r o x h')(hx:eW eZ h' h''):fB W Q L h r o x h'':=by obtain⟨L1,x1,l1,e1⟩:=a;exact⟨L1,x1.up hx,l1,e1.aD hx (λ_ _ y=>y) (λ_ _ y=>y.elim)⟩
theorem fB.aT {W Q Q' L h r o x h'}(a:fB W Q L h r o x h')(hQ:∀m,m<h.length->Q m->Q' m):fB W Q' L h r o x h':=by obtain⟨L1,x1,l1,e1⟩:=a;exact⟨L1,x1,λm hm c=>l1 m hm (c.imp id λz y=>z (hQ m hm y)),e1.aK λm hm y=>y.imp id (hQ m hm)⟩
theorem fB.aC {W Q L h r o x h1 h'}(hx:eW eZ h h1)(a:fB W Q L h1 r o x h'):fB W Q L h r o x h':=by obtain⟨L1,x1,l1,e1⟩:=a;have hh:=hx.1;exact⟨L1,x1,λm hm c=>l1 m (by omega) c,hx.aD e1 (λ_ _ y=>y.elim) (λ_ _ y=>y)⟩
theorem fB.aG {W W' Q L h r o x h'}(a:fB W Q L h r o x h')(hW:∀k,W k->W' k):fB W' Q L h r o x h':=by obtain⟨L1,x1,l1,e1⟩:=a;exact⟨L1,x1,l1,e1.aK λm _ y=>y.imp (hW _) id⟩
theorem m8:∀k,wO k->wA k:=λk h=>by unfold wO at h;unfold wA;omega
theorem h_.aD {Q L h r o R R' out g f ma ca aa}(ra:nM L h r R g f)(oa:pn L h o out ma ca aa)(lt:∀m,L m≠0->m<h.length)(e1:R'.aH=R.aH)(e2:R'.aC=R.aC):
  fB wA Q L h r o ⟨R',out⟩ (h.set r (some (.aA 21 [R'.aJ g f] false))):=by
 have lr:=(UY.1 ra.aA).1;have ne:∀m,L m≠6->(h.set r (some (.aA 21 [R'.aJ g f] false)))[m]?=h[m]?:=λm hm=>UZ (by rintro rfl;exact hm ra.lr);have kg:gY (λm=>L m=1) h (h.set r (some (.aA 21 [R'.aJ g f] false))):=λm hm y hy=>(ne m (by omega)).trans hy;have kf:gY (λm=>L m=2) h (h.set r (some (.aA 21 [R'.aJ g f] false))):=λm hm y hy=>(ne m (by omega)).trans hy;refine⟨L,⟨⟨g,f,U5 lr,?_,ra.gc.aA ra.go kg,?_,ra.fc.aA ra.fo kf,ra.lr⟩,⟨ma,ca,aa,oa.aC (λ_ _ _=>rfl) λm hm y=>ne m (by omega)⟩,λm hm=>by rw[U9];exact lt m hm⟩,λ_ _ _=>rfl,eW.aI _ λ_=>.inl (by rw[ra.lr];unfold wA;omega)⟩;·rw[e1];exact eY.aC _ (λ_ y=>y) kg _ ra.go
 ·rw[e2];exact eY.aC _ (λ_ y=>y) kf _ ra.fo
theorem h_.aE {Q L h r o R R' out g f ma ca aa}(ra:nM L h r R g f)(oa:pn L h o out ma ca aa)(lt:∀m,L m≠0->m<h.length) (e1:R'.aH=[]) (e2:R'.aC=[]):
  fB wA Q L h r o ⟨R',out⟩ (h.set r (some (.aA 21 [R'.aJ .aD .aD] false))):=by
 have lr:=(UY.1 ra.aA).1;have ne:∀m,L m≠6->(h.set r (some (.aA 21 [R'.aJ .aD .aD] false)))[m]?=h[m]?:=λm hm=>UZ (by rintro rfl;exact hm ra.lr);refine⟨L,⟨⟨.aD,.aD,U5 lr,?_,Vd,?_,Vd,ra.lr⟩,⟨ma,ca,aa,oa.aC (λ_ _ _=>rfl) λm hm y=>ne m (by omega)⟩,λm hm=>by rw[U9];exact lt m hm⟩,λ_ _ _=>rfl,eW.aI _ λ_=>.inl (by rw[ra.lr];unfold wA;omega)⟩;·rw[e1];exact eY.aD 1
 ·rw[e2];exact eY.aD 4
open Classical in
noncomputable def kT (L:Nat->Nat) (Q:Nat->Prop) (a b k:Nat):Nat->Nat:=λm=>if L m=0/\m<b/\(Q m\/a<=m) then k else L m
theorem lP {L Q a b k m}(h:L m≠0\/(¬Q m/\m<a)):kT L Q a b k m=L m:=by
 unfold kT;rw[U6];rintro⟨h1,-,h2⟩;rcases h with h | ⟨h3,h4⟩;·exact h h1
 ·rcases h2 with h2 | h2;·exact h3 h2
  ·omega
theorem tS {L Q a b k m}(h1:L m=0)(hb:m<b)(h:Q m\/a<=m):kT L Q a b k m=k:=by unfold kT;rw[U4 ⟨h1,hb,h⟩]
theorem tR {L Q a b k m}(hl:L m≠0->m<b)(h:kT L Q a b k m≠0):m<b:=by
 unfold kT at h;split at h;·rename_i c;exact c.2.1
 ·exact hl h
def tq (L:Nat->Nat)(Q:Nat->Prop)(a k n:Nat):Prop:=L n=k\/(L n=0/\(Q n\/a<=n))
theorem h_.aG {Q L h r o R out g f ma ca aa}(ra:nM L h r R g f)(oa:pn L h o out ma ca aa)(lt:∀m,L m≠0->m<h.length){m:fJ}{e d:AV}{h1:eX}(hx:eW eZ h h1)(he:eY (gK m.es) Q h e)(hd:eY (gq m.aF) Q h d)
  (hQ:∀n,Q n->L n=0) (hb:(out.aD.length+1)*168<=2^46):
  ∃u h2,iu h1 17 168 ma [m.aD e d]=some (u,h2)/\u.aH=true/\eW (λn=>L n=3) h1 h2/\h2[o]?=some (some (.aA 5 [[ma,ca,aa,.aA .i64 out.aE,.aE out.aA]] false)) /\
   fB wO Q L h r o ⟨R,{out with aD:=out.aD++[m]}⟩ (h2.set o (some (.aA 5 [[u,ca,aa,.aA .i64 out.aE,.aE out.aA]] false))):=by
 have hi:fG [m.c] (λn=>Q n/\n<h.length) h1 [m.aD e d]:=by
  refine fG.aA [m.c] (λ_ y=>y) (λn hn y hy=>hx.aA hy) _ ?_
  refine fG.lt [m.c] _ ?_
  simp only[fG,fI,eY,fJ.c,fJ.aD]
  exact⟨_,_,rfl,⟨_,_,rfl,rfl,_,_,rfl,rfl,_,_,rfl,rfl,_,_,rfl,rfl,_,_,rfl,rfl,_,_,rfl,rfl,_,_,rfl,rfl,_,_,rfl,rfl,_,_,rfl,rfl,_,_,rfl,rfl,_,_,rfl,rfl,_,_,rfl,rfl,_,_,rfl,rfl,_,_,rfl,rfl,_,_,rfl,rfl,_,_,rfl,he,_,_,rfl,hd,rfl⟩,rfl⟩
 have ge:∀n,h.length<=n->L n=0:=λn hn=>Vb λz=>by have:=lt n z;omega
 have E:=oa.aC (h':=h1) (λ_ _ _=>rfl) (λn hn _=>hx.2 n hn (λy=>y))
 obtain⟨u,h2,s1,s2,s3,s4⟩:=Hs (sz:=17) (bytes:=168) (F:=tq L Q h.length 3) (ds:=out.aD.map fJ.c) (es:=[m.c]) oa.m oa.mc hx hi
  (λn hn=>⟨.inr ⟨hQ n hn.1,.inl hn.1⟩,by rw[hQ n hn.1];omega⟩) (λn hn=>.inl hn) (λn hn=>.inr ⟨ge n hn,.inr hn⟩) (by simpa using hb)
 have ob:=(UY.1 E.aA).1
 have st:∀n,n<h.length->L n≠3->n≠o->(h2.set o (some (.aA 5 [[u,ca,aa,.aA .i64 out.aE,.aE out.aA]] false)))[n]?=h[n]?:=λn hn h3 ho=>
  (UZ (λe=>ho e.symm)).trans ((s4.2 n (Vj hn hx.1) h3).trans (hx.2 n hn (λy=>y)))
 have ol:o<h.length:=(UY.1 oa.aA).1
 have I:o<h2.length:=by have:=s4.1;omega
 have nl:∀n,L n≠0->L n≠7->n≠o:=λn _ h7 e=>h7 (e▸oa.lo)
 have C:=eY.lt _ _ s2
 have km:gY (λn=>tq L Q h.length 3 n/\n<h2.length) h2 (h2.set o (some (.aA 5 [[u,ca,aa,.aA .i64 out.aE,.aE out.aA]] false))):=λn hn y hy=>
  (UZ (by rintro rfl;have:=oa.lo;rcases hn.1 with z | ⟨z,-⟩<;>omega)).trans hy
 have tm:∀n,tq L Q h.length 3 n/\n<h2.length->kT L Q h.length h2.length 3 n=3:=by
  rintro n ⟨z | ⟨z,z'⟩,hn⟩
  ·rw[lP (.inl (by omega))];exact z
  ·exact tS z hn z'
 have cl:=eY.lt _ _ oa.c
 have al:=eY.lt _ _ oa.a
 have kc:gY (λn=>L n=4/\n<h.length) h (h2.set o (some (.aA 5 [[u,ca,aa,.aA .i64 out.aE,.aE out.aA]] false))):=λn hn y hy=>(st n hn.2 (by omega) (nl n (by omega) (by omega))).trans hy
 have ka:gY (λn=>L n=5/\n<h.length) h (h2.set o (some (.aA 5 [[u,ca,aa,.aA .i64 out.aE,.aE out.aA]] false))):=λn hn y hy=>(st n hn.2 (by omega) (nl n (by omega) (by omega))).trans hy
 refine⟨u,h2,s1,s2.aA,s4,(s4.2 o ob (fun (z:L o=3)=>by rw[oa.lo]at z;omega)).trans E.aA,kT L Q h.length h2.length 3,⟨⟨g,f,ra.aC (λn _ hn=>lP (.inl hn)) λn hn c=>st n hn (by omega) (nl n (by omega) (by omega))⟩,⟨u,ca,aa,U5 I,?_,?_,?_,?_,?_,?_⟩,λn hn=>by rw[U9];exact tR (λz=>by have:=lt n z;have:=hx.1;have:=s4.1;omega) hn⟩,λn hn c=>lP ?_,?_⟩
 ·show eY (.sl 17 ((out.aD++[m]).map fJ.c)) _ _ _
  rw[show (out.aD++[m]).map fJ.c=out.aD.map fJ.c++[m.c] by simp]
  exact eY.aC _ tm km _ C
 ·exact s3.aA C km
 ·exact eY.aC _ (λn hn=>by rw[lP (.inl (by omega))];exact hn.1) kc _ cl
 ·exact oa.cc.aA cl kc
 ·exact eY.aC _ (λn hn=>by rw[lP (.inl (by omega))];exact hn.1) ka _ al
 ·rw[lP (.inl (by rw[oa.lo];omega))];exact oa.lo
 ·exact c.imp id λz=>⟨z,hn⟩
 ·refine (hx.aD s4 (F'':=λm=>wO (L m)\/Q m) (λ_ _ y=>y.elim) (λn _ (y:L n=3)=>.inl (.inl y))).aD (eW.aI (F:=λm=>m=o) _ (λ_=>rfl)) (λ_ _ y=>y) (λn _ y=>.inl (by rw[y,oa.lo];exact .inr (.inr (.inr rfl))))
theorem h_.aF {Q L h r o R out g f ma ca aa}(ra:nM L h r R g f)(oa:pn L h o out ma ca aa)(lt:∀m,L m≠0->m<h.length){m:gi}{e co cn ce sn:AV}{h1:eX}(hx:eW eZ h h1)(he:eY (gK m.aA.es) Q h e)(U:eY (fN m.aG.aA) Q h co)(O:eY (fN m.aG.aC) Q h cn)(M:eY (fN m.aG.aD) Q h ce)(hd:eY (gq m.aJ) Q h sn)
  (hQ:∀n,Q n->L n=0) (hb:(out.aC.length+1)*216<=2^46):
  ∃u h2,iu h1 17 216 ca [m.aF e co cn ce sn]=some (u,h2)/\u.aH=true/\eW (λn=>L n=4) h1 h2/\h2[o]?=some (some (.aA 5 [[ma,ca,aa,.aA .i64 out.aE,.aE out.aA]] false)) /\
   fB wO Q L h r o ⟨R,{out with aC:=out.aC++[m]}⟩ (h2.set o (some (.aA 5 [[ma,u,aa,.aA .i64 out.aE,.aE out.aA]] false))):=by
 have hi:fG [m.c] (λn=>Q n/\n<h.length) h1 [m.aF e co cn ce sn]:=by
  refine fG.aA [m.c] (λ_ y=>y) (λn hn y hy=>hx.aA hy) _ ?_
  refine fG.lt [m.c] _ ?_
  simp only[fG,fI,eY,gi.c,gi.aF]
  exact⟨_,_,rfl,⟨_,_,rfl,rfl,_,_,rfl,rfl,_,_,rfl,rfl,_,_,rfl,rfl,_,_,rfl,rfl,_,_,rfl,rfl,_,_,rfl,rfl,_,_,rfl,he,_,_,rfl,U,_,_,rfl,O,_,_,rfl,M,_,_,rfl,hd,_,_,rfl,rfl,_,_,rfl,rfl,_,_,rfl,rfl,_,_,rfl,rfl,_,_,rfl,rfl,rfl⟩,rfl⟩
 have ge:∀n,h.length<=n->L n=0:=λn hn=>Vb λz=>by have:=lt n z;omega
 have E:=oa.aC (h':=h1) (λ_ _ _=>rfl) (λn hn _=>hx.2 n hn (λy=>y))
 obtain⟨u,h2,s1,s2,s3,s4⟩:=Hs (sz:=17) (bytes:=216) (F:=tq L Q h.length 4) (ds:=out.aC.map gi.c) (es:=[m.c]) oa.c oa.cc hx hi
  (λn hn=>⟨.inr ⟨hQ n hn.1,.inl hn.1⟩,by rw[hQ n hn.1];omega⟩) (λn hn=>.inl hn) (λn hn=>.inr ⟨ge n hn,.inr hn⟩) (by simpa using hb)
 have ob:=(UY.1 E.aA).1
 have st:∀n,n<h.length->L n≠4->n≠o->(h2.set o (some (.aA 5 [[ma,u,aa,.aA .i64 out.aE,.aE out.aA]] false)))[n]?=h[n]?:=λn hn h3 ho=>
  (UZ (λe=>ho e.symm)).trans ((s4.2 n (Vj hn hx.1) h3).trans (hx.2 n hn (λy=>y)))
 have ol:o<h.length:=(UY.1 oa.aA).1
 have I:o<h2.length:=by have:=s4.1;omega
 have nl:∀n,L n≠0->L n≠7->n≠o:=λn _ h7 e=>h7 (e▸oa.lo)
 have C:=eY.lt _ _ s2
 have km:gY (λn=>tq L Q h.length 4 n/\n<h2.length) h2 (h2.set o (some (.aA 5 [[ma,u,aa,.aA .i64 out.aE,.aE out.aA]] false))):=λn hn y hy=>
  (UZ (by rintro rfl;have:=oa.lo;rcases hn.1 with z | ⟨z,-⟩<;>omega)).trans hy
 have tm:∀n,tq L Q h.length 4 n/\n<h2.length->kT L Q h.length h2.length 4 n=4:=by
  rintro n ⟨z | ⟨z,z'⟩,hn⟩
  ·rw[lP (.inl (by omega))];exact z
  ·exact tS z hn z'
 have cl:=eY.lt _ _ oa.m
 have al:=eY.lt _ _ oa.a
 have kc:gY (λn=>L n=3/\n<h.length) h (h2.set o (some (.aA 5 [[ma,u,aa,.aA .i64 out.aE,.aE out.aA]] false))):=λn hn y hy=>(st n hn.2 (by omega) (nl n (by omega) (by omega))).trans hy
 have ka:gY (λn=>L n=5/\n<h.length) h (h2.set o (some (.aA 5 [[ma,u,aa,.aA .i64 out.aE,.aE out.aA]] false))):=λn hn y hy=>(st n hn.2 (by omega) (nl n (by omega) (by omega))).trans hy
 refine⟨u,h2,s1,s2.aA,s4,(s4.2 o ob (fun (z:L o=4)=>by rw[oa.lo]at z;omega)).trans E.aA,kT L Q h.length h2.length 4,⟨⟨g,f,ra.aC (λn _ hn=>lP (.inl hn)) λn hn c=>st n hn (by omega) (nl n (by omega) (by omega))⟩,⟨ma,u,aa,U5 I,?_,?_,?_,?_,?_,?_⟩,λn hn=>by rw[U9];exact tR (λz=>by have:=lt n z;have:=hx.1;have:=s4.1;omega) hn⟩,λn hn c=>lP ?_,?_⟩
 ·exact eY.aC _ (λn hn=>by rw[lP (.inl (by omega))];exact hn.1) kc _ cl
 ·exact oa.mc.aA cl kc
 ·show eY (.sl 17 ((out.aC++[m]).map gi.c)) _ _ _
  rw[show (out.aC++[m]).map gi.c=out.aC.map gi.c++[m.c] by simp]
  exact eY.aC _ tm km _ C
 ·exact s3.aA C km
 ·exact eY.aC _ (λn hn=>by rw[lP (.inl (by omega))];exact hn.1) ka _ al
 ·rw[lP (.inl (by rw[oa.lo];omega))];exact oa.lo
 ·exact c.imp id λz=>⟨z,hn⟩
 ·refine (hx.aD s4 (F'':=λm=>wO (L m)\/Q m) (λ_ _ y=>y.elim) (λn _ (y:L n=4)=>.inl (.inr (.inl y)))).aD (eW.aI (F:=λm=>m=o) _ (λ_=>rfl)) (λ_ _ y=>y) (λn _ y=>.inl (by rw[y,oa.lo];exact .inr (.inr (.inr rfl))))
def qS (P:Program)(f:FuncId):Prop:=fK P f=true/\∀(Q:Nat->Prop)(L:Nat->Nat)(h:eX)(r o:Nat)(x:RX)(m:fJ)(e d:AV),h_ L h r o x->eY (gK m.es) Q h e->eY (gq m.aF) Q h d->(∀n,Q n->L n=0)->(x.o.aD.length+1)*168<=2^46->
 fC P f [.aF [.aC r 21 0 0,.aC o 5 0 0],.aF (m.aD e d)] h λ_ h'=>fB wO Q L h r o (x.aH m) h'
theorem SI {P:Program}{f:FuncId}(hf:Is P f Bz):qS P f:=by
 refine⟨hf.2,λQ L h r o x m e d hx he hd hQ hb=>fS hf ?_⟩;obtain⟨R,out⟩:=x;obtain⟨⟨g,f',ra⟩,⟨ma,ca,aa,oa⟩,lt⟩:=hx;have rr:=ra.aA;have u:=oa.aA;have lr:=(UY.1 rr).1;have lo:=(UY.1 u).1;simp only[fj.aJ]at rr;have R2:∀a b,(h++[a]++[b])[r]?=_:=λa b=>(eW.b2 a b).aA rr;have O2:∀a b,(h++[a]++[b])[o]?=_:=λa b=>(eW.b2 a b).aA u;have O3:∀a b c,(h++[a]++[b]++[c])[o]?=_:=λa b c=>(eW.b3 a b c).aA u;simp only[Bz,fJ.aD,go_sem,he.aA,hd.aA,R2,O3];refine⟨ig (by omega),?_⟩;have l2:(h++[some (e_.aA 2 [[.aC r 21 0 0,.aC o 5 0 0]] false)]++[some (e_.aA 17 [[.aA .i64 m.aE,.aA .i64 R.id,.aA .i64 m.to,.aA .i64 R.aA.aE,.aA .i64 R.aA.aC,.aA .i64 m.aA,.aA .i64 m.aH,.aA .i64 m.aI,.aA .i64 m.aM,.aA .i64 m.aQ,.aA .i64 m.aO,.aA .i64 m.aN,.aA .i64 m.aR,.aA .i64 m.aP,.aE m.ok,e,d]] false)]).length=h.length+2:=by simp
 have ae:=lG (h++[some (e_.aA 2 [[.aC r 21 0 0,.aC o 5 0 0]] false)]++[some (e_.aA 17 [[.aA .i64 m.aE,.aA .i64 R.id,.aA .i64 m.to,.aA .i64 R.aA.aE,.aA .i64 R.aA.aC,.aA .i64 m.aA,.aA .i64 m.aH,.aA .i64 m.aI,.aA .i64 m.aM,.aA .i64 m.aQ,.aA .i64 m.aO,.aA .i64 m.aN,.aA .i64 m.aR,.aA .i64 m.aP,.aE m.ok,e,d]] false)]) 17 [[.aA .i64 m.aE,.aA .i64 R.id,.aA .i64 m.to,.aA .i64 R.aA.aE,.aA .i64 R.aA.aC,.aA .i64 m.aA,.aA .i64 m.aH,.aA .i64 m.aI,.aA .i64 m.aM,.aA .i64 m.aQ,.aA .i64 m.aO,.aA .i64 m.aN,.aA .i64 m.aR,.aA .i64 m.aP,.aE m.ok,e,d]] false (some 1) (len:=1) rfl;have X3:=eW.b3 (h:=h) (some (e_.aA 2 [[.aC r 21 0 0,.aC o 5 0 0]] false)) (some (e_.aA 17 [[.aA .i64 m.aE,.aA .i64 R.id,.aA .i64 m.to,.aA .i64 R.aA.aE,.aA .i64 R.aA.aC,.aA .i64 m.aA,.aA .i64 m.aH,.aA .i64 m.aI,.aA .i64 m.aM,.aA .i64 m.aQ,.aA .i64 m.aO,.aA .i64 m.aN,.aA .i64 m.aR,.aA .i64 m.aP,.aE m.ok,e,d]] false)) (some (e_.aA 17 [[.aA .i64 m.aE,.aA .i64 R.id,.aA .i64 m.to,.aA .i64 R.aA.aE,.aA .i64 R.aA.aC,.aA .i64 m.aA,.aA .i64 m.aH,.aA .i64 m.aI,.aA .i64 m.aM,.aA .i64 m.aQ,.aA .i64 m.aO,.aA .i64 m.aN,.aA .i64 m.aR,.aA .i64 m.aP,.aE m.ok,e,d]] false));obtain⟨ma',h2,s1,s2,s3,s4,s5⟩:=h_.aG ra oa lt (m:={m with aC:=R.id,aL:=R.aA.aE,aG:=R.aA.aC}) X3 he hd hQ hb;simp only[fJ.aD]at s1;rw[<-iv ae,l2]at s1;rw[s1];have l3:o<h2.length:=(UY.1 s4).1;have ge:∀n,h.length<=n->L n=0:=λn hn=>Vb λz=>by have:=lt n z;omega
 have C0:=(s3.2 h.length (by simp) (fun (z:L _=3)=>by rw[ge _ (U8 _)]at z;omega)).trans (pC h _ _ _);have C1:=(s3.2 (h.length+1) (by simp) (fun (z:L _=3)=>by rw[ge _ (by omega)]at z;omega)).trans (p_ h _ _ _);simp only[go_sem,s2,gz s2,s4,l3,C0,C1];exact s5
def sK (P:Program)(f:FuncId):Prop:=fK P f=true/\∀(Q:Nat->Prop)(L:Nat->Nat)(h:eX)(r o:Nat)(x:RX)(m:gi)(e co cn ce sn:AV),h_ L h r o x->eY (gK m.aA.es) Q h e->eY (fN m.aG.aA) Q h co->eY (fN m.aG.aC) Q h cn->eY (fN m.aG.aD) Q h ce->eY (gq m.aJ) Q h sn->
 (∀n,Q n->L n=0)->(x.o.aC.length+1)*216<=2^46->fC P f [.aF [.aC r 21 0 0,.aC o 5 0 0],.aF (m.aF e co cn ce sn)] h λ_ h'=>fB wO Q L h r o (x.aX m) h'
theorem Tj {P:Program}{f:FuncId}(hf:Is P f BD):sK P f:=by
 refine⟨hf.2,λQ L h r o x m e co cn ce sn hx he I E C hd hQ hb=>fS hf ?_⟩;obtain⟨R,out⟩:=x;obtain⟨⟨g,f',ra⟩,⟨ma,ca,aa,oa⟩,lt⟩:=hx;have rr:=ra.aA;have u:=oa.aA;have lr:=(UY.1 rr).1;have lo:=(UY.1 u).1;simp only[fj.aJ]at rr;have R2:∀a b,(h++[a]++[b])[r]?=_:=λa b=>(eW.b2 a b).aA rr;have O2:∀a b,(h++[a]++[b])[o]?=_:=λa b=>(eW.b2 a b).aA u;have O3:∀a b c,(h++[a]++[b]++[c])[o]?=_:=λa b c=>(eW.b3 a b c).aA u;simp only[BD,gi.aF,go_sem,he.aA,I.aA,E.aA,C.aA,hd.aA,R2,O3];refine⟨ig (by omega),?_⟩;have l2:(h++[some (e_.aA 2 [[.aC r 21 0 0,.aC o 5 0 0]] false)]++[some (e_.aA 17 [[.aA .i64 m.aC,.aA .i64 R.aA.aE,.aA .i64 m.aK,.aA .i64 m.aL,.aA .i64 m.aE,.aA .i64 m.aA.aA,.aA .i64 m.aA.aD,e,co,cn,ce,sn,.aA .i64 m.aD.aA,.aA .i64 m.aD.aC,.aA .i64 m.aD.aE,.aA .i64 m.aD.aD,.aA .i64 m.aD.aF]] false)]).length=h.length+2:=by simp
 have ae:=lG (h++[some (e_.aA 2 [[.aC r 21 0 0,.aC o 5 0 0]] false)]++[some (e_.aA 17 [[.aA .i64 m.aC,.aA .i64 R.aA.aE,.aA .i64 m.aK,.aA .i64 m.aL,.aA .i64 m.aE,.aA .i64 m.aA.aA,.aA .i64 m.aA.aD,e,co,cn,ce,sn,.aA .i64 m.aD.aA,.aA .i64 m.aD.aC,.aA .i64 m.aD.aE,.aA .i64 m.aD.aD,.aA .i64 m.aD.aF]] false)]) 17 [[.aA .i64 m.aC,.aA .i64 R.aA.aE,.aA .i64 m.aK,.aA .i64 m.aL,.aA .i64 m.aE,.aA .i64 m.aA.aA,.aA .i64 m.aA.aD,e,co,cn,ce,sn,.aA .i64 m.aD.aA,.aA .i64 m.aD.aC,.aA .i64 m.aD.aE,.aA .i64 m.aD.aD,.aA .i64 m.aD.aF]] false (some 1) (len:=1) rfl;have X3:=eW.b3 (h:=h) (some (e_.aA 2 [[.aC r 21 0 0,.aC o 5 0 0]] false)) (some (e_.aA 17 [[.aA .i64 m.aC,.aA .i64 R.aA.aE,.aA .i64 m.aK,.aA .i64 m.aL,.aA .i64 m.aE,.aA .i64 m.aA.aA,.aA .i64 m.aA.aD,e,co,cn,ce,sn,.aA .i64 m.aD.aA,.aA .i64 m.aD.aC,.aA .i64 m.aD.aE,.aA .i64 m.aD.aD,.aA .i64 m.aD.aF]] false)) (some (e_.aA 17 [[.aA .i64 m.aC,.aA .i64 R.aA.aE,.aA .i64 m.aK,.aA .i64 m.aL,.aA .i64 m.aE,.aA .i64 m.aA.aA,.aA .i64 m.aA.aD,e,co,cn,ce,sn,.aA .i64 m.aD.aA,.aA .i64 m.aD.aC,.aA .i64 m.aD.aE,.aA .i64 m.aD.aD,.aA .i64 m.aD.aF]] false));obtain⟨ca',h2,s1,s2,s3,s4,s5⟩:=h_.aF ra oa lt (m:={m with aH:=R.aA.aE}) X3 he I E C hd hQ hb;simp only[gi.aF]at s1;rw[<-iv ae,l2]at s1;rw[s1];have l3:o<h2.length:=(UY.1 s4).1;have ge:∀n,h.length<=n->L n=0:=λn hn=>Vb λz=>by have:=lt n z;omega
 have C0:=(s3.2 h.length (by simp) (fun (z:L _=4)=>by rw[ge _ (U8 _)]at z;omega)).trans (pC h _ _ _);have C1:=(s3.2 (h.length+1) (by simp) (fun (z:L _=4)=>by rw[ge _ (by omega)]at z;omega)).trans (p_ h _ _ _);simp only[go_sem,s2,gz s2,s4,l3,C0,C1];exact s5
def mv (h:eX)(r:Nat)(x:fj):Prop:=∃g f,h[r]?=some (some (.aA 21 [x.aJ g f] false))
theorem h_.aA {L h r o x}(a:h_ L h r o x):mv h r x.r:=let⟨g,f,ra⟩:=a.r;⟨g,f,ra.aA⟩
theorem mv.up {h h' r x}(a:mv h r x)(hx:eW eZ h h'):mv h' r x:=let⟨g,f,e⟩:=a;⟨g,f,hx.aA e⟩
theorem wo.p {P:Program}{f:FuncId}(hc:wo P f):qM P f:=⟨hc.1,λG h x e ha hR=>(hc.2 G h x e ha hR).aC λ_ _ ⟨_,h1,h2,h3⟩=>⟨h3,_,h1▸gU.aC (gU.aA (fI.fz _ (λ_ x=>x) _ h2)) (gU.aD _ _),rfl⟩⟩
theorem xQ (x:fF)(h:eX):fu eZ h x.c [.aA .i64 x.aE,.aA .i64 x.aC,.aA .i64 x.aF,.aA .i64 x.aA.aA,.aA .i64 x.aA.aD,jv x.aA.es,ga x.aD.aA,ga x.aD.aC,ga x.aD.aD,iS x.aG]:=by rw[<-fF.aM];exact HO eZ h x
theorem mX (x:fA)(h:eX):fu eZ h x.c [.aA .i64 x.aA,.aA .i64 x.aD,jv x.es]:=by rw[<-fA.aM];exact Dd eZ h x
theorem tP (x:fq)(h:eX):fu eZ h x.c [ga x.aA,ga x.aC,ga x.aD]:=by rw[<-fq.aP];exact vE eZ h x
attribute [go_sem] qA nH tX
def qL (P:Program)(f:FuncId):Prop:=fK P f=true/\∀(h:eX)(r:Nat)(x:fj),mv h r x->x.aA.aN->fC P f [.aC r 21 0 0] h λres h'=>res=.aF x.aM.v/\h'=h
def pt (P:Program)(f:FuncId):Prop:=fK P f=true/\∀(h:eX)(r:Nat)(x:fj),mv h r x->jL x.aA.aA->fC P f [.aC r 21 0 0] h λres h'=>res=.aA .i64 x.aL/\h'=h
def uG (P:Program)(f:FuncId):Prop:=fK P f=true/\∀(h:eX)(r:Nat)(x:fj)(n:Int),mv h r x->x.aA.aN->x.aM.aG (2^30)->fC P f [.aC r 21 0 0,.aA .i64 n] h λres h'=>res=.aE (x.aZ n)/\h'=h
def rZ (P:Program)(f:FuncId):Prop:=fK P f=true/\∀(h:eX)(r o:Nat),fC P f [.aC r 21 0 0,.aC o 5 0 0] h λres h'=>res=.aF [.aC r 21 0 0,.aC o 5 0 0]/\eW eZ h h'
theorem Py {P:Program}{f g:FuncId}(hf:Is P f (Bs g))(hg:qM P g):qL P f:=by refine⟨hf.2,λh r x hr hR=>fC.aC (K:=λres h'=>res=.aF x.aM.v/\eW eZ h h') (fS hf ?_) (λr _ ⟨e,hx⟩=>⟨hx,r,by rw[e];exact gU.aA (Cm _ _ _),e⟩)⟩;obtain⟨gg,ff,rr⟩:=hr;have lr:=(UY.1 rr).1;simp only[fj.aJ]at rr;have R1:∀a,(h++[a])[r]?=_:=λa=>(eW.b1 a).aA rr;have u:=λH=>hg.2 eZ H x.aA _ (xQ x.aA H) hR;simp only[fq.aP]at u;simp only[Bs,go_sem,R1];refine fZ hg.1 (u _) ?_;simp only[go_sem];exact⟨by unfold fj.aM;rw[fq.aP],eW.b2 _ _⟩
theorem OC {P:Program}{f g:FuncId}(hf:Is P f (Bq g))(hg:oz P g):pt P f:=by refine⟨hf.2,λh r x hr hl=>fS hf ?_⟩;obtain⟨gg,ff,rr⟩:=hr;simp only[fj.aJ]at rr;simp only[Bq,go_sem,rr];refine fZ hg.1 (hg.2 eZ h x.aA.aA _ (mX x.aA.aA h) hl) ?_;simp only[go_sem];rfl
theorem Uy {P:Program}{f g v c:FuncId}(hf:Is P f (Bt g v c))(hg:qL P g)(hv:oB P v fq.aK)(hc:mo P c):uG P f:=by
 refine⟨hf.2,λh r x n hr hR C=>fC.aC (K:=λres h'=>res=.aE (x.aZ n)/\eW eZ h h') (fS hf ?_) (λr _ ⟨e,hx⟩=>⟨hx,r,by rw[e];exact gU.aE _,e⟩)⟩;simp only[Bt,go_sem];refine fZ hg.1 (hg.2 h r x hr hR) ?_;simp only[go_sem];refine fy ⟨hv.1,hv.2 eZ h x.aM _ (vE eZ h x.aM) ⟨by have:=C.1;omega,by have:=C.2.1;omega,by have:=C.2.2;omega⟩⟩ ?_;rintro w H ⟨ow,hx⟩;simp only[go_sem];have vl:x.aM.aK.length<=2^40:=by have u:=x9 (x.aM.aA++x.aM.aC);simp only[U1]at u;have:=C.1;have:=C.2.1;simp only[fq.aK];omega
 refine fZ hc.1 (hc.2 (λ_=>True) H _ w n (eY.rd _ (λ_ _=>Vd) _ ow) vl) ?_;simp only[go_sem];exact⟨rfl,hx⟩
theorem KO {P:Program}{f:FuncId}(hf:Is P f Bn):rZ P f:=by refine⟨hf.2,λh r o=>fS hf ?_⟩;simp only[Bn,go_sem];exact eW.b1 _
def qJ (P:Program)(f:FuncId):Prop:=fK P f=true/\∀(L:Nat->Nat)(h:eX)(r o:Nat)(x:RX)(l:Int),h_ L h r o x->fC P f [.aC r 21 0 0,.aA .i64 l] h λ_ h'=>fB wA eZ L h r o (x.aR l) h'
theorem MQ {P:Program}{f:FuncId}(hf:Is P f Bp):qJ P f:=by refine⟨hf.2,λL h r o x l hx=>fS hf ?_⟩;obtain⟨R,out⟩:=x;obtain⟨⟨g,f',ra⟩,⟨ma,ca,aa,oa⟩,lt⟩:=hx;have rr:=ra.aA;have lr:=(UY.1 rr).1;simp only[fj.aJ]at rr;simp only[Bp,go_sem,rr,lr,VX];exact h_.aE (R':=R.aU l) ra oa lt rfl rfl
def uF (P:Program)(f:FuncId):Prop:=fK P f=true/\∀(L:Nat->Nat)(h:eX)(r o:Nat)(x:RX)(t v:Int),h_ L h r o x->(x.o.aC.length+1)*216<=2^46->fC P f [.aF [.aC r 21 0 0,.aC o 5 0 0],.aA .i64 t,.aA .i64 v] h λ_ h'=>fB wA eZ L h r o (x.aJ t v) h'
theorem Tk {P:Program}{f g:FuncId}(hf:Is P f (BE g))(hg:sK P g):uF P f:=by
 refine⟨hf.2,λL h r o x t v hx hb=>fS hf ?_⟩;obtain⟨R,out⟩:=x;have C:=hx.up (eW.b1 (some (e_.aA 2 [[.aC r 21 0 0,.aC o 5 0 0]] false)));obtain⟨⟨g',f',ra⟩,⟨ma,ca,aa,oa⟩,lt⟩:=C;have e:=hx.lt;have rr:=ra.aA;have lr:=(UY.1 rr).1;have B0:=gJ h (some (e_.aA 2 [[.aC r 21 0 0,.aC o 5 0 0]] false));have lrh:r<h.length:=e r (by rw[ra.lr];omega);have ne:¬r=h.length:=by omega
 have X1:=eW.b1 (h:=h) (some (e_.aA 2 [[.aC r 21 0 0,.aC o 5 0 0]] false));simp only[fj.aJ]at rr;have u:r<h.length+1:=by omega
 simp only[BE,go_sem,rr,u,ne,B0,U9,VX];have T:fB wA eZ L (h++[some (e_.aA 2 [[.aC r 21 0 0,.aC o 5 0 0]] false)]) r o ⟨{R with aA:={R.aA with aC:=t,aF:=v}},out⟩ _:=h_.aD (R':={R with aA:={R.aA with aC:=t,aF:=v}}) ra oa lt rfl rfl;simp only[fj.aJ]at T;refine fy ⟨hg.1,fB.aK T (λ_ _ y=>y) λL1 x1=>(hg.2 eZ L1 _ r o _ {gi.aI with aC:=1,aK:=t,aL:=v} .aD .aD .aD .aD .aD x1 (eY.aD 3) (eY.aD 1) (eY.aD 1) (eY.aD 1) (eY.aD 1) (λ_ y=>y.elim) hb).aA λ_ _ b=>b.aG m8⟩ ?_;intro _ h' b;simp only[go_sem];exact fB.aC X1 b
def qU (P:Program)(f:FuncId):Prop:=fK P f=true/\∀(L:Nat->Nat)(h:eX)(r o:Nat)(x:RX)(w:fV),h_ L h r o x->w.aJ->x.r.aA.aQ->(x.o.aD.length+1)*168<=2^46->
 fC P f [.aF [.aC r 21 0 0,.aC o 5 0 0],.aF w.aA] h λ_ h'=>fB wO eZ L h r o (x.to w) h'
theorem Tp {P:Program}{f g k:FuncId}(hf:Is P f (BF g k))(hg:yC P g)(hk:qS P k):qU P f:=by refine⟨hf.2,λL h r o x w hx hw u hb=>fS hf ?_⟩;obtain⟨R,out⟩:=x;have I:=λa b=>hx.up (eW.b2 (h:=h) a b);have lt:=hx.lt;obtain⟨⟨g',f',ra⟩,-,-⟩:=id hx;have rr:=ra.aA;simp only[fj.aJ]at rr;have R2:∀a b,(h++[a]++[b])[r]?=_:=λa b=>(eW.b2 a b).aA rr;have X2:=eW.b2 (h:=h) (some (e_.aA 2 [[.aC r 21 0 0,.aC o 5 0 0]] false)) (some (e_.aA 4 [w.aA] false));have B0:=jx h (some (e_.aA 2 [[.aC r 21 0 0,.aC o 5 0 0]] false)) (some (e_.aA 4 [w.aA] false));have C:=I (some (e_.aA 2 [[.aC r 21 0 0,.aC o 5 0 0]] false)) (some (e_.aA 4 [w.aA] false));have nx:=hg.2 (h++[some (e_.aA 2 [[.aC r 21 0 0,.aC o 5 0 0]] false)]++[some (e_.aA 4 [w.aA] false)]) w R.id R.aA R.aE R.bw hw u;simp only[fF.aM,fV.aA]at nx X2 B0 C;simp only[BF,fV.aA,go_sem,R2];refine fy ⟨hg.1,nx⟩ ?_;rintro _ H ⟨e,d,rfl,he,hd,hX⟩;have l2:=X2.1;simp only[nD]at he hd l2;have E:=C.up hX;have RH:=hX.aA (R2 _ _);have C0:=hX.aA B0;have C1:=hX.aA (iF h (some (e_.aA 2 [[.aC r 21 0 0,.aC o 5 0 0]] false)) (some (e_.aA 4 [[.aA .i64 w.aE,.aA .i64 w.aC,.aA .i64 w.aD,.aA .i64 w.aH]] false)));rw[iG];simp only[go_sem,RH,C0,C1];refine fy ⟨hk.1,hk.2 (λn=>h.length+2<=n) L H r o _ _ e d E he hd (λn hn=>Vb λz=>by have:=lt n z;omega) hb⟩ ?_;intro _ h' T;have XX:=X2.tr hX;rw[iG];simp only[go_sem];exact (fB.aC XX T).aT λm hm (y:h.length+2<=m)=>by omega
end Glb
