/-
  A library of its own.
-/
import Derived.Test.YtdeiamnhnfmilaaGreatGlbConE
import Derived.Test.YtdeiamnhnfmilaaGreatGlbFloB
import Derived.Test.YtdeiamnhnfmilaaGreatGlbVotA
import Derived.Test.YtdeiamnhnfmilaaGreatGlbCraft
set_option linter.unusedSimpArgs false
set_option linter.unusedVariables false
set_option maxRecDepth 10000
set_option maxHeartbeats 8000000
open Nat (reduceAdd reduceDiv reduceEqDiff reduceLeDiff reduceMod reducePow)
namespace Glb
open Go
structure b4_ where
 id:Int
 hard:d7_
 commit:Int
 applied:Int
 role:Int
 leader:Int
 elapsed:Int
 timeout:Int
 granted:List Int
 flows:List j2_
 round:Int
 beat:Int
 deriving DecidableEq
structure Rdy where
 msgs:List Msg
 changes:List b9_
 apply:List e0_
 first:Int
 restore:Bool
 deriving DecidableEq
structure RX where
 r:b4_
 o:Rdy
 deriving DecidableEq
def Rdy.none:Rdy:=⟨[],[],[],0,false⟩
def Msg.zero:Msg:=⟨0,0,0,0,0,0,0,0,0,0,0,0,0,0,false,[],[]⟩
def b9_.zero:b9_:=⟨0,0,0,0,0,⟨0,0,[]⟩,⟨[],[],[]⟩,[],⟨0,0,0,0,0⟩⟩
def b4_.new (id:Int)(h:d7_)(draw:Int):b4_:=⟨id,h,h.log.base,h.log.base,0,0,0,r_f draw,[],[],0,0⟩
def b4_.now (r:b4_):e3_:=r.hard.of.1
def b4_.last (r:b4_):Int:=r.hard.log.last
def b4_.voter (r:b4_)(node:Int):Bool:=decide (node∈r.now.voters)
def b4_.follow (r:b4_)(leader:Int):b4_:={r with role:=0,leader:=leader,flows:=[],granted:=[]}
def RX.send (x:RX)(m:Msg):RX:={x with o:={x.o with msgs:=x.o.msgs++[{m with from_:=x.r.id,group:=x.r.hard.group,term:=x.r.hard.term}]}}
def RX.tell (x:RX)(c:b9_):RX:={x with o:={x.o with changes:=x.o.changes++[{c with group:=x.r.hard.group}]}}
def RX.term (x:RX)(term voted:Int):RX:=({x with r:={x.r with hard:={x.r.hard with term:=term,vote:=voted}}}:RX).tell {b9_.zero with kind:=1,term:=term,voted:=voted}
def RX.follow (x:RX)(leader:Int):RX:={x with r:=x.r.follow leader}
def RX.to (x:RX)(f:j2_):RX:=x.send (f.send x.r.id x.r.hard x.r.commit x.r.round)
def RX.each (x:RX)(l:List j2_):RX:=l.foldl RX.to x
def A8_ (was:List j2_)(node last:Int):j2_:=(was.find? λf=>decide (f.node=node)).getD ⟨node,last+1,0,0⟩
def b4_.meet (r:b4_)(was:List j2_)(last:Int):b4_:={r with flows:=(r.now.members.filter λn=>!decide (n=r.id)).map λn=>A8_ was n last}
def RX.lay (x:RX)(kind:Int)(data:List Int):RX:=
 let last:=x.r.last
 let l:=x.r.hard.log.laid last [⟨x.r.hard.term,kind,data⟩]
 let y:RX:=({x with r:={x.r with hard:={x.r.hard with log:=l}}}:RX).tell {b9_.zero with kind:=2,from_:=last+1,log:=⟨0,0,l.slice (last+1) 1⟩}
 if kind=2 then {y with r:=y.r.meet y.r.flows last} else y
def b4_.settled (r:b4_):Int:=r.now.agreed (r.id :: r.flows.map j2_.node) (r.last :: r.flows.map j2_.mat)
def b4_.settle (r:b4_):b4_:=if r.commit<r.settled/\r.hard.log.has r.settled=true/\r.hard.log.term r.settled=r.hard.term then {r with commit:=r.settled} else r
def RX.settle (x:RX):RX:={x with r:=x.r.settle}
def RX.on (x:RX):RX:=x.each x.r.flows
def RX.lead (x:RX):RX:=
 let r:b4_:={x.r with role:=2,leader:=x.r.id,beat:=0,granted:=[],flows:=[]}
 ((({x with r:=r.meet [] r.last}:RX).lay 0 []).on).settle
def b4_.ends (r:b4_):b4_:=if r.role=2/\r.hard.of.2<=r.commit/\r.voter r.id=false then r.follow 0 else r
def RX.ends (x:RX):RX:=
 let r:=x.r.ends
 if r.commit<=r.applied then ⟨r,x.o⟩ else ⟨{r with applied:=r.commit},{x.o with first:=r.applied+1,apply:=r.hard.log.slice (r.applied+1) (r.commit-r.applied)}⟩
def RX.sends (x:RX)(l:List Msg):RX:=l.foldl RX.send x
def RX.stand (x:RX)(draw:Int):RX:=
 let y:=(x.term (x.r.hard.term+1) x.r.id).follow 0
 let z:RX:={y with r:={y.r with role:=1,elapsed:=0,timeout:=r_f draw,granted:=[y.r.id]}}
 if z.r.now.won z.r.granted then z.lead else z.sends (k_x z.r.id z.r.hard.group z.r.hard.term z.r.hard.log z.r.now)
def b4_.begin (r:b4_):RX:=⟨r,Rdy.none⟩
def b4_.tick (r:b4_)(draw:Int):RX:=
 if r.role=2 then (if r.beat+1≥2 then (({r with beat:=0}:b4_).begin).on else ({r with beat:=r.beat+1}:b4_).begin).ends
 else
  let s:b4_:={r with elapsed:=r.elapsed+1}
  (if s.timeout<=s.elapsed/\s.voter s.id=true/\s.hard.term<2^40/\s.last<2^40 then s.begin.stand draw else s.begin).ends
def RX.asked (x:RX)(m:Msg):RX:=
 let ok:=I3_ x.r.hard.term x.r.hard.vote x.r.hard.log m
 let y:RX:=if ok then (let z:RX:={x with r:={x.r with elapsed:=0}};if z.r.hard.vote=m.from_ then z else z.term z.r.hard.term m.from_) else x
 y.send {Msg.zero with kind:=2,to:=m.from_,ok:=ok}
def RX.voted (x:RX)(m:Msg):RX:=
 if ¬x.r.role=1\/m.ok=false\/m.from_∈x.r.granted\/x.r.voter m.from_=false then x else
 let y:RX:={x with r:={x.r with granted:=x.r.granted++[m.from_]}}
 if y.r.now.won y.r.granted then y.lead else y
def RX.answer (x:RX)(m:Msg)(ok:Bool)(index:Int):RX:=x.send {Msg.zero with kind:=4,to:=m.from_,ok:=ok,index:=index,round:=m.round}
def RX.append (x:RX)(m:Msg):RX:=
 if m.index<x.r.hard.log.base then x.answer m true x.r.commit else
 if x.r.hard.log.has m.index=false\/¬x.r.hard.log.term m.index=m.prev then x.answer m false (max 0 (min x.r.last (m.index-1))) else
 let l:=x.r.hard.log.laid m.index m.es
 let at':=x.r.hard.log.laidAt m.index m.es
 if 0<at'/\at'<=x.r.commit then x else
 let y:RX:=if 0<at' then ({x with r:={x.r with hard:={x.r.hard with log:=l}}}:RX).tell {b9_.zero with kind:=2,from_:=at',log:=⟨0,0,l.slice at' l.es.length⟩} else x
 ({y with r:={y.r with commit:=max y.r.commit (min m.commit (m.index+m.es.length))}}:RX).answer m true (m.index+m.es.length)
def t_1 (l:List j2_)(node:Int):Option Nat:=l.findIdx? λf=>decide (f.node=node)
def RX.heard (x:RX)(m:Msg):RX:=
 if ¬x.r.role=2 then x else
 match t_1 x.r.flows m.from_ with
 | none=>x
 | some i=>
  let f:=((x.r.flows[i]?).getD ⟨0,0,0,0⟩).heard m
  let y:RX:={x with r:={x.r with flows:=x.r.flows.set i f}}
  let z:=if m.ok then y.settle else y
  if m.ok=false\/f.next<=z.r.last then z.to f else z
def b4_.snapped (r:b4_)(base term:Int):Log:=if r.hard.log.has base=true/\r.hard.log.term base=term then r.hard.log.cut base else ⟨base,term,[]⟩
def RX.base (x:RX)(base term:Int)(c:e3_)(snap:List Int):RX:=
 ({x with r:={x.r with hard:={x.r.hard with log:=x.r.snapped base term,conf:=c,snap:=snap}}}:RX).tell {b9_.zero with kind:=3,log:=⟨base,term,[]⟩,conf:=c,snap:=snap}
def l5_ (l:List Int):List Int×List Int×Int:=
 let a:=k_g.dec (some l)
 let b:=k_g.dec a.2
 (a.1,b.1,b.2.end_)
def RX.restore (x:RX)(m:Msg):RX:=
 if m.index<=x.r.commit then x.answer m true x.r.commit else
 let s:=l5_ m.data
 if ¬s.2.2=0\/¬(g5_ s.1).2=0 then x else
 let y:=x.base m.index m.prev (g5_ s.1).1 s.2.1
 (⟨{y.r with commit:=m.index,applied:=m.index},{y.o with restore:=true}⟩:RX).answer m true m.index
def RX.step (x:RX)(m:Msg):RX:=
 if ¬m.group=x.r.hard.group\/m.kind<1\/5<m.kind\/(m.kind=1/\x.r.voter m.from_=false) then x else
 let y:=if x.r.hard.term<m.term then (x.term m.term 0).follow 0 else x
 if m.term<y.r.hard.term then
  (if m.kind=1 then y.send {Msg.zero with kind:=2,to:=m.from_} else if m.kind=3\/m.kind=5 then y.send {Msg.zero with kind:=4,to:=m.from_} else y)
 else if m.kind=1 then y.asked m else if m.kind=2 then y.voted m else if m.kind=4 then y.heard m
 else if y.r.role=2 then y else
  let z:RX:={y with r:={y.r.follow m.from_ with elapsed:=0}}
  if m.kind=3 then z.append m else z.restore m
def b4_.step (r:b4_)(m:Msg):RX:=(r.begin.step m).ends
def b4_.propose (r:b4_)(kind:Int)(data:List Int):Int×RX×Int:=
 if ¬r.role=2 then (0,r.begin,30) else
 if ¬kind=1/\¬kind=2 then (0,r.begin,13) else
 if kind=2/\¬(g5_ data).2=0 then (0,r.begin,4) else
 if 2^40<=r.last then (0,r.begin,17) else
 (r.last+1,(((r.begin.lay kind data).on).settle).ends,0)
theorem laid_one (l:Log)(e:e0_):l.laid l.last [e]=⟨l.base,l.bterm,l.es++[e]⟩:=by
 have h1:l.has l.last=true:=by unfold Log.has Log.last;simp;omega
 have h2:l.has (l.last+1)=false:=by unfold Log.has;simp;omega
 have h3:l.agree (l.last+1) [e]=0:=by simp[Log.agree,h2]
 unfold Log.laid
 rw[if_pos ⟨h1,by rw[h3];simp⟩,h3]
 congr 1
 rw[show (l.last+((0:Nat):Int)-l.base).toNat=l.es.length by unfold Log.last;omega]
 simp
theorem i_j (l:Log)(e:e0_):(l.laid l.last [e]).slice (l.last+1) 1=[e]:=by
 rw[laid_one]
 unfold Log.slice
 have h:(⟨l.base,l.bterm,l.es++[e]⟩:Log).last=l.last+1:=by unfold Log.last;simp;omega
 rw[h,if_neg (by unfold Log.last;simp only;omega)]
 simp only
 rw[show (l.last+1-l.base-1).toNat=l.es.length by unfold Log.last;omega]
 simp
theorem n_r {sz bytes:Nat}{F F0 Q:Nat->Prop}{ds es:List (List D)}{h0 h:a0_}{av:AV}{ys:List (List AV)}(ho:Own (.sl sz ds) F0 h0 av)(hc:d2_ h0 av)
  (hx:Ext nof h0 h) (hy:a8_ es Q h ys) (hQ:∀m,Q m->F m/\¬F0 m) (h0F:∀m,F0 m->F m) (hF:∀m,h0.length<=m->F m) (hb:(ds.length+es.length)*bytes<=2^46):
  ∃av' h',d3_ h sz bytes av ys=some (av',h')/\Own (.sl sz (ds++es)) F h' av'/\d2_ h' av'/\Ext F0 h h':=by
 have hyl:=k1_ hy
 have fresh:∀(hh:a0_) (dd:List (List D)) (es':List (List AV)),F hh.length->a8_ dd F hh es'->
   Own (.sl sz dd) F (c0_ hh sz es').2 (c0_ hh sz es').1/\d2_ (c0_ hh sz es').2 (c0_ hh sz es').1:=by
  intro hh dd es' hl hd
  have hlen:=k1_ hd
  refine⟨?_,⟨es',true,by simp[c0_],(λ_=>rfl),(λc hc=>by cases hc)⟩⟩
  simp only[Own,c0_]
  refine .inr (.inr ⟨hh.length,0,none,es',true,by rw[hlen],hl,by simp,by omega,(λc hc=>by cases hc),?_⟩)
  have:(es'.drop 0).take dd.length=es':=by rw[L_d,K_r (by omega)]
  rw[this]
  refine a8_.mono dd (λm hm=>⟨hm.1,by have:=hm.2;omega⟩) ?_ _ (a8_.lt dd _ hd)
  intro m hm x hx
  rw[J_1 hm.2];exact hx
 simp only[Own]at ho
 rcases ho with⟨rfl,rfl⟩ | ⟨t,c,rfl,rfl⟩ | ⟨n,off,cap,row,g,rfl,hn0,hrow,hle,hcl,hd0⟩
 · -- nothing yet
  have hy':a8_ es F h ys:=a8_.mono es (λm hm=>(hQ _ hm).1) (λ_ _ _ x=>x) _ hy
  obtain⟨a,b⟩:=fresh h es ys (hF _ hx.1) hy'
  refine⟨_,_,?_,by simpa using a,b,?_⟩
  ·simp only[d3_];rw[if_pos (by rw[hyl];simpa using hb)]
  ·exact Ext.app _ _ _
 ·have hc1:c=true:=hc
  subst hc1
  have hy':a8_ es F h ys:=a8_.mono es (λm hm=>(hQ _ hm).1) (λ_ _ _ x=>x) _ hy
  simp only[d3_]
  rw[if_pos ⟨trivial,by rw[hyl];simpa using hb⟩]
  by_cases hy0:ys.length=0
  ·rw[if_pos hy0]
   have hes:es=[]:=J_3 (by omega)
   subst hes
   refine⟨_,_,rfl,?_,rfl,Ext.refl _ _⟩
   simp only[Own]
   exact .inr (.inl ⟨t,true,rfl,rfl⟩)
  ·rw[if_neg hy0,if_pos trivial]
   obtain⟨a,b⟩:=fresh h es ys (hF _ hx.1) hy'
   exact⟨_,_,rfl,by simpa [c0_] using a,b,Ext.app _ _ _⟩
 ·have hn:F n:=h0F _ hn0
  have hd:a8_ ds (λm=>F m/\m≠n) h0 ((row.drop off).take ds.length):=a8_.mono ds (λm hm=>⟨h0F _ hm.1,hm.2⟩) (λ_ _ _ x=>x) _ hd0
  obtain⟨row',g',hrow',hcn,hcs⟩:=hc
  rw[hrow]at hrow'
  obtain⟨rfl,rfl⟩:row=row'/\g=g':=by simpa using hrow'
  have hnlt:=(J_w.1 hrow).1
  have hrow1:h[n]?=some (some (.arr sz row g)):=hx.get hrow
  have hnlt1:=(J_w.1 hrow1).1
  have hd1:a8_ ds (λm=>F m/\m≠n) h ((row.drop off).take ds.length):=a8_.mono ds (λm hm=>hm) (hx.keep _) _ hd
  have hy1:a8_ es (λm=>F m/\m≠n) h ys:=a8_.mono es (λm hm=>⟨(hQ _ hm).1,by rintro rfl;exact (hQ _ hm).2 hn0⟩) (λ_ _ _ x=>x) _ hy
  have both:a8_ (ds++es) F h ((row.drop off).take ds.length++ys):=a8_.mono _ (λm hm=>hm.1) (λ_ _ _ x=>x) _ (q3_ hd1 hy1)
  simp only[d3_,hrow1]
  rw[if_pos ⟨trivial,trivial,hle,by rw[hyl];exact hb⟩]
  cases cap with
  | none=>
   obtain rfl:=hcn rfl
   simp only[if_true]
   have both':a8_ (ds++es) F (h.set n none) (row.take ds.length++ys):=by
    have:=q3_ hd1 hy1
    rw[L_d]at this
    exact a8_.mono _ (λm hm=>hm.1) (λm hm x hx=>by rw[J_x (λe=>hm.2 e.symm)];exact hx) _ this
   obtain⟨a,b⟩:=fresh (h.set n none) (ds++es) (row.take ds.length++ys) (by rw[J_2];exact hF _ hx.1) both'
   exact⟨_,_,rfl,a,b,(Ext.set none (λ_=>hn0)).trans (Ext.app F0 _ _) (λ_ _ x=>x) (λ_ _ x=>x)⟩
  | some c=>
   have hc1:=hcl c rfl
   have hc2:=hcs c rfl
   cases c with
   | zero=>
    have h0:ds.length=0:=by omega
    have hds:ds=[]:=J_3 h0
    subst hds
    simp only[K_d,if_true]
    by_cases hy0:ys.length=0
    ·rw[if_pos hy0]
     have hes:es=[]:=J_3 (by omega)
     subst hes
     refine⟨_,_,rfl,?_,⟨row,g,hrow1,(λe=>by cases e),(λc hc=>by cases hc;omega)⟩,Ext.refl _ _⟩
     simp only[Own]
     exact .inr (.inr ⟨n,off,some 0,row,g,rfl,hn,hrow1,by simpa using hle,(λc hc=>by cases hc;simp),by simp[a8_]⟩)
    ·rw[if_neg hy0]
     have hy2:a8_ es F h ys:=a8_.mono es (λm hm=>hm.1) (λ_ _ _ x=>x) _ hy1
     obtain⟨a,b⟩:=fresh h es ys (hF _ hx.1) hy2
     exact⟨_,_,rfl,by simpa [c0_] using a,b,Ext.app _ _ _⟩
   | succ c=>
    simp only
    by_cases hcap:c+1<ds.length+ys.length
    ·rw[if_pos hcap]
     obtain⟨a,b⟩:=fresh h (ds++es) _ (hF _ hx.1) both
     exact⟨_,_,rfl,a,b,Ext.app _ _ _⟩
    ·rw[if_neg hcap,if_pos (by omega)]
     have hsl:(e1_ row (off+ds.length) ys).length=row.length:=by simp[e1_];omega
     refine⟨_,_,rfl,?_,⟨_,g,by rw[J_0 hnlt1],(λe=>by cases e),(λc' hc'=>by cases hc';rw[hsl];exact hc2)⟩,Ext.set _ (λ_=>hn0)⟩
     simp only[Own]
     refine .inr (.inr ⟨n,off,some (c+1),e1_ row (off+ds.length) ys,g,by rw[J_z,hyl],hn,by rw[J_0 hnlt1],by rw[hsl,J_z];omega,
      (λc' hc'=>by cases hc';rw[J_z];omega),?_⟩)
     have e:((e1_ row (off+ds.length) ys).drop off).take (ds++es).length=(row.drop off).take ds.length++ys:=by
      apply K_0
      intro i
      simp only[K_7,K_m,J_z,e1_,K_q,K_i,J_z,K_o]
      rw[show min (off+ds.length) row.length=off+ds.length by omega,show min ds.length (row.length-off)=ds.length by omega]
      by_cases h1:i<ds.length
      ·rw[if_pos (by omega),if_pos (by omega),if_pos (by omega),if_pos (by omega),if_pos h1]
       simp[h1]
      ·by_cases h2:i<ds.length+es.length
       ·rw[if_pos h2,if_pos (by omega),if_neg (by omega),if_neg h1]
        congr 1;omega
       ·rw[if_neg h2,if_neg h1,K_3 (by omega)]
     rw[e]
     refine a8_.mono _ (λm hm=>hm) ?_ _ (q3_ hd1 hy1)
     intro m hm x hx
     rw[J_x (λe=>hm.2 e.symm)];exact hx
def N7_ (l:List j2_):D:=.sl 4 (l.map j2_.c)
def b4_.row (x:b4_)(g f:AV):List AV:=[.int .i64 x.id,.int .i64 x.hard.group,.int .i64 x.hard.term,.int .i64 x.hard.vote,.int .i64 x.hard.log.base,.int .i64 x.hard.log.bterm,i5_ x.hard.log.es,g1_ x.hard.conf.old,g1_ x.hard.conf.new,g1_ x.hard.conf.learners,k0_ x.hard.snap,
 .int .i64 x.commit,.int .i64 x.applied,.int .i64 x.role,.int .i64 x.leader,.int .i64 x.elapsed,.int .i64 x.timeout,g,f,.int .i64 x.round,.int .i64 x.beat]
structure RAt (L:Nat->Nat)(h:a0_)(r:Nat)(x:b4_)(g f:AV):Prop where
 row:h[r]?=some (some (.arr 21 [x.row g f] false))
 go:Own (b1_ x.granted) (λm=>L m=1) h g
 gc:d2_ h g
 fo:Own (N7_ x.flows) (λm=>L m=2) h f
 fc:d2_ h f
 lr:L r=6
structure OAt (L:Nat->Nat)(h:a0_)(o:Nat)(x:Rdy)(ma ca aa:AV):Prop where
 row:h[o]?=some (some (.arr 5 [[ma,ca,aa,.int .i64 x.first,.bool x.restore]] false))
 m:Own (a_v x.msgs) (λm=>L m=3) h ma
 mc:d2_ h ma
 c:Own (F6_ x.changes) (λm=>L m=4) h ca
 cc:d2_ h ca
 a:Own (b7_ x.apply) (λm=>L m=5) h aa
 lo:L o=7
structure XAt (L:Nat->Nat)(h:a0_)(r o:Nat)(x:RX):Prop where
 r:∃g f,RAt L h r x.r g f
 o:∃ma ca aa,OAt L h o x.o ma ca aa
 lt:∀m,L m≠0->m<h.length
def wO:Nat->Prop:=λk=>k=3\/k=4\/k=5\/k=7
def wA:Nat->Prop:=λk=>k≠0
def XTo (W Q:Nat->Prop)(L:Nat->Nat)(h:a0_)(r o:Nat)(x:RX)(h':a0_):Prop:=∃L',XAt L' h' r o x/\(∀m,m<h.length->L m≠0\/¬Q m->L' m=L m)/\Ext (λm=>W (L m)\/Q m) h h'
theorem RAt.keep {L h r x g f L' h'}(a:RAt L h r x g f)(hL:∀m,m<h.length->L m≠0->L' m=L m) (hk:∀m,m<h.length->L m=1\/L m=2\/L m=6->h'[m]?=h[m]?):RAt L' h' r x g f:=by
 have lr:=(J_w.1 a.row).1
 have gl:=Own.lt _ _ a.go
 have fl:=Own.lt _ _ a.fo
 have kg:v4_ (λm=>L m=1/\m<h.length) h h':=λm hm y hy=>(hk m hm.2 (.inl hm.1)).trans hy
 have kf:v4_ (λm=>L m=2/\m<h.length) h h':=λm hm y hy=>(hk m hm.2 (.inr (.inl hm.1))).trans hy
 exact⟨(hk r lr (.inr (.inr a.lr))).trans a.row,Own.mono _ (λm hm=>(hL m hm.2 (by rw[hm.1];omega)).trans hm.1) kg _ gl,a.gc.keep gl kg,Own.mono _ (λm hm=>(hL m hm.2 (by rw[hm.1];omega)).trans hm.1) kf _ fl,a.fc.keep fl kf,(hL r lr (by rw[a.lr];omega)).trans a.lr⟩
theorem OAt.keep {L h o x ma ca aa L' h'}(a:OAt L h o x ma ca aa)(hL:∀m,m<h.length->L m≠0->L' m=L m) (hk:∀m,m<h.length->L m=3\/L m=4\/L m=5\/L m=7->h'[m]?=h[m]?):OAt L' h' o x ma ca aa:=by
 have lr:=(J_w.1 a.row).1
 have ml:=Own.lt _ _ a.m
 have cl:=Own.lt _ _ a.c
 have al:=Own.lt _ _ a.a
 have km:v4_ (λm=>L m=3/\m<h.length) h h':=λm hm y hy=>(hk m hm.2 (.inl hm.1)).trans hy
 have kc:v4_ (λm=>L m=4/\m<h.length) h h':=λm hm y hy=>(hk m hm.2 (.inr (.inl hm.1))).trans hy
 have ka:v4_ (λm=>L m=5/\m<h.length) h h':=λm hm y hy=>(hk m hm.2 (.inr (.inr (.inl hm.1)))).trans hy
 exact⟨(hk o lr (.inr (.inr (.inr a.lo)))).trans a.row,Own.mono _ (λm hm=>(hL m hm.2 (by rw[hm.1];omega)).trans hm.1) km _ ml,a.mc.keep ml km,Own.mono _ (λm hm=>(hL m hm.2 (by rw[hm.1];omega)).trans hm.1) kc _ cl,a.cc.keep cl kc,Own.mono _ (λm hm=>(hL m hm.2 (by rw[hm.1];omega)).trans hm.1) ka _ al,(hL o lr (by rw[a.lo];omega)).trans a.lo⟩
theorem XAt.up {L h r o x h'}(a:XAt L h r o x)(hx:Ext nof h h'):XAt L h' r o x:=by
 obtain⟨⟨g,f,ra⟩,⟨ma,ca,aa,oa⟩,lt⟩:=a
 exact⟨⟨g,f,ra.keep (λ_ _ _=>rfl) λm hm _=>hx.2 m hm (λy=>y)⟩,⟨ma,ca,aa,oa.keep (λ_ _ _=>rfl) λm hm _=>hx.2 m hm (λy=>y)⟩,λm hm=>K_c (lt m hm) hx.1⟩
theorem XAt.to {W Q L h r o x}(a:XAt L h r o x):XTo W Q L h r o x h:=⟨L,a,λ_ _ _=>rfl,Ext.refl _ _⟩
theorem XTo.trans1 {W Q Q' L L1 h r o h' x' h''}(l1:∀m,m<h.length->L m≠0\/¬Q m->L1 m=L m) (e1:Ext (λm=>W (L m)\/Q m) h h') (hQ:∀m,m<h.length->Q' m->Q m) (b:XTo W Q' L1 h' r o x' h''):XTo W Q L h r o x' h'':=by
 obtain⟨L2,x2,l2,e2⟩:=b
 have hh:=e1.1
 have st:∀m,m<h.length->L m≠0\/¬Q m->L1 m≠0\/¬Q' m:=λm hm c=>by
  rcases c with c | c
  ·left;rw[l1 m hm (.inl c)];exact c
  ·right;exact λz=>c (hQ m hm z)
 refine⟨L2,x2,λm hm c=>(l2 m (by omega) (st m hm c)).trans (l1 m hm c),e1.trans e2 (λ_ _ y=>y) (λm hm y=>?_)⟩
 rcases y with y | y
 ·by_cases c:L m≠0\/¬Q m
  ·left;rw[l1 m hm c]at y;exact y
  ·right;exact Classical.byContradiction λz=>c (.inr z)
 ·exact .inr (hQ m hm y)
theorem XTo.call0 {P:Program}{f:FuncId}{avs:List AV}{W Q Q' L h r o x h' x'}(a:XTo W Q L h r o x h')(hQ:∀m,m<h.length->Q' m->Q m)(hc:∀L',XAt L' h' r o x->a6_ P f avs h' λ_ h''=>XTo W Q' L' h' r o x' h''):a6_ P f avs h' λ_ h''=>XTo W Q L h r o x' h'':=by
 obtain⟨L1,x1,l1,e1⟩:=a
 exact (hc L1 x1).mono λv h'' b=>XTo.trans1 l1 e1 hQ b
theorem XTo.up {W Q L h r o x h' h''}(a:XTo W Q L h r o x h')(hx:Ext nof h' h''):XTo W Q L h r o x h'':=by
 obtain⟨L1,x1,l1,e1⟩:=a
 exact⟨L1,x1.up hx,l1,e1.trans hx (λ_ _ y=>y) (λ_ _ y=>y.elim)⟩
theorem XTo.weakQ {W Q Q' L h r o x h'}(a:XTo W Q L h r o x h')(hQ:∀m,m<h.length->Q m->Q' m):XTo W Q' L h r o x h':=by
 obtain⟨L1,x1,l1,e1⟩:=a
 exact⟨L1,x1,λm hm c=>l1 m hm (c.imp id λz y=>z (hQ m hm y)),e1.weak λm hm y=>y.imp id (hQ m hm)⟩
theorem XTo.from {W Q L h r o x h1 h'}(hx:Ext nof h h1)(a:XTo W Q L h1 r o x h'):XTo W Q L h r o x h':=by
 obtain⟨L1,x1,l1,e1⟩:=a
 have hh:=hx.1
 exact⟨L1,x1,λm hm c=>l1 m (by omega) c,hx.trans e1 (λ_ _ y=>y.elim) (λ_ _ y=>y)⟩
theorem XTo.weakW {W W' Q L h r o x h'}(a:XTo W Q L h r o x h')(hW:∀k,W k->W' k):XTo W' Q L h r o x h':=by
 obtain⟨L1,x1,l1,e1⟩:=a
 exact⟨L1,x1,l1,e1.weak λm _ y=>y.imp (hW _) id⟩
theorem Z6_:∀k,wO k->wA k:=λk h=>by unfold wO at h;unfold wA;omega
theorem XAt.setR {Q L h r o R R' out g f ma ca aa}(ra:RAt L h r R g f)(oa:OAt L h o out ma ca aa)(lt:∀m,L m≠0->m<h.length)(e1:R'.granted=R.granted)(e2:R'.flows=R.flows):
  XTo wA Q L h r o ⟨R',out⟩ (h.set r (some (.arr 21 [R'.row g f] false))):=by
 have lr:=(J_w.1 ra.row).1
 have ne:∀m,L m≠6->(h.set r (some (.arr 21 [R'.row g f] false)))[m]?=h[m]?:=λm hm=>J_x (by rintro rfl;exact hm ra.lr)
 have kg:v4_ (λm=>L m=1) h (h.set r (some (.arr 21 [R'.row g f] false))):=λm hm y hy=>(ne m (by omega)).trans hy
 have kf:v4_ (λm=>L m=2) h (h.set r (some (.arr 21 [R'.row g f] false))):=λm hm y hy=>(ne m (by omega)).trans hy
 refine⟨L,⟨⟨g,f,J_0 lr,?_,ra.gc.keep ra.go kg,?_,ra.fc.keep ra.fo kf,ra.lr⟩,⟨ma,ca,aa,oa.keep (λ_ _ _=>rfl) λm hm y=>ne m (by omega)⟩,λm hm=>by rw[J_2];exact lt m hm⟩,λ_ _ _=>rfl,Ext.set _ λ_=>.inl (by rw[ra.lr];unfold wA;omega)⟩
 ·rw[e1];exact Own.mono _ (λ_ y=>y) kg _ ra.go
 ·rw[e2];exact Own.mono _ (λ_ y=>y) kf _ ra.fo
theorem XAt.setR0 {Q L h r o R R' out g f ma ca aa}(ra:RAt L h r R g f)(oa:OAt L h o out ma ca aa)(lt:∀m,L m≠0->m<h.length) (e1:R'.granted=[]) (e2:R'.flows=[]):
  XTo wA Q L h r o ⟨R',out⟩ (h.set r (some (.arr 21 [R'.row .nils .nils] false))):=by
 have lr:=(J_w.1 ra.row).1
 have ne:∀m,L m≠6->(h.set r (some (.arr 21 [R'.row .nils .nils] false)))[m]?=h[m]?:=λm hm=>J_x (by rintro rfl;exact hm ra.lr)
 refine⟨L,⟨⟨.nils,.nils,J_0 lr,?_,trivial,?_,trivial,ra.lr⟩,⟨ma,ca,aa,oa.keep (λ_ _ _=>rfl) λm hm y=>ne m (by omega)⟩,λm hm=>by rw[J_2];exact lt m hm⟩,λ_ _ _=>rfl,Ext.set _ λ_=>.inl (by rw[ra.lr];unfold wA;omega)⟩
 ·rw[e1];exact Own.nils 1
 ·rw[e2];exact Own.nils 4
open Classical in
noncomputable def relab (L:Nat->Nat) (Q:Nat->Prop) (a b k:Nat):Nat->Nat:=λm=>if L m=0/\m<b/\(Q m\/a<=m) then k else L m
theorem j5_ {L Q a b k m}(h:L m≠0\/(¬Q m/\m<a)):relab L Q a b k m=L m:=by
 unfold relab
 rw[if_neg]
 rintro⟨h1,-,h2⟩
 rcases h with h | ⟨h3,h4⟩
 ·exact h h1
 ·rcases h2 with h2 | h2
  ·exact h3 h2
  ·omega
theorem H6_ {L Q a b k m}(h1:L m=0)(hb:m<b)(h:Q m\/a<=m):relab L Q a b k m=k:=by
 unfold relab
 rw[if_pos ⟨h1,hb,h⟩]
theorem P4_ {L Q a b k m}(hl:L m≠0->m<b)(h:relab L Q a b k m≠0):m<b:=by
 unfold relab at h
 split at h
 ·rename_i c;exact c.2.1
 ·exact hl h
def grown (L:Nat->Nat)(Q:Nat->Prop)(a k n:Nat):Prop:=L n=k\/(L n=0/\(Q n\/a<=n))
theorem XAt.addMsg {Q L h r o R out g f ma ca aa}(ra:RAt L h r R g f)(oa:OAt L h o out ma ca aa)(lt:∀m,L m≠0->m<h.length){m:Msg}{e d:AV}{h1:a0_}(hx:Ext nof h h1)(he:Own (b7_ m.es) Q h e)(hd:Own (b3_ m.data) Q h d)
  (hQ:∀n,Q n->L n=0) (hb:(out.msgs.length+1)*168<=2^46):
  ∃ma' h2,d3_ h1 17 168 ma [m.cells e d]=some (ma',h2)/\ma'.scalar=true/\Ext (λn=>L n=3) h1 h2/\h2[o]?=some (some (.arr 5 [[ma,ca,aa,.int .i64 out.first,.bool out.restore]] false)) /\
   XTo wO Q L h r o ⟨R,{out with msgs:=out.msgs++[m]}⟩ (h2.set o (some (.arr 5 [[ma',ca,aa,.int .i64 out.first,.bool out.restore]] false))):=by
 have hi:a8_ [m.c] (λn=>Q n/\n<h.length) h1 [m.cells e d]:=by
  refine a8_.mono [m.c] (λ_ y=>y) (λn hn y hy=>hx.get hy) _ ?_
  refine a8_.lt [m.c] _ ?_
  simp only[a8_,g2_,Own,Msg.c,Msg.cells]
  exact⟨_,_,rfl,⟨_,_,rfl,rfl,_,_,rfl,rfl,_,_,rfl,rfl,_,_,rfl,rfl,_,_,rfl,rfl,_,_,rfl,rfl,_,_,rfl,rfl,_,_,rfl,rfl,_,_,rfl,rfl,_,_,rfl,rfl,_,_,rfl,rfl,_,_,rfl,rfl,_,_,rfl,rfl,_,_,rfl,rfl,_,_,rfl,rfl,_,_,rfl,he,_,_,rfl,hd,rfl⟩,rfl⟩
 have ge:∀n,h.length<=n->L n=0:=λn hn=>Classical.byContradiction λz=>by have:=lt n z;omega
 have oa1:=oa.keep (h':=h1) (λ_ _ _=>rfl) (λn hn _=>hx.2 n hn (λy=>y))
 obtain⟨ma',h2,s1,s2,s3,s4⟩:=n_r (sz:=17) (bytes:=168) (F:=grown L Q h.length 3) (ds:=out.msgs.map Msg.c) (es:=[m.c]) oa.m oa.mc hx hi
  (λn hn=>⟨.inr ⟨hQ n hn.1,.inl hn.1⟩,by rw[hQ n hn.1];omega⟩) (λn hn=>.inl hn) (λn hn=>.inr ⟨ge n hn,.inr hn⟩) (by simpa using hb)
 have ob:=(J_w.1 oa1.row).1
 have st:∀n,n<h.length->L n≠3->n≠o->(h2.set o (some (.arr 5 [[ma',ca,aa,.int .i64 out.first,.bool out.restore]] false)))[n]?=h[n]?:=λn hn h3 ho=>
  (J_x (λe=>ho e.symm)).trans ((s4.2 n (K_c hn hx.1) h3).trans (hx.2 n hn (λy=>y)))
 have ol:o<h.length:=(J_w.1 oa.row).1
 have ol2:o<h2.length:=by have:=s4.1;omega
 have nl:∀n,L n≠0->L n≠7->n≠o:=λn _ h7 e=>h7 (e▸oa.lo)
 have s2l:=Own.lt _ _ s2
 have km:v4_ (λn=>grown L Q h.length 3 n/\n<h2.length) h2 (h2.set o (some (.arr 5 [[ma',ca,aa,.int .i64 out.first,.bool out.restore]] false))):=λn hn y hy=>
  (J_x (by rintro rfl;have:=oa.lo;rcases hn.1 with z | ⟨z,-⟩<;>omega)).trans hy
 have tm:∀n,grown L Q h.length 3 n/\n<h2.length->relab L Q h.length h2.length 3 n=3:=by
  rintro n ⟨z | ⟨z,z'⟩,hn⟩
  ·rw[j5_ (.inl (by omega))];exact z
  ·exact H6_ z hn z'
 have cl:=Own.lt _ _ oa.c
 have al:=Own.lt _ _ oa.a
 have kc:v4_ (λn=>L n=4/\n<h.length) h (h2.set o (some (.arr 5 [[ma',ca,aa,.int .i64 out.first,.bool out.restore]] false))):=λn hn y hy=>(st n hn.2 (by omega) (nl n (by omega) (by omega))).trans hy
 have ka:v4_ (λn=>L n=5/\n<h.length) h (h2.set o (some (.arr 5 [[ma',ca,aa,.int .i64 out.first,.bool out.restore]] false))):=λn hn y hy=>(st n hn.2 (by omega) (nl n (by omega) (by omega))).trans hy
 refine⟨ma',h2,s1,s2.scalar,s4,(s4.2 o ob (fun (z:L o=3)=>by rw[oa.lo]at z;omega)).trans oa1.row,relab L Q h.length h2.length 3,⟨⟨g,f,ra.keep (λn _ hn=>j5_ (.inl hn)) λn hn c=>st n hn (by omega) (nl n (by omega) (by omega))⟩,⟨ma',ca,aa,J_0 ol2,?_,?_,?_,?_,?_,?_⟩,λn hn=>by rw[J_2];exact P4_ (λz=>by have:=lt n z;have:=hx.1;have:=s4.1;omega) hn⟩,λn hn c=>j5_ ?_,?_⟩
 ·show Own (.sl 17 ((out.msgs++[m]).map Msg.c)) _ _ _
  rw[show (out.msgs++[m]).map Msg.c=out.msgs.map Msg.c++[m.c] by simp]
  exact Own.mono _ tm km _ s2l
 ·exact s3.keep s2l km
 ·exact Own.mono _ (λn hn=>by rw[j5_ (.inl (by omega))];exact hn.1) kc _ cl
 ·exact oa.cc.keep cl kc
 ·exact Own.mono _ (λn hn=>by rw[j5_ (.inl (by omega))];exact hn.1) ka _ al
 ·rw[j5_ (.inl (by rw[oa.lo];omega))];exact oa.lo
 ·exact c.imp id λz=>⟨z,hn⟩
 ·refine (hx.trans s4 (F'':=λm=>wO (L m)\/Q m) (λ_ _ y=>y.elim) (λn _ (y:L n=3)=>.inl (.inl y))).trans (Ext.set (F:=λm=>m=o) _ (λ_=>rfl)) (λ_ _ y=>y) (λn _ y=>.inl (by rw[y,oa.lo];exact .inr (.inr (.inr rfl))))
theorem XAt.addChg {Q L h r o R out g f ma ca aa}(ra:RAt L h r R g f)(oa:OAt L h o out ma ca aa)(lt:∀m,L m≠0->m<h.length){m:b9_}{e co cn ce sn:AV}{h1:a0_}(hx:Ext nof h h1)(he:Own (b7_ m.log.es) Q h e)(h2':Own (b1_ m.conf.old) Q h co)(h3':Own (b1_ m.conf.new) Q h cn)(h4':Own (b1_ m.conf.learners) Q h ce)(hd:Own (b3_ m.snap) Q h sn)
  (hQ:∀n,Q n->L n=0) (hb:(out.changes.length+1)*216<=2^46):
  ∃ca' h2,d3_ h1 17 216 ca [m.cells e co cn ce sn]=some (ca',h2)/\ca'.scalar=true/\Ext (λn=>L n=4) h1 h2/\h2[o]?=some (some (.arr 5 [[ma,ca,aa,.int .i64 out.first,.bool out.restore]] false)) /\
   XTo wO Q L h r o ⟨R,{out with changes:=out.changes++[m]}⟩ (h2.set o (some (.arr 5 [[ma,ca',aa,.int .i64 out.first,.bool out.restore]] false))):=by
 have hi:a8_ [m.c] (λn=>Q n/\n<h.length) h1 [m.cells e co cn ce sn]:=by
  refine a8_.mono [m.c] (λ_ y=>y) (λn hn y hy=>hx.get hy) _ ?_
  refine a8_.lt [m.c] _ ?_
  simp only[a8_,g2_,Own,b9_.c,b9_.cells]
  exact⟨_,_,rfl,⟨_,_,rfl,rfl,_,_,rfl,rfl,_,_,rfl,rfl,_,_,rfl,rfl,_,_,rfl,rfl,_,_,rfl,rfl,_,_,rfl,rfl,_,_,rfl,he,_,_,rfl,h2',_,_,rfl,h3',_,_,rfl,h4',_,_,rfl,hd,_,_,rfl,rfl,_,_,rfl,rfl,_,_,rfl,rfl,_,_,rfl,rfl,_,_,rfl,rfl,rfl⟩,rfl⟩
 have ge:∀n,h.length<=n->L n=0:=λn hn=>Classical.byContradiction λz=>by have:=lt n z;omega
 have oa1:=oa.keep (h':=h1) (λ_ _ _=>rfl) (λn hn _=>hx.2 n hn (λy=>y))
 obtain⟨ca',h2,s1,s2,s3,s4⟩:=n_r (sz:=17) (bytes:=216) (F:=grown L Q h.length 4) (ds:=out.changes.map b9_.c) (es:=[m.c]) oa.c oa.cc hx hi
  (λn hn=>⟨.inr ⟨hQ n hn.1,.inl hn.1⟩,by rw[hQ n hn.1];omega⟩) (λn hn=>.inl hn) (λn hn=>.inr ⟨ge n hn,.inr hn⟩) (by simpa using hb)
 have ob:=(J_w.1 oa1.row).1
 have st:∀n,n<h.length->L n≠4->n≠o->(h2.set o (some (.arr 5 [[ma,ca',aa,.int .i64 out.first,.bool out.restore]] false)))[n]?=h[n]?:=λn hn h3 ho=>
  (J_x (λe=>ho e.symm)).trans ((s4.2 n (K_c hn hx.1) h3).trans (hx.2 n hn (λy=>y)))
 have ol:o<h.length:=(J_w.1 oa.row).1
 have ol2:o<h2.length:=by have:=s4.1;omega
 have nl:∀n,L n≠0->L n≠7->n≠o:=λn _ h7 e=>h7 (e▸oa.lo)
 have s2l:=Own.lt _ _ s2
 have km:v4_ (λn=>grown L Q h.length 4 n/\n<h2.length) h2 (h2.set o (some (.arr 5 [[ma,ca',aa,.int .i64 out.first,.bool out.restore]] false))):=λn hn y hy=>
  (J_x (by rintro rfl;have:=oa.lo;rcases hn.1 with z | ⟨z,-⟩<;>omega)).trans hy
 have tm:∀n,grown L Q h.length 4 n/\n<h2.length->relab L Q h.length h2.length 4 n=4:=by
  rintro n ⟨z | ⟨z,z'⟩,hn⟩
  ·rw[j5_ (.inl (by omega))];exact z
  ·exact H6_ z hn z'
 have cl:=Own.lt _ _ oa.m
 have al:=Own.lt _ _ oa.a
 have kc:v4_ (λn=>L n=3/\n<h.length) h (h2.set o (some (.arr 5 [[ma,ca',aa,.int .i64 out.first,.bool out.restore]] false))):=λn hn y hy=>(st n hn.2 (by omega) (nl n (by omega) (by omega))).trans hy
 have ka:v4_ (λn=>L n=5/\n<h.length) h (h2.set o (some (.arr 5 [[ma,ca',aa,.int .i64 out.first,.bool out.restore]] false))):=λn hn y hy=>(st n hn.2 (by omega) (nl n (by omega) (by omega))).trans hy
 refine⟨ca',h2,s1,s2.scalar,s4,(s4.2 o ob (fun (z:L o=4)=>by rw[oa.lo]at z;omega)).trans oa1.row,relab L Q h.length h2.length 4,⟨⟨g,f,ra.keep (λn _ hn=>j5_ (.inl hn)) λn hn c=>st n hn (by omega) (nl n (by omega) (by omega))⟩,⟨ma,ca',aa,J_0 ol2,?_,?_,?_,?_,?_,?_⟩,λn hn=>by rw[J_2];exact P4_ (λz=>by have:=lt n z;have:=hx.1;have:=s4.1;omega) hn⟩,λn hn c=>j5_ ?_,?_⟩
 ·exact Own.mono _ (λn hn=>by rw[j5_ (.inl (by omega))];exact hn.1) kc _ cl
 ·exact oa.mc.keep cl kc
 ·show Own (.sl 17 ((out.changes++[m]).map b9_.c)) _ _ _
  rw[show (out.changes++[m]).map b9_.c=out.changes.map b9_.c++[m.c] by simp]
  exact Own.mono _ tm km _ s2l
 ·exact s3.keep s2l km
 ·exact Own.mono _ (λn hn=>by rw[j5_ (.inl (by omega))];exact hn.1) ka _ al
 ·rw[j5_ (.inl (by rw[oa.lo];omega))];exact oa.lo
 ·exact c.imp id λz=>⟨z,hn⟩
 ·refine (hx.trans s4 (F'':=λm=>wO (L m)\/Q m) (λ_ _ y=>y.elim) (λn _ (y:L n=4)=>.inl (.inr (.inl y)))).trans (Ext.set (F:=λm=>m=o) _ (λ_=>rfl)) (λ_ _ y=>y) (λn _ y=>.inl (by rw[y,oa.lo];exact .inr (.inr (.inr rfl))))
def d_4 (P:Program)(f:FuncId):Prop:=f2_ P f=true/\∀(Q:Nat->Prop)(L:Nat->Nat)(h:a0_)(r o:Nat)(x:RX)(m:Msg)(e d:AV),XAt L h r o x->Own (b7_ m.es) Q h e->Own (b3_ m.data) Q h d->(∀n,Q n->L n=0)->(x.o.msgs.length+1)*168<=2^46->
 a6_ P f [.agg [.ptr r 21 0 0,.ptr o 5 0 0],.agg (m.cells e d)] h λ_ h'=>XTo wO Q L h r o (x.send m) h'
theorem z_u {P:Program}{f:FuncId}(hf:Is P f p3_):d_4 P f:=by
 refine⟨hf.2,λQ L h r o x m e d hx he hd hQ hb=>a4_ hf.1 (J_y rfl) ?_⟩
 show vc P p3_.code ⟨[(0,.agg [.ptr r 21 0 0,.ptr o 5 0 0]),(1,.agg (m.cells e d))],[],h⟩ (b2_ p3_.res _)
 obtain⟨R,out⟩:=x
 obtain⟨⟨g,f',ra⟩,⟨ma,ca,aa,oa⟩,lt⟩:=hx
 have rr:=ra.row
 have orow:=oa.row
 have lr:=(J_w.1 rr).1
 have lo:=(J_w.1 orow).1
 simp only[b4_.row]at rr
 have R2:∀a b,(h++[a]++[b])[r]?=_:=λa b=>(Ext.b2 a b).get rr
 have O2:∀a b,(h++[a]++[b])[o]?=_:=λa b=>(Ext.b2 a b).get orow
 have O3:∀a b c,(h++[a]++[b]++[c])[o]?=_:=λa b c=>(Ext.b3 a b c).get orow
 simp only[p3_,Msg.cells,go_sem,reduceEqDiff,reduceAdd,reduceLeDiff,reducePow,reduceDiv,reduceMod,decide_true,he.scalar,hd.scalar,R2,O3]
 refine⟨d6_ (by omega),?_⟩
 have l2:(h++[some (a5_.arr 2 [[.ptr r 21 0 0,.ptr o 5 0 0]] false)]++[some (a5_.arr 17 [[.int .i64 m.kind,.int .i64 R.id,.int .i64 m.to,.int .i64 R.hard.group,.int .i64 R.hard.term,.int .i64 m.index,.int .i64 m.prev,.int .i64 m.commit,.int .i64 m.round,.int .i64 m.txn,.int .i64 m.part,.int .i64 m.ballot,.int .i64 m.value,.int .i64 m.seq,.bool m.ok,e,d]] false)]).length=h.length+2:=by simp
 have ae:=l4_ (h++[some (a5_.arr 2 [[.ptr r 21 0 0,.ptr o 5 0 0]] false)]++[some (a5_.arr 17 [[.int .i64 m.kind,.int .i64 R.id,.int .i64 m.to,.int .i64 R.hard.group,.int .i64 R.hard.term,.int .i64 m.index,.int .i64 m.prev,.int .i64 m.commit,.int .i64 m.round,.int .i64 m.txn,.int .i64 m.part,.int .i64 m.ballot,.int .i64 m.value,.int .i64 m.seq,.bool m.ok,e,d]] false)]) 17 [[.int .i64 m.kind,.int .i64 R.id,.int .i64 m.to,.int .i64 R.hard.group,.int .i64 R.hard.term,.int .i64 m.index,.int .i64 m.prev,.int .i64 m.commit,.int .i64 m.round,.int .i64 m.txn,.int .i64 m.part,.int .i64 m.ballot,.int .i64 m.value,.int .i64 m.seq,.bool m.ok,e,d]] false (some 1) (len:=1) rfl
 have X3:=Ext.b3 (h:=h) (some (a5_.arr 2 [[.ptr r 21 0 0,.ptr o 5 0 0]] false)) (some (a5_.arr 17 [[.int .i64 m.kind,.int .i64 R.id,.int .i64 m.to,.int .i64 R.hard.group,.int .i64 R.hard.term,.int .i64 m.index,.int .i64 m.prev,.int .i64 m.commit,.int .i64 m.round,.int .i64 m.txn,.int .i64 m.part,.int .i64 m.ballot,.int .i64 m.value,.int .i64 m.seq,.bool m.ok,e,d]] false)) (some (a5_.arr 17 [[.int .i64 m.kind,.int .i64 R.id,.int .i64 m.to,.int .i64 R.hard.group,.int .i64 R.hard.term,.int .i64 m.index,.int .i64 m.prev,.int .i64 m.commit,.int .i64 m.round,.int .i64 m.txn,.int .i64 m.part,.int .i64 m.ballot,.int .i64 m.value,.int .i64 m.seq,.bool m.ok,e,d]] false))
 obtain⟨ma',h2,s1,s2,s3,s4,s5⟩:=XAt.addMsg ra oa lt (m:={m with from_:=R.id,group:=R.hard.group,term:=R.hard.term}) X3 he hd hQ hb
 simp only[Msg.cells]at s1
 rw[<-c6_ ae,l2]at s1
 rw[s1]
 have l3:o<h2.length:=(J_w.1 s4).1
 have ge:∀n,h.length<=n->L n=0:=λn hn=>Classical.byContradiction λz=>by have:=lt n z;omega
 have C0:=(s3.2 h.length (by simp) (fun (z:L _=3)=>by rw[ge _ (J_4 _)]at z;omega)).trans (v_s h _ _ _)
 have C1:=(s3.2 (h.length+1) (by simp) (fun (z:L _=3)=>by rw[ge _ (by omega)]at z;omega)).trans (x_q h _ _ _)
 simp only[go_sem,reduceEqDiff,reduceAdd,reduceLeDiff,reducePow,reduceDiv,reduceMod,decide_true,s2,b5_ s2,s4,l3,C0,C1]
 exact s5
def f_t (P:Program)(f:FuncId):Prop:=f2_ P f=true/\∀(Q:Nat->Prop)(L:Nat->Nat)(h:a0_)(r o:Nat)(x:RX)(m:b9_)(e co cn ce sn:AV),XAt L h r o x->Own (b7_ m.log.es) Q h e->Own (b1_ m.conf.old) Q h co->Own (b1_ m.conf.new) Q h cn->Own (b1_ m.conf.learners) Q h ce->Own (b3_ m.snap) Q h sn->
 (∀n,Q n->L n=0)->(x.o.changes.length+1)*216<=2^46->a6_ P f [.agg [.ptr r 21 0 0,.ptr o 5 0 0],.agg (m.cells e co cn ce sn)] h λ_ h'=>XTo wO Q L h r o (x.tell m) h'
theorem z_m {P:Program}{f:FuncId}(hf:Is P f p2_):f_t P f:=by
 refine⟨hf.2,λQ L h r o x m e co cn ce sn hx he h2' h3' h4' hd hQ hb=>a4_ hf.1 (J_y rfl) ?_⟩
 show vc P p2_.code ⟨[(0,.agg [.ptr r 21 0 0,.ptr o 5 0 0]),(1,.agg (m.cells e co cn ce sn))],[],h⟩ (b2_ p2_.res _)
 obtain⟨R,out⟩:=x
 obtain⟨⟨g,f',ra⟩,⟨ma,ca,aa,oa⟩,lt⟩:=hx
 have rr:=ra.row
 have orow:=oa.row
 have lr:=(J_w.1 rr).1
 have lo:=(J_w.1 orow).1
 simp only[b4_.row]at rr
 have R2:∀a b,(h++[a]++[b])[r]?=_:=λa b=>(Ext.b2 a b).get rr
 have O2:∀a b,(h++[a]++[b])[o]?=_:=λa b=>(Ext.b2 a b).get orow
 have O3:∀a b c,(h++[a]++[b]++[c])[o]?=_:=λa b c=>(Ext.b3 a b c).get orow
 simp only[p2_,b9_.cells,go_sem,reduceEqDiff,reduceAdd,reduceLeDiff,reducePow,reduceDiv,reduceMod,decide_true,he.scalar,h2'.scalar,h3'.scalar,h4'.scalar,hd.scalar,R2,O3]
 refine⟨d6_ (by omega),?_⟩
 have l2:(h++[some (a5_.arr 2 [[.ptr r 21 0 0,.ptr o 5 0 0]] false)]++[some (a5_.arr 17 [[.int .i64 m.kind,.int .i64 R.hard.group,.int .i64 m.term,.int .i64 m.voted,.int .i64 m.from_,.int .i64 m.log.base,.int .i64 m.log.bterm,e,co,cn,ce,sn,.int .i64 m.vote.txn,.int .i64 m.vote.part,.int .i64 m.vote.promised,.int .i64 m.vote.ballot,.int .i64 m.vote.value]] false)]).length=h.length+2:=by simp
 have ae:=l4_ (h++[some (a5_.arr 2 [[.ptr r 21 0 0,.ptr o 5 0 0]] false)]++[some (a5_.arr 17 [[.int .i64 m.kind,.int .i64 R.hard.group,.int .i64 m.term,.int .i64 m.voted,.int .i64 m.from_,.int .i64 m.log.base,.int .i64 m.log.bterm,e,co,cn,ce,sn,.int .i64 m.vote.txn,.int .i64 m.vote.part,.int .i64 m.vote.promised,.int .i64 m.vote.ballot,.int .i64 m.vote.value]] false)]) 17 [[.int .i64 m.kind,.int .i64 R.hard.group,.int .i64 m.term,.int .i64 m.voted,.int .i64 m.from_,.int .i64 m.log.base,.int .i64 m.log.bterm,e,co,cn,ce,sn,.int .i64 m.vote.txn,.int .i64 m.vote.part,.int .i64 m.vote.promised,.int .i64 m.vote.ballot,.int .i64 m.vote.value]] false (some 1) (len:=1) rfl
 have X3:=Ext.b3 (h:=h) (some (a5_.arr 2 [[.ptr r 21 0 0,.ptr o 5 0 0]] false)) (some (a5_.arr 17 [[.int .i64 m.kind,.int .i64 R.hard.group,.int .i64 m.term,.int .i64 m.voted,.int .i64 m.from_,.int .i64 m.log.base,.int .i64 m.log.bterm,e,co,cn,ce,sn,.int .i64 m.vote.txn,.int .i64 m.vote.part,.int .i64 m.vote.promised,.int .i64 m.vote.ballot,.int .i64 m.vote.value]] false)) (some (a5_.arr 17 [[.int .i64 m.kind,.int .i64 R.hard.group,.int .i64 m.term,.int .i64 m.voted,.int .i64 m.from_,.int .i64 m.log.base,.int .i64 m.log.bterm,e,co,cn,ce,sn,.int .i64 m.vote.txn,.int .i64 m.vote.part,.int .i64 m.vote.promised,.int .i64 m.vote.ballot,.int .i64 m.vote.value]] false))
 obtain⟨ca',h2,s1,s2,s3,s4,s5⟩:=XAt.addChg ra oa lt (m:={m with group:=R.hard.group}) X3 he h2' h3' h4' hd hQ hb
 simp only[b9_.cells]at s1
 rw[<-c6_ ae,l2]at s1
 rw[s1]
 have l3:o<h2.length:=(J_w.1 s4).1
 have ge:∀n,h.length<=n->L n=0:=λn hn=>Classical.byContradiction λz=>by have:=lt n z;omega
 have C0:=(s3.2 h.length (by simp) (fun (z:L _=4)=>by rw[ge _ (J_4 _)]at z;omega)).trans (v_s h _ _ _)
 have C1:=(s3.2 (h.length+1) (by simp) (fun (z:L _=4)=>by rw[ge _ (by omega)]at z;omega)).trans (x_q h _ _ _)
 simp only[go_sem,reduceEqDiff,reduceAdd,reduceLeDiff,reducePow,reduceDiv,reduceMod,decide_true,s2,b5_ s2,s4,l3,C0,C1]
 exact s5
def x_3 (h:a0_)(r:Nat)(x:b4_):Prop:=∃g f,h[r]?=some (some (.arr 21 [x.row g f] false))
theorem XAt.rowR {L h r o x}(a:XAt L h r o x):x_3 h r x.r:=let⟨g,f,ra⟩:=a.r;⟨g,f,ra.row⟩
theorem D_y.p {P:Program}{f:FuncId}(hc:D_y P f):OfP P f:=⟨hc.1,λG h x ags ha hR=>(hc.2 G h x ags ha hR).freeze λ_ _ ⟨_,h1,h2,h3⟩=>⟨h3,_,h1▸Frz.tup2 (Frz.aggD (g2_.fz _ (λ_ x=>x) _ h2)) (Frz.int _ _),rfl⟩⟩
theorem W2_ (x:d7_)(h:a0_):RdL nof h x.c [.int .i64 x.group,.int .i64 x.term,.int .i64 x.vote,.int .i64 x.log.base,.int .i64 x.log.bterm,i5_ x.log.es,g1_ x.conf.old,g1_ x.conf.new,g1_ x.conf.learners,k0_ x.snap]:=by
 rw[<-d7_.v_eq];exact n_l nof h x
theorem v2_ (x:Log)(h:a0_):RdL nof h x.c [.int .i64 x.base,.int .i64 x.bterm,i5_ x.es]:=by
 rw[<-Log.v_eq];exact f_9 nof h x
theorem M8_ (x:e3_)(h:a0_):RdL nof h x.c [g1_ x.old,g1_ x.new,g1_ x.learners]:=by
 rw[<-e3_.v_eq];exact W3_ nof h x
attribute [go_sem] k4_ r0_ w1_
def m_5 (P:Program)(f:FuncId):Prop:=f2_ P f=true/\∀(h:a0_)(r:Nat)(x:b4_),x_3 h r x->x.hard.ofR->a6_ P f [.ptr r 21 0 0] h λres h'=>res=.agg x.now.v/\h'=h
def L1_ (P:Program)(f:FuncId):Prop:=f2_ P f=true/\∀(h:a0_)(r:Nat)(x:b4_),x_3 h r x->E3_ x.hard.log->a6_ P f [.ptr r 21 0 0] h λres h'=>res=.int .i64 x.last/\h'=h
def d_1 (P:Program)(f:FuncId):Prop:=f2_ P f=true/\∀(h:a0_)(r:Nat)(x:b4_)(n:Int),x_3 h r x->x.hard.ofR->x.now.few (2^30)->a6_ P f [.ptr r 21 0 0,.int .i64 n] h λres h'=>res=.bool (x.voter n)/\h'=h
def e_b (P:Program)(f:FuncId):Prop:=f2_ P f=true/\∀(h:a0_)(r o:Nat),a6_ P f [.ptr r 21 0 0,.ptr o 5 0 0] h λres h'=>res=.agg [.ptr r 21 0 0,.ptr o 5 0 0]/\Ext nof h h'
theorem C_i {P:Program}{f g:FuncId}(hf:Is P f (r6_ g))(hg:OfP P g):m_5 P f:=by
 refine⟨hf.2,λh r x hr hR=>a6_.freeze (K:=λres h'=>res=.agg x.now.v/\Ext nof h h') (a4_ hf.1 (J_y rfl) ?_) (λr _ ⟨e,hx⟩=>⟨hx,r,by rw[e];exact Frz.aggD (g_x _ _ _),e⟩)⟩
 show vc P (r6_ g).code ⟨[(0,.ptr r 21 0 0)],[],h⟩ (b2_ (r6_ g).res _)
 obtain⟨gg,ff,rr⟩:=hr
 have lr:=(J_w.1 rr).1
 simp only[b4_.row]at rr
 have R1:∀a,(h++[a])[r]?=_:=λa=>(Ext.b1 a).get rr
 have cof:=λH=>hg.2 nof H x.hard _ (W2_ x.hard H) hR
 simp only[e3_.v_eq]at cof
 simp only[r6_,go_sem,reduceEqDiff,reduceAdd,reduceLeDiff,R1]
 refine j4_ hg.1 (cof _) ?_
 simp only[go_sem,reduceEqDiff,reduceAdd,reduceLeDiff]
 exact⟨by unfold b4_.now;rw[e3_.v_eq],Ext.b2 _ _⟩
theorem t_b {P:Program}{f g:FuncId}(hf:Is P f (p6_ g))(hg:Z2_ P g):L1_ P f:=by
 refine⟨hf.2,λh r x hr hl=>a4_ hf.1 (J_y rfl) ?_⟩
 show vc P (p6_ g).code ⟨[(0,.ptr r 21 0 0)],[],h⟩ (b2_ (p6_ g).res _)
 obtain⟨gg,ff,rr⟩:=hr
 simp only[b4_.row]at rr
 simp only[p6_,go_sem,reduceEqDiff,reduceAdd,reduceLeDiff,rr]
 refine j4_ hg.1 (hg.2 nof h x.hard.log _ (v2_ x.hard.log h) hl) ?_
 simp only[go_sem,reduceEqDiff]
 rfl
theorem v_w {P:Program}{f g v c:FuncId}(hf:Is P f (n8_ g v c))(hg:m_5 P g)(hv:R5_ P v e3_.voters)(hc:d_7 P c):d_1 P f:=by
 refine⟨hf.2,λh r x n hr hR hfew=>a6_.freeze (K:=λres h'=>res=.bool (x.voter n)/\Ext nof h h') (a4_ hf.1 (J_y rfl) ?_) (λr _ ⟨e,hx⟩=>⟨hx,r,by rw[e];exact Frz.bool _,e⟩)⟩
 show vc P (n8_ g v c).code ⟨[(0,.ptr r 21 0 0),(1,.int .i64 n)],[],h⟩ (b2_ (n8_ g v c).res _)
 simp only[n8_,go_sem,reduceEqDiff]
 refine j4_ hg.1 (hg.2 h r x hr hR) ?_
 simp only[go_sem,reduceEqDiff]
 refine a1_ ⟨hv.1,hv.2 nof h x.now _ (W3_ nof h x.now) ⟨by have:=hfew.1;omega,by have:=hfew.2.1;omega,by have:=hfew.2.2;omega⟩⟩ ?_
 rintro w H ⟨ow,hx⟩
 simp only[go_sem,reduceEqDiff]
 have vl:x.now.voters.length<=2^40:=by have u:=P1_ (x.now.old++x.now.new);simp only[J_z]at u;have:=hfew.1;have:=hfew.2.1;simp only[e3_.voters];omega
 refine j4_ hc.1 (hc.2 (λ_=>True) H _ w n (Own.rd _ (λ_ _=>trivial) _ ow) vl) ?_
 simp only[go_sem,reduceEqDiff]
 exact⟨rfl,hx⟩
theorem x_t {P:Program}{f:FuncId}(hf:Is P f n9_):e_b P f:=by
 refine⟨hf.2,λh r o=>a4_ hf.1 (J_y rfl) ?_⟩
 show vc P n9_.code ⟨[(0,.ptr r 21 0 0),(1,.ptr o 5 0 0)],[],h⟩ (b2_ n9_.res _)
 simp only[n9_,go_sem,reduceEqDiff,reduceAdd,reduceLeDiff]
 exact Ext.b1 _
def L3_ (P:Program)(f:FuncId):Prop:=f2_ P f=true/\∀(L:Nat->Nat)(h:a0_)(r o:Nat)(x:RX)(l:Int),XAt L h r o x->a6_ P f [.ptr r 21 0 0,.int .i64 l] h λ_ h'=>XTo wA nof L h r o (x.follow l) h'
theorem t_z {P:Program}{f:FuncId}(hf:Is P f l8_):L3_ P f:=by
 refine⟨hf.2,λL h r o x l hx=>a4_ hf.1 (J_y rfl) ?_⟩
 show vc P l8_.code ⟨[(0,.ptr r 21 0 0),(1,.int .i64 l)],[],h⟩ (b2_ l8_.res _)
 obtain⟨R,out⟩:=x
 obtain⟨⟨g,f',ra⟩,⟨ma,ca,aa,oa⟩,lt⟩:=hx
 have rr:=ra.row
 have lr:=(J_w.1 rr).1
 simp only[b4_.row]at rr
 simp only[l8_,go_sem,reduceEqDiff,reduceAdd,reduceLeDiff,rr,lr,L_j]
 exact XAt.setR0 (R':=R.follow l) ra oa lt rfl rfl
def d_3 (P:Program)(f:FuncId):Prop:=f2_ P f=true/\∀(L:Nat->Nat)(h:a0_)(r o:Nat)(x:RX)(t v:Int),XAt L h r o x->(x.o.changes.length+1)*216<=2^46->a6_ P f [.agg [.ptr r 21 0 0,.ptr o 5 0 0],.int .i64 t,.int .i64 v] h λ_ h'=>XTo wA nof L h r o (x.term t v) h'
theorem r_w {P:Program}{f g:FuncId}(hf:Is P f (p1_ g))(hg:f_t P g):d_3 P f:=by
 refine⟨hf.2,λL h r o x t v hx hb=>a4_ hf.1 (J_y rfl) ?_⟩
 show vc P (p1_ g).code ⟨[(0,.agg [.ptr r 21 0 0,.ptr o 5 0 0]),(1,.int .i64 t),(2,.int .i64 v)],[],h⟩ (b2_ (p1_ g).res _)
 obtain⟨R,out⟩:=x
 have hx1:=hx.up (Ext.b1 (some (a5_.arr 2 [[.ptr r 21 0 0,.ptr o 5 0 0]] false)))
 obtain⟨⟨g',f',ra⟩,⟨ma,ca,aa,oa⟩,lt⟩:=hx1
 have lt0:=hx.lt
 have rr:=ra.row
 have lr:=(J_w.1 rr).1
 have B0:=x3_ h (some (a5_.arr 2 [[.ptr r 21 0 0,.ptr o 5 0 0]] false))
 have lrh:r<h.length:=lt0 r (by rw[ra.lr];omega)
 have ne:¬r=h.length:=by omega
 have X1:=Ext.b1 (h:=h) (some (a5_.arr 2 [[.ptr r 21 0 0,.ptr o 5 0 0]] false))
 simp only[b4_.row]at rr
 have lr1:r<h.length+1:=by omega
 simp only[p1_,go_sem,reduceEqDiff,reduceAdd,reduceLeDiff,reducePow,reduceDiv,reduceMod,decide_true,rr,lr1,ne,B0,J_2,L_j]
 have T:XTo wA nof L (h++[some (a5_.arr 2 [[.ptr r 21 0 0,.ptr o 5 0 0]] false)]) r o ⟨{R with hard:={R.hard with term:=t,vote:=v}},out⟩ _:=XAt.setR (R':={R with hard:={R.hard with term:=t,vote:=v}}) ra oa lt rfl rfl
 simp only[b4_.row]at T
 refine a1_ ⟨hg.1,XTo.call0 T (λ_ _ y=>y) λL1 x1=>(hg.2 nof L1 _ r o _ {b9_.zero with kind:=1,term:=t,voted:=v} .nils .nils .nils .nils .nils x1 (Own.nils 3) (Own.nils 1) (Own.nils 1) (Own.nils 1) (Own.nils 1) (λ_ y=>y.elim) hb).mono λ_ _ b=>b.weakW Z6_⟩ ?_
 intro _ h' b
 simp only[go_sem]
 exact XTo.from X1 b
def B_r (P:Program)(f:FuncId):Prop:=f2_ P f=true/\∀(L:Nat->Nat)(h:a0_)(r o:Nat)(x:RX)(w:j2_),XAt L h r o x->w.placed->x.r.hard.fit->(x.o.msgs.length+1)*168<=2^46->
 a6_ P f [.agg [.ptr r 21 0 0,.ptr o 5 0 0],.agg w.cells] h λ_ h'=>XTo wO nof L h r o (x.to w) h'
theorem D_4 {P:Program}{f g k:FuncId}(hf:Is P f (u5_ g k))(hg:m_9 P g)(hk:d_4 P k):B_r P f:=by
 refine⟨hf.2,λL h r o x w hx hw hfit hb=>a4_ hf.1 (J_y rfl) ?_⟩
 show vc P (u5_ g k).code ⟨[(0,.agg [.ptr r 21 0 0,.ptr o 5 0 0]),(1,.agg w.cells)],[],h⟩ (b2_ (u5_ g k).res _)
 obtain⟨R,out⟩:=x
 have hx2:=λa b=>hx.up (Ext.b2 (h:=h) a b)
 have lt:=hx.lt
 obtain⟨⟨g',f',ra⟩,-,-⟩:=id hx
 have rr:=ra.row
 simp only[b4_.row]at rr
 have R2:∀a b,(h++[a]++[b])[r]?=_:=λa b=>(Ext.b2 a b).get rr
 have X2:=Ext.b2 (h:=h) (some (a5_.arr 2 [[.ptr r 21 0 0,.ptr o 5 0 0]] false)) (some (a5_.arr 4 [w.cells] false))
 have B0:=b_z h (some (a5_.arr 2 [[.ptr r 21 0 0,.ptr o 5 0 0]] false)) (some (a5_.arr 4 [w.cells] false))
 have hxx:=hx2 (some (a5_.arr 2 [[.ptr r 21 0 0,.ptr o 5 0 0]] false)) (some (a5_.arr 4 [w.cells] false))
 have nx:=hg.2 (h++[some (a5_.arr 2 [[.ptr r 21 0 0,.ptr o 5 0 0]] false)]++[some (a5_.arr 4 [w.cells] false)]) w R.id R.hard R.commit R.round hw hfit
 simp only[d7_.v_eq,j2_.cells]at nx X2 B0 hxx
 simp only[u5_,j2_.cells,go_sem,reduceEqDiff,reduceAdd,reduceLeDiff,R2]
 refine a1_ ⟨hg.1,nx⟩ ?_
 rintro _ H ⟨e,d,rfl,he,hd,hX⟩
 have l2:=X2.1
 simp only[b_7]at he hd l2
 have hxH:=hxx.up hX
 have RH:=hX.get (R2 _ _)
 have C0:=hX.get B0
 have C1:=hX.get (O1_ h (some (a5_.arr 2 [[.ptr r 21 0 0,.ptr o 5 0 0]] false)) (some (a5_.arr 4 [[.int .i64 w.node,.int .i64 w.next,.int .i64 w.mat,.int .i64 w.round]] false)))
 rw[d9_]
 simp only[go_sem,reduceEqDiff,reduceAdd,reduceLeDiff,reducePow,reduceDiv,reduceMod,decide_true,RH,C0,C1]
 refine a1_ ⟨hk.1,hk.2 (λn=>h.length+2<=n) L H r o _ _ e d hxH he hd (λn hn=>Classical.byContradiction λz=>by have:=lt n z;omega) hb⟩ ?_
 intro _ h' T
 have XX:=X2.tr hX
 rw[d9_]
 simp only[go_sem,reducePow,reduceDiv,reduceMod,decide_true]
 exact (XTo.from XX T).weakQ λm hm (y:h.length+2<=m)=>by omega
end Glb
