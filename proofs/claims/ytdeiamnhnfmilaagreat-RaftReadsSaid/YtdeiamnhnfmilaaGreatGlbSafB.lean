/-
  A library of its own.
-/
import Derived.Test.YtdeiamnhnfmilaaGreatGlbSafA
import Derived.Test.YtdeiamnhnfmilaaGreatGlbRafV
set_option linter.unusedSimpArgs false
set_option linter.unusedVariables false
set_option maxRecDepth 10000
namespace Glb
open Go
section
variable {G:gq} {D:Es} {k:Int} {x:RX} {m:fE}
theorem gO.of {r':eZ}(h:gO G D x)(e1:r'.id=x.r.id)(e2:r'.aA=x.r.aA)(e3:r'.aH=x.r.aH)(e4:r'.aE=x.r.aE)(e5:r'.aG=x.r.aG)(e6:r'.aI=x.r.aI)(e7:r'.aC=x.r.aC):gO G D ⟨r',x.o⟩:=
 ⟨h.aA.of e1 e2 e3 e4 e5 e6 e7,h.aC⟩
theorem ig.aC {n:Nat}(h:ig n G D k x) (f:∀G',G'.ok->gO G' D x->kO G' D {m with aC:=x.r.id,aM:=x.r.aA.aE,aF:=x.r.aA.aC}):ig n G D k (x.aK m):=by obtain⟨G',u,g,r,e⟩:=h;exact⟨G',u,g,r.aD (f G' u r),e⟩
theorem gO.aL (ok:G.ok)(h:gO G D x)(hm:kO G D m)(hk:m.aD=1)(ht:m.aF=x.r.aA.aC):ig 1 G D x.r.id (x.aQ m):=by
 obtain⟨L,l1,l2,l3⟩:=hm.aG hk;rw[ht]at l1;have hf:=hm.aA.aA;have h1:gO G D ⟨{x.r with aK:=0},x.o⟩:=h.of rfl rfl rfl rfl rfl rfl rfl;have e:x.aQ m=(if mo x.r.aA.aC x.r.aA.aF x.r.aA.aA m then (let z:RX:={x with r:={x.r with aK:=0}};if z.r.aA.aF=m.aC then z else z.aI z.r.aA.aC m.aC) else x).aK {fE.aI with aD:=2,to:=m.aC,ok:=mo x.r.aA.aC x.r.aA.aF x.r.aA.aA m}:=rfl;rw[e];by_cases c:mo x.r.aA.aC x.r.aA.aF x.r.aA.aA m=true
 ·rw[Uv c];unfold mo at c;simp only[US,VF,Vb]at c;obtain⟨-,-,c1,c2⟩:=c;simp only;by_cases c3:x.r.aA.aF=m.aC;·rw[Uv c3];obtain⟨w,w1,w2⟩:=h.aA.aP (by omega);exact (ig.aA ok h1).aC (λG' ok' r=>by obtain⟨w,w1,w2⟩:=r.aA.aP (by show x.r.aA.aF≠0;omega);exact⟨⟨r.aA.id,⟨UK _,λ_=>rfl⟩,⟨(λ_ h=>by cases h),UK _⟩,⟨UL _,r.aA.aE⟩,(λe=>absurd e (by show ¬(3:Int)<=2;omega))⟩,(λe=>by cases e),λ_ _=>⟨w,w1,w2.trans c3⟩,(λe=>by cases e),(λe=>by cases e),(λe=>by cases e)⟩)
  ·rw[Uw c3];have v0:x.r.aA.aF=0:=by omega
   have nw:rL L (f_ D x.r):=by
    have e1:=h.aA.on.aF;have e2:=h.aA.aQ;unfold fu.aN at c2;simp only[VF,US,Vb]at c2;rw[l2,l3,e1]at c2;have e1':iD (gF D x.r.aA.aA)=iD (f_ D x.r):=rfl;rcases c2 with c2 | c2;·exact .inl c2
    ·exact .inr ⟨c2.1,by omega⟩
   have nr:x.r.aG=0\/x.r.aG=2:=by
    rcases h.aA.aR with z | z | z;·exact .inl z
    ·exact absurd v0 (h.aA.aS z).1.2
    ·exact .inr z
   obtain⟨G',ok',g,sl,⟨w,w1,w2⟩,m'⟩:=h1.aA.bz ok (c:=m.aC) v0 (by omega) l1 nw nr;refine⟨G',ok',g,gO.aD ⟨m',λa ha=>(h.aC a ha).aC g (Vw _)⟩ ?_,rfl,λB sB=>⟨λt w hw=>UH (sB.1 t w (by rw[<-sl.1];exact hw)) (VG _ _),by rw[sl.2];have:=sB.2;omega⟩⟩;exact⟨⟨m'.id,⟨UK _,λ_=>rfl⟩,⟨(λ_ h=>by cases h),UK _⟩,⟨UL _,m'.aE⟩,(λe=>absurd e (by show ¬(3:Int)<=2;omega))⟩,(λe=>by cases e),λ_ _=>⟨w,w1,w2⟩,(λe=>by cases e),(λe=>by cases e),(λe=>by cases e)⟩
 ·rw[Uw c];exact (ig.aA ok h).aC (λG' ok' r=>⟨⟨r.aA.id,⟨UK _,λ_=>rfl⟩,⟨(λ_ h=>by cases h),UK _⟩,⟨UL _,r.aA.aE⟩,(λe=>absurd e (by show ¬(3:Int)<=2;omega))⟩,(λe=>by cases e),(λ_ o=>absurd o c),(λe=>by cases e),(λe=>by cases e),(λe=>by cases e)⟩)
theorem gO.aT (ok:G.ok)(h:gO G D x)(hm:kO G D m)(hk:m.aD=2)(ht:m.aF=x.r.aA.aC)(e:m.to=x.r.id):ig 1 G D x.r.id (x.aU m):=by
 unfold RX.aU;split;·exact ig.aA ok h
 ·rename_i c;simp only[not_or,Classical.not_not,Bool.not_eq_false]at c;obtain⟨c1,c2,c3,c4⟩:=c;obtain⟨w,w1,w2⟩:=hm.aH hk c2;rw[ht]at w1;have h1:gO G D ⟨{x.r with aI:=x.r.aI++[m.aC]},x.o⟩:=by
   refine⟨?_,h.aC⟩;have hh:=h.aA;refine⟨hh.id,hh.on,hh.aC,hh.aI,hh.le,hh.aK,hh.aG,hh.aD,hh.aF,hh.aA,hh.aE,hh.aH,hh.aP,hh.aL,hh.aM,hh.aJ,hh.aR,λz=>?_,hh.aN,hh.aO⟩;obtain⟨a1,a2,a3,a4⟩:=hh.aS z;refine⟨a1,a2,λv hv=>?_,a4⟩;rcases U4.1 hv with hv | hv;·exact a3 v hv
   ·obtain rfl:v=m.aC:=by simpa using hv
    exact⟨w,w1,w2.trans e⟩
  simp only;split;·rename_i c5;have z:=h1.aH ok c1 c5;exact z
  ·have z:=ig.aA (n:=1) ok h1;exact z
theorem FA {l:List fR}{n:Int}{i:Nat}(h:tg l n=some i):∃hi:i<l.length,l[i].aD=n:=by unfold tg at h;obtain⟨h1,h2,-⟩:=List.findIdx?_eq_some_iff_getElem.1 h;exact⟨h1,by simpa using h2⟩
theorem gO.aN (ok:G.ok)(h:gO G D x)(hm:kO G D m)(hk:m.aD=4)(ht:m.aF=x.r.aA.aC):ig 1 G D x.r.id (x.aP m):=by
 unfold RX.aP;split;·exact ig.aA ok h
 ·rename_i c;have h2:x.r.aG=2:=by simpa using c
  cases e:tg x.r.aC m.aC with
  | none=>exact ig.aA ok h
  | some i=>
   obtain⟨hi,hn⟩:=FA e;have ef:(x.r.aC[i]?).getD ⟨0,0,0,0⟩=x.r.aC[i]:=by rw[Ur hi];rfl
   simp only[ef];obtain⟨a1,a2,a3⟩:=h.aA.aO _ (UT hi);have hlen:=h.aA.aQ;obtain⟨l0,hl⟩:=h.aA.aN h2;have nf:(1<=(x.r.aC[i].aF m).aC/\(x.r.aC[i].aF m).aC<=x.r.aA.aA.aC+1)/\(0<=(x.r.aC[i].aF m).aE/\(x.r.aC[i].aF m).aE<=x.r.aA.aA.aC)/\((x.r.aC[i].aF m).aE=0\/G.aE x.r.aA.aC (x.r.aC[i].aF m).aD (x.r.aC[i].aF m).aE.toNat):=by
    unfold fR.aF;rw[Uv ⟨hk,hn.symm⟩];by_cases c2:m.ok=true
    ·rw[Uv c2];obtain⟨b1,b2⟩:=hm.aE hk c2;have hx:m.aA<=x.r.aA.aA.aC:=by
      rcases b2 with b2 | b2;·have:=h.aA.aD;have:=h.aA.on.aA;omega
      ·obtain⟨y,y1,y2⟩:=ok.aE _ _ _ b2;rw[ht,hl]at y1;injection y1 with y1;subst y1;simp only at y2;omega
     simp only;refine⟨⟨by omega,by omega⟩,⟨by omega,by omega⟩,?_⟩;by_cases c3:m.aA<=x.r.aC[i].aE;·rw[Int.max_eq_left c3];exact a3
     ·rw[Int.max_eq_right (by omega)];refine b2.imp (λz=>z) λz=>?_;rw[hn,<-ht];exact z
    ·rw[Uw c2];simp only;exact⟨⟨by omega,by omega⟩,a2,a3⟩
   have h1:gO G D ⟨{x.r with aC:=x.r.aC.set i (x.r.aC[i].aF m)},x.o⟩:=by
    refine⟨?_,h.aC⟩;have hh:=h.aA;refine⟨hh.id,hh.on,hh.aC,hh.aI,hh.le,hh.aK,hh.aG,hh.aD,hh.aF,hh.aA,hh.aE,hh.aH,hh.aP,hh.aL,hh.aM,hh.aJ,hh.aR,hh.aS,hh.aN,λf hf=>?_⟩;rcases Wj hf with z | rfl;·exact hh.aO f z
    ·exact nf
   have fin:∀z:RX,ig 1 G D x.r.id z->z.r.aG=2->z.r.aA=x.r.aA->ig 1 G D x.r.id (if m.ok=false\/(x.r.aC[i].aF m).aC<=z.r.aM then z.to (x.r.aC[i].aF m) else z):=by
    intro z hz z2 zh;split;·obtain⟨G',u,g,r,e⟩:=hz;exact⟨G',u,g,r.to u z2 (by rw[zh];exact nf.1),e⟩
    ·exact hz
   by_cases c2:m.ok=true
   ·simp only[c2,Vm];have s1:=h1.aJ ok h2;have:=fin _ (s1.aF (UK _)) (by show (eZ.aV _).aG=2;unfold eZ.aV;split<;>exact h2) (by show (eZ.aV _).aA=_;unfold eZ.aV;split<;>rfl);simp only[c2]at this;exact this
   ·simp only[Bool.not_eq_true]at c2;simp only[c2,UQ,Vd];have z0:=ig.aA (n:=1) ok h1;have:=fin _ z0 h2 rfl;simp only[c2]at this;exact this
theorem gO.aE (ok:G.ok)(h:gO G D x){y:mA}(hy:G.aA x.r.aA.aC=some y){n:Int}(hn:n.toNat<=y.l.length)(hp:(f_ D x.r).take n.toNat=y.l.take n.toNat)(h0:0<=n):ig 1 G D x.r.id (x.aS m true n):=by obtain⟨G',e,g,sl,-,a,m'⟩:=h.aA.aV ok hy hn (by rw[<-hp];exact V7 _ _);have r:gO G' D x:=h.aI g m';exact⟨G',e,g,r.aF ⟨h0,.inr ⟨_,y,by rw[sl.1];exact hy,by omega⟩⟩ (λ_=>⟨h0,.inr a⟩),rfl,λB sB=>⟨λt w hw=>UH (sB.1 t w (by rw[<-sl.1];exact hw)) (VG _ _),by rw[sl.2];have:=sB.2;omega⟩⟩
theorem gO.aK (ok:G.ok)(h:gO G D x)(hm:kO G D m)(hk:m.aD=3)(ht:m.aF=x.r.aA.aC) (h0:x.r.aG=0/\x.r.aC=[]):ig 1 G D x.r.id (x.aJ m):=by
 obtain⟨y,y1,y2,y3,y4,y5,y6⟩:=hm.aD hk;rw[ht]at y1 y6;have at0:=h.aA.aD;have hb0:=h.aA.on.aA;unfold RX.aJ;split;·obtain⟨a1,a2⟩:=ok.aJ h.aA.aA y1;exact h.aE ok y1 a2 a1 (by omega)
 ·split;·exact⟨G,ok,jf.aD _ _,h.aF ⟨by omega,.inr ⟨_,y,y1,by omega⟩⟩ (λe=>by cases e),rfl,λB sB=>sB.aA (VG _ _)⟩
  ·rename_i c1 c2;simp only[not_or,Bool.not_eq_false,Classical.not_not]at c2;obtain⟨c2,c3⟩:=c2;have c3:x.r.aA.aA.aJ m.aA=iD (y.l.take m.aA.toNat):=c3.trans y4;obtain⟨b1,b2,b3,b4⟩:=h.aA.bC ok y1 h0 c2 c3 y3 y5;simp only;split;·rename_i c4;have:=b1 c4.1;omega
   ·rename_i c4;obtain⟨z,hz,zr,zo⟩:∃z:RX,z=(if 0<x.r.aA.aA.aH m.aA m.es then ({x with r:={x.r with aA:={x.r.aA with aA:=x.r.aA.aA.aE m.aA m.es}}}:RX).aX {fZ.aI with aC:=2,aE:=x.r.aA.aA.aH m.aA m.es,aA:=⟨0,0,(x.r.aA.aA.aE m.aA m.es).aI (x.r.aA.aA.aH m.aA m.es) (x.r.aA.aA.aE m.aA m.es).es.length⟩} else x)/\z.r={x.r with aA:={x.r.aA with aA:=x.r.aA.aA.aE m.aA m.es}}/\z.o.aD=x.o.aD:=by
     refine⟨_,rfl,?_⟩;split;·exact⟨rfl,rfl⟩
     ·rename_i c5;have e:x.r.aA.aA.aE m.aA m.es=x.r.aA.aA:=by
       unfold fu.aH at c5;unfold fu.aE;split;·rename_i c6;rw[Uv c6]at c5;have:=lL.1 c6.1;omega
       ·rfl
      rw[e];exact⟨rfl,rfl⟩
    rw[<-hz];have hl:=b2;rw[<-zr]at b2;have tk:f_ D z.r=gF D (x.r.aA.aA.aE m.aA m.es):=by rw[zr]
    have lz:z.r.aA.aA.aC=(x.r.aA.aA.aE m.aA m.es).aC:=by rw[zr]
    have cz:z.r.aE=x.r.aE:=by rw[zr]
    have tz:z.r.aA.aC=x.r.aA.aC:=by rw[zr]
    have iz:z.r.id=x.r.id:=by rw[zr]
    have E:=b2.aD;have u:gB G D {z.r with aE:=max z.r.aE (min m.aJ (m.aA+m.es.length))}:=by
     refine⟨b2.id,b2.on,b2.aC,b2.aI,b2.le,b2.aK,b2.aG,⟨E.1,by show z.r.aH<=max _ _;omega,by show max _ _<=z.r.aA.aA.aC;omega⟩,b2.aF,?_,b2.aE,b2.aH,b2.aP,b2.aL,b2.aM,b2.aJ,b2.aR,b2.aS,b2.aN,b2.aO⟩;show G.aI z.r.aA.aC (max z.r.aE (min m.aJ (m.aA+m.es.length))) (f_ D z.r);by_cases c5:min m.aJ (m.aA+m.es.length)<=z.r.aE;·rw[Int.max_eq_left c5];exact b2.aA
     ·rw[Int.max_eq_right (by omega),tz];refine (y6.aA (UL _) (Int.min_le_left _ _)).of ?_;rw[tk];exact lp b3 (by omega)
    have r2:gO G D ⟨{z.r with aE:=max z.r.aE (min m.aJ (m.aA+m.es.length))},z.o⟩:=⟨u,λa ha=>h.aC a (by rw[<-zo];exact ha)⟩;have:=r2.aE (m:=m) ok (y:=y) (n:=m.aA+m.es.length) (by show G.aA z.r.aA.aC=_;rw[tz];exact y1) (by omega) (by show (f_ D z.r).take _=_;rw[tk];exact b3) (by omega);rw[show ({r:={z.r with aE:=max z.r.aE (min m.aJ (m.aA+m.es.length))},o:=z.o}:RX).r.id=x.r.id from iz]at this;exact this
theorem gO.aP (ok:G.ok)(h:gO G D x)(hm:kO G D m)(hk:m.aD=5)(ht:m.aF=x.r.aA.aC) (h0:x.r.aG=0/\x.r.aC=[]):ig 1 G D x.r.id (x.aR m):=by
 obtain⟨y,y1,y2,y3,y4,y5,y6,y7,y8,y9⟩:=hm.aF hk;rw[ht]at y1 y5;have at0:=h.aA.aD;have hb0:=h.aA.on.aA;unfold RX.aR;split;·obtain⟨a1,a2⟩:=ok.aJ h.aA.aA y1;exact h.aE ok y1 a2 a1 (by omega)
 ·rename_i c;simp only;rw[Uw (by rw[y6,y7];simp)];obtain⟨b1,b2,b3⟩:=h.aA.a_ ok y1 h0 (b:=m.aA) (by omega) y3 y5 (sn:=(iH m.aG).2.1) ⟨y8,y9⟩;rw[<-y4]at b1 b2;have r2:gO G D ⟨{x.r with aA:={x.r.aA with aA:=x.r.aS m.aA m.aH,aD:=iL G.c0 (D.take m.aA.toNat),aG:=(iH m.aG).2.1},aE:=m.aA,aH:=m.aA},{(x.aW m.aA m.aH (iL G.c0 (D.take m.aA.toNat)) (iH m.aG).2.1).o with aC:=true}⟩:=⟨b1,h.aC⟩;have:=r2.aE (m:=m) ok (y:=y) (n:=m.aA) y1 b3 b2 y2;rw[y7];exact this
theorem gO.aS (h:gO G D x)(hm:kO G D m):gO G D (x.aG m)/\(x.aG m).r.id=x.r.id:=by
 unfold RX.aG;split;·rename_i c;exact⟨⟨h.aA.up c hm.aA.aA.2 0,h.aC⟩,rfl⟩
 ·exact⟨h,rfl⟩
theorem SQ (x:RX)(m:fE):m.aF<=(x.aG m).r.aA.aC:=by
 unfold RX.aG;split;·exact UL _
 ·rename_i c;omega
theorem gO.aR (ok:G.ok)(h:gO G D x)(hm:kO G D m)(E:m.to=x.r.id):ig 1 G D x.r.id (x.aT m):=by
 rw[vF];split;·exact ig.aA ok h
 ·obtain⟨t,ti⟩:=h.aS hm;have tt:=SQ x m;rw[<-ti];split
  ·rename_i c;split;·exact (ig.aA ok t).aC (λG' u r=>⟨⟨r.aA.id,⟨UK _,λ_=>rfl⟩,⟨(λ_ h=>by cases h),UK _⟩,⟨UL _,r.aA.aE⟩,(λe=>absurd e (by show ¬(3:Int)<=2;omega))⟩,(λe=>by cases e),(λ_ o=>by cases o),(λe=>by cases e),(λe=>by cases e),(λe=>by cases e)⟩)
   ·split;·exact (ig.aA ok t).aC (λG' u r=>⟨⟨r.aA.id,⟨UK _,λ_=>rfl⟩,⟨(λ_ h=>by cases h),UK _⟩,⟨UL _,r.aA.aE⟩,λ_=>⟨UL _,.inl rfl⟩⟩,(λe=>by cases e),(λe=>by cases e),(λe=>by cases e),(λ_ o=>by cases o),(λe=>by cases e)⟩)
    ·exact ig.aA ok t
  ·rename_i c0 c;have e:m.aF=(x.aG m).r.aA.aC:=by omega
   unfold RX.aY;split;·rename_i c1;exact t.aL ok hm c1 e
   ·split;·rename_i c1;exact t.aT ok hm c1 e (E.trans ti.symm)
    ·split;·rename_i c1;exact t.aN ok hm c1 e
     ·split;·exact ig.aA ok t
      ·have z:gO G D ⟨{(x.aG m).r.aW m.aC with aK:=0},(x.aG m).o⟩:=⟨(t.aA.aW m.aC).of rfl rfl rfl rfl rfl rfl rfl,t.aC⟩;simp only;split;·rename_i c1;exact z.aK ok hm c1 e ⟨rfl,rfl⟩
       ·rename_i c2 c3 c4 c5 c1;refine z.aP ok hm ?_ e ⟨rfl,rfl⟩;simp only[not_or]at c0;omega
end
section
variable {G:gq} {D:Es} {k:Int} {x:RX} {m:fE}
theorem xf (x:RX):x.aA.r.id=x.r.id/\x.aA.r.aA=x.r.aA/\x.aA.r.aE=x.r.aE/\x.aA.o.aD=x.o.aD/\x.aA.o.aA=x.o.aA/\x.aA.o.aC=x.o.aC:=by
 have e:x.r.aT.id=x.r.id/\x.r.aT.aA=x.r.aA/\x.r.aT.aE=x.r.aE:=by unfold eZ.aT;split<;>exact⟨rfl,rfl,rfl⟩
 unfold RX.aA;simp only;split<;>exact⟨e.1,e.2.1,e.2.2,rfl,rfl,rfl⟩
theorem ig.aE (hD:G.aL D){n:Nat}(h:ig n G D k x):∃G',G'.ok/\jf k G G'/\D<+:gQ D x.r/\G'.aL (gQ D x.r)/\gO G' (gQ D x.r) x.aA/\x.aA.r.id=k/\x.aA.r.aH=x.aA.r.aE/\(gQ D x.r).take x.r.aE.toNat=(f_ D x.r).take x.r.aE.toNat/\x.r.aE<=(gQ D x.r).length/\gB G' D x.r/\∀B,G.aJ B->G'.aJ (B+n):=by
 obtain⟨G',u,g,r,e,s⟩:=h;have E:G'.aL D:=let⟨t,ht⟩:=hD;⟨t,ht.aC g⟩
 have h1:gB G' D x.r.aT:=by
  unfold eZ.aT;split;·exact r.aA.aW 0
  ·exact r.aA
 have e1:x.r.aT.id=x.r.id/\x.r.aT.aA=x.r.aA/\x.r.aT.aE=x.r.aE/\x.r.aT.aH=x.r.aH:=by unfold eZ.aT;split<;>exact⟨rfl,rfl,rfl,rfl⟩
 have ed:gQ D x.r.aT=gQ D x.r:=by unfold gQ;rw[e1.2.2.1];show (if _ then (gF D x.r.aT.aA.aA).take _ else _)=_;rw[e1.2.1]
 obtain⟨d1,d2,d3,d4,d5,d6⟩:=h1.bx u E;rw[ed,e1.2.2.1]at d5 d6;rw[ed]at d1 d2 d3 d4;have ef:f_ D x.r.aT=f_ D x.r:=by show gF D x.r.aT.aA.aA=_;rw[e1.2.1]
 rw[ef]at d5;refine⟨G',u,g,d1,d2,?_,(xf x).1.trans e,?_,d5,d6,r.aA,s⟩
 ·refine⟨?_,λm hm=>(r.aC m (by rw[(xf x).2.2.2.1]at hm;exact hm)).aC (jf.aD k G') d1⟩;unfold RX.aA;simp only;split;·exact d3
  ·exact d4
 ·have at0:=r.aA.aD;unfold RX.aA;simp only;split;·rename_i c;show x.r.aT.aH=x.r.aT.aE;omega
  ·rfl
theorem sR {r:eZ}(h:gB G D r):gO G D r.aF:=⟨h,λm hm=>by cases hm⟩
def eZ.bC (r:eZ)(draw:Int):RX:=
 if r.aG=2 then (if r.aO+1≥2 then (({r with aO:=0}:eZ).aF).on else ({r with aO:=r.aO+1}:eZ).aF)
 else
  let s:eZ:={r with aK:=r.aK+1}
  if s.aY<=s.aK/\s.aZ s.id=true/\s.aA.aC<2^40/\s.aM<2^40 then s.aF.aV draw else s.aF
theorem HF (r:eZ)(e:Int):r.aQ e=(r.bC e).aA:=by unfold eZ.aQ eZ.bC;split<;>rfl
theorem gB.bI (ok:G.ok){r:eZ}(h:gB G D r)(e:Int):ig 2 G D r.id (r.bC e):=by
 unfold eZ.bC;split
 ·rename_i c;split;·have b:=sR (h.of (r':={r with aO:=0}) rfl rfl rfl rfl rfl rfl rfl);exact⟨G,ok,jf.aD _ _,(b.on ok c).1,by rw[(b.on ok c).2];rfl,λB sB=>sB.aA (VG _ _)⟩
  ·exact ig.aA ok (sR (h.of (r':={r with aO:=r.aO+1}) rfl rfl rfl rfl rfl rfl rfl))
 ·have b:=sR (h.of (r':={r with aK:=r.aK+1}) rfl rfl rfl rfl rfl rfl rfl);simp only;split;·exact b.aQ ok e
  ·exact ig.aA ok b
def eZ.bD (r:eZ)(kind:Int)(data:List Int):RX:=((r.aF.aF kind data).on).aH
theorem gB.bF (ok:G.ok){r:eZ}(h:gB G D r)(h2:r.aG=2){kind:Int}{data:List Int}(hs:fT.aF ⟨r.aA.aC,kind,data⟩)(hc:kind=2->pY r.aN (ie data).1/\r.aA.of.2<=r.aE):ig 1 G D r.id (r.bD kind data):=by obtain⟨l1,l2⟩:=(sR h).aO ok h2 hs hc;exact (gO.aG ok l1 l2).1
theorem gB.bG (ok:G.ok){r:eZ}(h:gB G D r)(h2:r.aG=2):ig 0 G D r.id ({r with aL:=r.aL+1}:eZ).aF.on:=by have b:=sR (h.of (r':={r with aL:=r.aL+1}) rfl rfl rfl rfl rfl rfl rfl);exact⟨G,ok,jf.aD _ _,(b.on ok h2).1,by rw[(b.on ok h2).2];rfl,λB sB=>sB⟩
end
theorem eZ.aD.aS {x:eZ}{k:Nat}(h:x.aD k)(hk:k<=130000):x.aA.aJ 130000:=by obtain⟨a,b,c,d,e,f⟩:=h.bE (by omega);exact⟨a,by omega,c,d,e,f⟩
def nC:fF->List fZ->fF->Prop
 | h,[],h'=>h'=h
 | h,c :: r,h'=>(c.aH=h.aE/\1<=c.aC/\c.aC<=3)/\(c.aM/\h.aJ 130000)/\(h.aI c).2=0/\nC (h.aI c).1 r h'
theorem wZ {c:fZ}{h1:fF}(h2:c.aH=h1.aE/\1<=c.aC/\c.aC<=3)(h3:c.aM/\h1.aJ 130000)(h4:(h1.aI c).2=0):∀{l:List fZ}{h:fF},nC h l h1->nC h (l++[c]) (h1.aI c).1:=by
 intro l;induction l with
 | nil=>intro h e;obtain rfl:=e;exact⟨h2,h3,h4,rfl⟩
 | cons a l ih=>intro h e;exact⟨e.1,e.2.1,e.2.2.1,ih e.2.2.2⟩
theorem HI {h:fF}{c:fZ}{e:Es}(h1:c.aC=2)(h2:h.aA.aA<c.aE/\c.aE<=h.aA.aC+1)(h3:h.aA.es.take (c.aE-h.aA.aA-1).toNat++c.aA.es=e):h.aI c=({h with aA:=⟨h.aA.aA,h.aA.aD,e⟩},0):=by unfold fF.aI;rw[Uw (by omega),Uv h1,Uw (by omega),h3]
theorem HJ {h:fF}{c:fZ}(h1:c.aC=3):h.aI c=({h with aA:=h.aM c,aD:=c.aG,aG:=c.aJ},0):=by unfold fF.aI;rw[Uw (by omega),Uw (by omega),Uv h1]
theorem JA {h:fF}{c:fZ}(h2:c.aH=h.aE/\1<=c.aC/\c.aC<=3)(h4:(h.aI c).2=0):(iW h).aC c=(iW (h.aI c).1,0):=by unfold jo.aC iW;rw[Uw (by omega),Uw (by omega)];simp only[qJ,h2.1,Vm,h4];simp
structure gz (h0:fF)(a0:Int)(x:RX):Prop where
 aD:nC h0 x.o.aA x.r.aA
 aA:x.o.aF=[]/\x.o.aE=0
 aC:x.r.aH=if x.o.aC=true then x.r.aA.aA.aA else a0
section
variable {h0:fF} {a0:Int} {x y:RX} {k:Nat} {m:fE}
theorem gz.of (t:gz h0 a0 x)(e1:y.r.aA=x.r.aA)(e2:y.r.aH=x.r.aH)(e3:y.o.aA=x.o.aA/\y.o.aF=x.o.aF/\y.o.aE=x.o.aE/\y.o.aC=x.o.aC):gz h0 a0 y:=
 ⟨by rw[e3.1,e1];exact t.aD,by rw[e3.2.1,e3.2.2.1];exact t.aA,by rw[e2,e3.2.2.2,e1];exact t.aC⟩
theorem iR:hU 0:=⟨by decide,by decide⟩
theorem MR:hU 1:=⟨by decide,by decide⟩
theorem FL:hU 2:=⟨by decide,by decide⟩
theorem MS:hU 3:=⟨by decide,by decide⟩
theorem NI:(1:Int)<=1/\(1:Int)<=3:=⟨by decide,by decide⟩
theorem FV:(1:Int)<=2/\(2:Int)<=3:=⟨by decide,by decide⟩
theorem NJ:(1:Int)<=3/\(3:Int)<=3:=⟨by decide,by decide⟩
theorem gz.aH (t:gz h0 a0 x)(hf:x.r.aD k)(u:k<=130000){tm v:Int}(h1:hU tm)(h2:hU v):gz h0 a0 (x.aI tm v):=by
 refine⟨?_,t.aA,t.aC⟩;have c:=wZ (c:={({fZ.aI with aC:=1,aK:=tm,aL:=v}:fZ) with aH:=x.r.aA.aE}) ⟨rfl,NI⟩ ⟨?_,hf.aS u⟩ rfl t.aD;·exact c
 ·exact⟨⟨MR,hf.aO.1,h1,h2,iR,⟨iR,iR,(by intro e he;cases he)⟩,⟨(by intro e he;cases he),(by intro e he;cases he),(by intro e he;cases he)⟩,(by intro e he;cases he),⟨iR,iR,iR,iR,iR⟩⟩,⟨UK _,(by intro e he;cases he)⟩,⟨UK _,UK _,UK _⟩,UK _⟩
theorem gz.to (t:gz h0 a0 x)(f:fR):gz h0 a0 (x.to f):=t.of rfl rfl ⟨rfl,rfl,rfl,rfl⟩
theorem gz.aF:∀{l:List fR}{x:RX},gz h0 a0 x->gz h0 a0 (x.aO l):=by
 intro l;induction l with
 | nil=>intro x t;exact t
 | cons f l ih=>intro x t;exact ih (t.to f)
theorem gz.aG (t:gz h0 a0 x):gz h0 a0 x.aH:=by
 have e:x.r.aV.aA=x.r.aA/\x.r.aV.aH=x.r.aH:=by unfold eZ.aV;split<;>exact⟨rfl,rfl⟩
 exact t.of e.1 e.2 ⟨rfl,rfl,rfl,rfl⟩
theorem gz.aI (t:gz h0 a0 x)(hf:x.r.aD k)(hk2:k<=130000){kind:Int}{data:List Int}(hd:gI data/\data.length<=2^16)(hk:hU kind):gz h0 a0 (x.aF kind data):=by
 have e:x.r.aA.aA.aE x.r.aM [⟨x.r.aA.aC,kind,data⟩]=⟨x.r.aA.aA.aA,x.r.aA.aA.aD,x.r.aA.aA.es++[⟨x.r.aA.aC,kind,data⟩]⟩:=qA _ _;have e2:=CJ x.r.aA.aA ⟨x.r.aA.aC,kind,data⟩;have e3:x.r.aM=x.r.aA.aA.aC:=rfl;rw[e3]at e;rw[e]at e2;have ht:=hf.aF;have hl:=hf.aG;have hb:=hf.aD;have key:nC h0 (x.o.aA++[{({fZ.aI with aC:=2,aE:=x.r.aA.aA.aC+1,aA:=⟨0,0,[⟨x.r.aA.aC,kind,data⟩]⟩}:fZ) with aH:=x.r.aA.aE}]) {x.r.aA with aA:=⟨x.r.aA.aA.aA,x.r.aA.aA.aD,x.r.aA.aA.es++[⟨x.r.aA.aC,kind,data⟩]⟩}:=by
  have tu:x.r.aA.aI {({fZ.aI with aC:=2,aE:=x.r.aA.aA.aC+1,aA:=⟨0,0,[⟨x.r.aA.aC,kind,data⟩]⟩}:fZ) with aH:=x.r.aA.aE}=({x.r.aA with aA:=⟨x.r.aA.aA.aA,x.r.aA.aA.aD,x.r.aA.aA.es++[⟨x.r.aA.aC,kind,data⟩]⟩},0):=by have hll:x.r.aA.aA.aC=x.r.aA.aA.aA+x.r.aA.aA.es.length:=rfl;refine HI rfl ⟨by show x.r.aA.aA.aA<x.r.aA.aA.aC+1;omega,UL _⟩ ?_;show x.r.aA.aA.es.take (x.r.aA.aA.aC+1-x.r.aA.aA.aA-1).toNat++_=_;rw[UU (by omega)]
  have c:=wZ (c:={({fZ.aI with aC:=2,aE:=x.r.aA.aA.aC+1,aA:=⟨0,0,[⟨x.r.aA.aC,kind,data⟩]⟩}:fZ) with aH:=x.r.aA.aE}) ⟨rfl,FV⟩ ⟨?_,hf.aS hk2⟩ (by rw[tu]) t.aD;·rw[tu]at c;exact c
  ·have hll:x.r.aA.aA.aC=x.r.aA.aA.aA+x.r.aA.aA.es.length:=rfl;refine⟨⟨FL,hf.aO.1,iR,iR,⟨by show _<=x.r.aA.aA.aC+1;omega,by show x.r.aA.aA.aC+1<=_;omega⟩,⟨iR,iR,?_⟩,⟨(by intro e he;cases he),(by intro e he;cases he),(by intro e he;cases he)⟩,(by intro e he;cases he),⟨iR,iR,iR,iR,iR⟩⟩,⟨by show 1<=2^12;omega,?_⟩,⟨UK _,UK _,UK _⟩,UK _⟩
   ·intro e he;obtain rfl:e=⟨x.r.aA.aC,kind,data⟩:=by simpa using he
    exact⟨⟨by show _<=x.r.aA.aC;omega,by show x.r.aA.aC<=_;omega⟩,hk,hd.1⟩
   ·intro e he;obtain rfl:e=⟨x.r.aA.aC,kind,data⟩:=by simpa using he
    exact hd.2
 unfold RX.aF;simp only[e3,e,e2];split;·exact⟨key,t.aA,t.aC⟩
 ·exact⟨key,t.aA,t.aC⟩
theorem gz.aJ (t:gz h0 a0 x)(hf:x.r.aD k)(u:k<=130000):gz h0 a0 x.aN:=by have t1:gz h0 a0 {x with r:=({x.r with aG:=2,aX:=x.r.id,aO:=0,aI:=[],aC:=[]}:eZ).bx [] x.r.aM}:=t.of rfl rfl ⟨rfl,rfl,rfl,rfl⟩;exact (gz.aF (t1.aI (hf.aV (by omega)) u ⟨(by intro e he;cases he),UK _⟩ iR)).aG
theorem gz.aR:∀{l:List fE}{x:RX},gz h0 a0 x->gz h0 a0 (x.aM l):=by
 intro l;induction l with
 | nil=>intro x t;exact t
 | cons m l ih=>intro x t;exact ih (t.of (y:=x.aK m) rfl rfl ⟨rfl,rfl,rfl,rfl⟩)
theorem gz.aS (t:gz h0 a0 x)(hf:x.r.aD k)(E:k<=130000)(h1:x.r.aA.aC<2^40)(u:Int):gz h0 a0 (x.aV u):=by
 have ht:=hf.aF;have hid:=hf.id;have t1:=t.aH hf E (tm:=x.r.aA.aC+1) (v:=x.r.id) ⟨by omega,by omega⟩ ⟨by omega,by omega⟩;have f1:=(hf.aW (t:=x.r.aA.aC+1) (v:=x.r.id) ⟨by omega,by omega⟩ ⟨by omega,by omega⟩).aJ 0;obtain⟨z,hz⟩:∃z:RX,z={(x.aI (x.r.aA.aC+1) x.r.id).aL 0 with r:={((x.aI (x.r.aA.aC+1) x.r.id).aL 0).r with aG:=1,aK:=0,aY:=lZ u,aI:=[x.r.id]}}:=⟨_,rfl⟩;have tz:gz h0 a0 z:=by rw[hz];exact t1.of rfl rfl ⟨rfl,rfl,rfl,rfl⟩
 have fz:z.r.aD k:=by rw[hz];obtain⟨g1,g2,g3,g4,g5,g6,g7,g8,g9,g10,U,O,g13,M,I⟩:=f1;exact⟨g1,g2,g3,g4,g5,g6,g7,g8,g9,⟨UL _,by show (0:Int)<=k;omega⟩,U,O,by show 1<=k+1;omega,M,I⟩
 have e:x.aV u=if z.r.aN.aF z.r.aI then z.aN else z.aM (kj z.r.id z.r.aA.aE z.r.aA.aC z.r.aA.aA z.r.aN):=by rw[hz];rfl
 rw[e];split;·exact tz.aJ fz E
 ·exact tz.aR
theorem gz.aL (t:gz h0 a0 x)(hf:x.r.aD k)(u:k<=130000)(hm:m.aL):gz h0 a0 (x.aQ m):=by
 have e:x.aQ m=(if mo x.r.aA.aC x.r.aA.aF x.r.aA.aA m then (let z:RX:={x with r:={x.r with aK:=0}};if z.r.aA.aF=m.aC then z else z.aI z.r.aA.aC m.aC) else x).aK {fE.aI with aD:=2,to:=m.aC,ok:=mo x.r.aA.aC x.r.aA.aF x.r.aA.aA m}:=rfl;have ht:=hf.aF;rw[e];refine gz.of (x:=if mo x.r.aA.aC x.r.aA.aF x.r.aA.aA m then (let z:RX:={x with r:={x.r with aK:=0}};if z.r.aA.aF=m.aC then z else z.aI z.r.aA.aC m.aC) else x) ?_ rfl rfl ⟨rfl,rfl,rfl,rfl⟩;split
 ·simp only;have t1:gz h0 a0 {x with r:={x.r with aK:=0}}:=t.of rfl rfl ⟨rfl,rfl,rfl,rfl⟩;split;·exact t1
  ·exact t1.aH hf.aN u ⟨by show _<=x.r.aA.aC;omega,by show x.r.aA.aC<=_;omega⟩ hm.aC.1
 ·exact t
theorem gz.aV (t:gz h0 a0 x)(hf:x.r.aD k)(e:k+1<=130000):gz h0 a0 (x.aU m):=by
 unfold RX.aU;split;·exact t
 ·have t1:gz h0 a0 {x with r:={x.r with aI:=x.r.aI++[m.aC]}}:=t.of rfl rfl ⟨rfl,rfl,rfl,rfl⟩;have f:({x.r with aI:=x.r.aI++[m.aC]}:eZ).aD (k+1):=by obtain⟨g1,g2,g3,g4,g5,g6,g7,g8,g9,O,M,I,g13,E,u⟩:=hf.aA (V4 k);have:=hf.aY;exact⟨g1,g2,g3,g4,g5,g6,g7,g8,g9,O,M,I,by show (x.r.aI++[m.aC]).length<=k+1+1;simp;omega,E,u⟩
  simp only;split;·exact t1.aJ f e
  ·exact t1
theorem gz.aO (t:gz h0 a0 x):gz h0 a0 (x.aP m):=by
 unfold RX.aP;split;·exact t
 ·split;·exact t
  ·rename_i i _;have t1:gz h0 a0 {x with r:={x.r with aC:=x.r.aC.set i (((x.r.aC[i]?).getD ⟨0,0,0,0⟩).aF m)}}:=t.of rfl rfl ⟨rfl,rfl,rfl,rfl⟩;simp only;split<;>split<;>first
    | exact t1.aG.to _
    | exact t1.to _
    | exact t1.aG
    | exact t1
theorem gz.aE (t:gz h0 a0 x)(ok:Bool)(i:Int):gz h0 a0 (x.aS m ok i):=t.of rfl rfl ⟨rfl,rfl,rfl,rfl⟩
end
section
variable {h0:fF} {a0:Int} {x y:RX} {k:Nat} {m:fE}
theorem gz.aK (t:gz h0 a0 x)(hf:x.r.aD k)(E:k<=130000)(hm:m.aL)(hi:0<=m.aA/\m.aA<=2^40):gz h0 a0 (x.aJ m):=by
 unfold RX.aJ;split;·exact t.aE _ _
 ·split;·exact t.aE _ _
  ·rename_i c1 c2;simp only;have hp:x.r.aA.aA.aF m.aA=true:=by
    cases e:x.r.aA.aA.aF m.aA with
    | false=>exact absurd (.inl e) c2
    | true=>rfl
   split;·exact t
   ·rename_i c3;have key:0<x.r.aA.aA.aH m.aA m.es->gz h0 a0 (({x with r:={x.r with aA:={x.r.aA with aA:=x.r.aA.aA.aE m.aA m.es}}}:RX).aX {fZ.aI with aC:=2,aE:=x.r.aA.aA.aH m.aA m.es,aA:=⟨0,0,(x.r.aA.aA.aE m.aA m.es).aI (x.r.aA.aA.aH m.aA m.es) (x.r.aA.aA.aE m.aA m.es).es.length⟩}):=by
     intro c4;have u:x.r.aA.aA.aG (m.aA+1) m.es<m.es.length:=by
      apply UC;intro c;have:x.r.aA.aA.aH m.aA m.es=0:=by unfold fu.aH;rw[Uw (λz=>c z.2)]
      omega
     obtain⟨e1,e2⟩:=uZ hp u;have e3:=BZ hp u;have hin:=wy (e:=m.es) hp;obtain⟨q1,q2⟩:=lL.1 hp;have hb:=hf.aD;have hll:x.r.aA.aA.aC=x.r.aA.aA.aA+x.r.aA.aA.es.length:=rfl;obtain⟨f1,-⟩:=hf.aZ hm hi hp (by omega);have ll:(x.r.aA.aA.aE m.aA m.es).es.length=(m.aA+x.r.aA.aA.aG (m.aA+1) m.es-x.r.aA.aA.aA).toNat+(m.es.length-x.r.aA.aA.aG (m.aA+1) m.es):=by rw[e1];simp only[Ut,UD,UP];omega
     have sl:(x.r.aA.aA.aE m.aA m.es).aI (x.r.aA.aA.aH m.aA m.es) (x.r.aA.aA.aE m.aA m.es).es.length=(x.r.aA.aA.aE m.aA m.es).es.drop (m.aA+x.r.aA.aA.aG (m.aA+1) m.es-x.r.aA.aA.aA).toNat:=by unfold fu.aI;rw[Uw (by rw[(n7 _ _ _).1,e3,e2];omega),(n7 _ _ _).1,e2,UU (by simp only[UP];omega)];congr 1;omega
     refine⟨?_,t.aA,?_⟩
     ·have tu:x.r.aA.aI {({fZ.aI with aC:=2,aE:=x.r.aA.aA.aH m.aA m.es,aA:=⟨0,0,(x.r.aA.aA.aE m.aA m.es).aI (x.r.aA.aA.aH m.aA m.es) (x.r.aA.aA.aE m.aA m.es).es.length⟩}:fZ) with aH:=x.r.aA.aE}=({x.r.aA with aA:=⟨x.r.aA.aA.aA,x.r.aA.aA.aD,(x.r.aA.aA.aE m.aA m.es).es⟩},0):=by
       refine HI rfl ⟨by show _<x.r.aA.aA.aH m.aA m.es;omega,by show x.r.aA.aA.aH m.aA m.es<=_;omega⟩ ?_;show x.r.aA.aA.es.take (x.r.aA.aA.aH m.aA m.es-x.r.aA.aA.aA-1).toNat++(x.r.aA.aA.aE m.aA m.es).aI _ _=_;rw[sl,e2];have:x.r.aA.aA.es.take (m.aA+1+x.r.aA.aA.aG (m.aA+1) m.es-x.r.aA.aA.aA-1).toNat=(x.r.aA.aA.aE m.aA m.es).es.take (m.aA+x.r.aA.aA.aG (m.aA+1) m.es-x.r.aA.aA.aA).toNat:=by rw[e1];simp only;rw[U0 (by simp only[UD];omega),Va,Wr];congr 1;omega
       rw[this,VO]
      have c:=wZ (c:={({fZ.aI with aC:=2,aE:=x.r.aA.aA.aH m.aA m.es,aA:=⟨0,0,(x.r.aA.aA.aE m.aA m.es).aI (x.r.aA.aA.aH m.aA m.es) (x.r.aA.aA.aE m.aA m.es).es.length⟩}:fZ) with aH:=x.r.aA.aE}) ⟨rfl,FV⟩ ⟨?_,hf.aS E⟩ (by rw[tu]) t.aD
      ·rw[tu]at c;have e5:(⟨x.r.aA.aA.aA,x.r.aA.aA.aD,(x.r.aA.aA.aE m.aA m.es).es⟩:fu)=x.r.aA.aA.aE m.aA m.es:=by rw[e1]
       rw[e5]at c;exact c
      ·have sub:∀e∈(x.r.aA.aA.aE m.aA m.es).aI (x.r.aA.aA.aH m.aA m.es) (x.r.aA.aA.aE m.aA m.es).es.length,e.aG:=λe he=>by rw[sl]at he;exact f1.aI e (UX he)
       have hl:=hm.es.1;refine⟨⟨FL,hf.aO.1,iR,iR,⟨by show _<=x.r.aA.aA.aH m.aA m.es;omega,by show x.r.aA.aA.aH m.aA m.es<=_;omega⟩,⟨iR,iR,λe he=>⟨(sub e he).2.1,(sub e he).2.2,(sub e he).1.1⟩⟩,⟨(by intro e he;cases he),(by intro e he;cases he),(by intro e he;cases he)⟩,(by intro e he;cases he),⟨iR,iR,iR,iR,iR⟩⟩,⟨?_,λe he=>(sub e he).1.2⟩,⟨UK _,UK _,UK _⟩,UK _⟩;show ((x.r.aA.aA.aE m.aA m.es).aI (x.r.aA.aA.aH m.aA m.es) (x.r.aA.aA.aE m.aA m.es).es.length).length<=2^12;rw[sl];simp only[UP];omega
     ·show x.r.aH=if x.o.aC=true then (x.r.aA.aA.aE m.aA m.es).aA else a0
      rw[(n7 _ _ _).1];exact t.aC
    split;·rename_i c4;exact ((key c4).of (y:=⟨{(({x with r:={x.r with aA:={x.r.aA with aA:=x.r.aA.aA.aE m.aA m.es}}}:RX).aX {fZ.aI with aC:=2,aE:=x.r.aA.aA.aH m.aA m.es,aA:=⟨0,0,(x.r.aA.aA.aE m.aA m.es).aI (x.r.aA.aA.aH m.aA m.es) (x.r.aA.aA.aE m.aA m.es).es.length⟩}).r with aE:=max x.r.aE (min m.aJ (m.aA+m.es.length))},_⟩) rfl rfl ⟨rfl,rfl,rfl,rfl⟩).aE _ _
    ·exact (t.of (y:=⟨{x.r with aE:=max x.r.aE (min m.aJ (m.aA+m.es.length))},x.o⟩) rfl rfl ⟨rfl,rfl,rfl,rfl⟩).aE _ _
theorem Sp (r:eZ)(b t:Int):(r.aS b t).aA=b:=by
 unfold eZ.aS;split;·rename_i c;rw[(BI c.1).1]
 ·rfl
theorem gz.aM (t:gz h0 a0 x)(hf:x.r.aD k)(u:k<=130000){b tm:Int}{c:fq}{sn:List Int}(hb:hU b)(ht:hU tm)(hc:c.aE=true)(hs:gI sn/\sn.length<=2^16)(hr:x.o.aC=false):gz h0 a0 (x.aW b tm c sn):=by
 refine⟨?_,t.aA,?_⟩
 ·have cc:=wZ (c:={({fZ.aI with aC:=3,aA:=⟨b,tm,[]⟩,aG:=c,aJ:=sn}:fZ) with aH:=x.r.aA.aE}) ⟨rfl,NJ⟩ ⟨?_,hf.aS u⟩ (by rw[HJ rfl]) t.aD;·rw[HJ rfl]at cc;exact cc
  ·exact⟨⟨MS,hf.aO.1,iR,iR,iR,⟨hb,ht,(by intro e he;cases he)⟩,Hl hc,hs.1,⟨iR,iR,iR,iR,iR⟩⟩,⟨UK _,(by intro e he;cases he)⟩,mI hc,hs.2⟩
 ·show x.r.aH=if x.o.aC=true then (x.r.aS b tm).aA else a0
  have:=t.aC;rw[hr]at this ⊢;exact this
theorem gz.aQ (t:gz h0 a0 x)(hf:x.r.aD k)(e:k<=130000)(hm:m.aL)(hi:0<=m.aA/\m.aA<=2^40)(hr:x.o.aC=false):gz h0 a0 (x.aR m):=by
 unfold RX.aR;split;·exact t.aE _ _
 ·simp only;split;·exact t
  ·rename_i c1 c2;have c3:(ie (iH m.aG).1).2=0:=UC λz=>c2 (.inr z);have b:=t.aM hf e (b:=m.aA) (tm:=m.aH) (c:=(ie (iH m.aG).1).1) (sn:=(iH m.aG).2.1) ⟨by omega,by omega⟩ hm.aC.2 (uS c3) (HK hm.aA.1 hm.aA.2).2 hr;have t2:gz h0 a0 ⟨{(x.aW m.aA m.aH (ie (iH m.aG).1).1 (iH m.aG).2.1).r with aE:=m.aA,aH:=m.aA},{(x.aW m.aA m.aH (ie (iH m.aG).1).1 (iH m.aG).2.1).o with aC:=true}⟩:=by
    refine⟨b.aD,b.aA,?_⟩;show m.aA=if true=true then (x.r.aS m.aA m.aH).aA else a0
    rw[Uv rfl,Sp]
   exact t2.aE _ _
theorem sS (r:eZ):gz r.aA r.aH r.aF:=⟨rfl,⟨rfl,rfl⟩,rfl⟩
theorem gz.aT (r:eZ)(hf:r.aD k)(u:k+1<=130000)(hm:m.aL):gz r.aA r.aH (r.aF.aT m):=by
 have t:=sS r;have e:r.aF.r.aD k:=hf;rw[vF];split;·exact t
 ·rename_i c0;simp only[not_or]at c0;obtain⟨f1,-⟩:=CP e (j:=0) ⟨Uy _,Uy _⟩ hm;have t1:gz r.aA r.aH (r.aF.aG m)/\(r.aF.aG m).o.aC=false:=by
   unfold RX.aG;split;·rename_i c;have ht:=hf.aF;have hc:r.aA.aC<m.aF:=c;have h1:=hm.aF;exact⟨(t.aH e (by omega) (tm:=m.aF) (v:=0) ⟨by omega,by omega⟩ iR).of rfl rfl ⟨rfl,rfl,rfl,rfl⟩,rfl⟩
   ·exact⟨t,rfl⟩
  obtain⟨t1,t2⟩:=t1;split
  ·split;·exact t1.of rfl rfl ⟨rfl,rfl,rfl,rfl⟩
   ·split;·exact t1.of rfl rfl ⟨rfl,rfl,rfl,rfl⟩
    ·exact t1
  ·unfold RX.aY;split;·exact t1.aL f1 (by omega) hm
   ·split;·exact t1.aV f1 u
    ·split;·exact t1.aO
     ·split;·exact t1
      ·rename_i c1 c2 c3 c4;have hi:=hm.aD (by omega);have t3:gz r.aA r.aH ⟨{(r.aF.aG m).r.aW m.aC with aK:=0},(r.aF.aG m).o⟩:=t1.of rfl rfl ⟨rfl,rfl,rfl,rfl⟩;have f3:=(f1.aJ m.aC).aN;simp only;split;·exact t3.aK f3 (by omega) hm hi
       ·exact t3.aQ f3 (by omega) hm hi t2
theorem gz.aU (r:eZ)(hf:r.aD k)(u:k+1<=130000)(e:Int):gz r.aA r.aH (r.bC e):=by
 unfold eZ.bC;split
 ·split;·exact gz.aF (sS {r with aO:=0})
  ·exact sS {r with aO:=r.aO+1}
 ·have b:=sS {r with aK:=r.aK+1};simp only;split;·rename_i c;refine b.aS (k:=k+1) ?_ u c.2.2.1 e;obtain⟨g1,g2,g3,g4,g5,g6,g7,g8,g9,g10,U,O,M,I,E⟩:=hf.aA (V4 k);exact⟨g1,g2,g3,g4,g5,g6,g7,g8,g9,⟨by show 0<=r.aK+1;omega,by have:=hf.aX;show r.aK+1<=((k+1:Nat):Int);omega⟩,U,O,M,I,E⟩
  ·exact b
theorem gz.aP (r:eZ)(hf:r.aD k)(e:k<=130000){kind:Int}{data:List Int}(hd:gI data/\data.length<=2^16)(hk:hU kind):gz r.aA r.aH (r.bD kind data):=
 (gz.aF ((sS r).aI hf e hd hk)).aG
theorem gz.aN (t:gz h0 a0 x):nC h0 x.aA.o.aA x.aA.r.aA /\
  ((x.aA.o.aF=[]/\x.r.aE<=x.r.aH)\/(x.r.aH<x.r.aE/\x.aA.o.aE=x.r.aH+1/\x.aA.o.aF=x.r.aA.aA.aI (x.r.aH+1) (x.r.aE-x.r.aH))) /\
  x.r.aH=(if x.aA.o.aC=true then x.aA.r.aA.aA.aA else a0):=by
 obtain⟨e1,e2,e3,e4,e5,e6⟩:=xf x;refine⟨by rw[e5,e2];exact t.aD,?_,by rw[e6,e2];exact t.aC⟩;have er:x.r.aT.aA=x.r.aA/\x.r.aT.aE=x.r.aE/\x.r.aT.aH=x.r.aH:=by unfold eZ.aT;split<;>exact⟨rfl,rfl,rfl⟩
 unfold RX.aA;simp only[er];split;·rename_i c;exact .inl ⟨t.aA.1,c⟩
 ·rename_i c;exact .inr ⟨by omega,rfl,rfl⟩
end
structure gw where
 l:List eZ
 aA:List fE
 aC:Es
 aK:List Int
 aE:List Int
 aG:List Int
def gw.aD (x:gw)(k:Nat)(y:RX):gw:=
 {x with
  l:=x.l.set k y.r
  aA:=x.aA++y.o.aD
  aC:=gQ x.aC y.r
  aK:=x.aK++List.replicate ((gQ x.aC y.r).length-x.aC.length) y.r.aA.aC
  aE:=if y.r.aG=2/\y.r.aA.aC∉x.aE then x.aE++[y.r.aA.aC] else x.aE
  aG:=if y.r.aG=2/\y.r.aA.aC∉x.aE then x.aG++[y.r.id] else x.aG}
structure ic (c0:fq)(B K:Nat)(x:gw):Prop where
 ex:∃G:gq,G.c0=c0/\G.ok/\G.aJ B/\G.aL x.aC/\(∀k (h:k<x.l.length),gB G x.aC x.l[k])/\(∀m∈x.aA,kO G x.aC m) /\
  (∀i (_:i<x.aC.length),∃t,x.aK[i]?=some t/\G.aI t (i+1) x.aC)/\∀(i:Nat) t j,x.aE[i]?=some t->x.aG[i]?=some j->∃w,G.aA t=some w/\w.id=j
 aD:x.l.length=5
 aE:∀k (h:k<x.l.length),x.l[k].id=k+1/\x.l[k].aA.aE=1/\x.l[k].aH=x.l[k].aE
 aC:∀k (h:k<x.l.length),x.l[k].aD K
 aJ:x.aK.length=x.aC.length
 aK:x.aG.length=x.aE.length
structure nu (x:gw)(h0:fF)(a0:Int)(y:RX):Prop where
 aC:nC h0 y.o.aA y.r.aA
 aF:x.aC<+:gQ x.aC y.r
 aA:∃n:Nat,(n:Int)=(if y.o.aC=true then y.r.aA.aA.aA else a0)/\n<=x.aC.length/\((n+y.o.aF.length:Nat):Int)=y.r.aH/\(y.o.aF≠[]->y.o.aE=n+1)/\(∀i,i<y.o.aF.length->(gQ x.aC y.r)[n+i]?=y.o.aF[i]?)/\(gQ x.aC y.r).length=max x.aC.length (n+y.o.aF.length)
 aE:y.r.aG=2->(∀(i:Nat) t j,x.aE[i]?=some t->x.aG[i]?=some j->t=y.r.aA.aC->j=y.r.id) /\
  (∀(n:Nat) e,y.r.aA.aA.aA<=n->(gQ x.aC y.r)[n]?=some e->∀t,(x.aK++List.replicate ((gQ x.aC y.r).length-x.aC.length) y.r.aA.aC)[n]?=some t->t<y.r.aA.aC->y.r.aA.aA.aI (n+1) 1=[e])
 aD:∀e∈y.o.aF,e∈y.r.aA.aA.es
theorem SP (h:fF)(c:fZ):(h.aI c).1.aE=h.aE:=by
 unfold fF.aI;split;·rfl
 ·split;·split<;>rfl
  ·split<;>rfl
theorem K4:∀{l:List fZ}{h h':fF},nC h l h'->h'.aE=h.aE:=by
 intro l;induction l with
 | nil=>intro h h' e;obtain rfl:=e;rfl
 | cons c l ih=>intro h h' e;exact (ih e.2.2.2).trans (SP h c)
section
variable {c0:fq} {B K:Nat} {x:gw}
theorem kO.aI {G:gq}{D:Es}{m:fE}(ok:G.ok)(s:G.aJ B)(hB:B<=2^30)(h:kO G D m):m.aL:=by
 have ht:=h.aA.aA.2;have hs:=s.2;refine⟨⟨by have:=h.aA.es.1;omega,λe he=>?_⟩,h.aA.aE,by omega,⟨⟨by have:=h.aA.aA;omega,by have:=h.aA.aA;omega⟩,⟨by have:=h.aA.aD;omega,by have:=h.aA.aD;omega⟩⟩,λz=>?_⟩
 ·by_cases c:m.aD=3
  ·obtain⟨w,w1,w2,w3,w4,w5,w6⟩:=h.aD c;rw[w5]at he;have hw:=UX (U9 he);obtain⟨t1,t2,t3,t4⟩:=ok.aG _ _ w1 e hw;have t5:=(ok.aP w1).2 e hw;obtain⟨i,hi,rfl⟩:=WD.1 hw;have t6:=Fw ok (ok.aA _ _ w1).2.2.2.2.1 hi;exact⟨⟨t1,by omega⟩,⟨by omega,by omega⟩,⟨by omega,by omega⟩⟩
  ·rw[h.aA.es.2 c]at he;cases he
 ·obtain⟨a,b⟩:=h.aA.aC z;rcases b with b | ⟨t,w,w1,w2⟩;·omega
  ·have:=s.1 t w w1;omega
theorem ic.aG (h:ic c0 B K x){k:Nat}(hk:k<x.l.length){y:RX}{n K':Nat} (t:gz x.l[k].aA x.l[k].aH y) (f:y.aA.r.aD K') (hK:K<=K')
  (go:∀G:gq,G.c0=c0->G.ok->G.aL x.aC->G.aJ B->gB G x.aC x.l[k]->(∀m∈x.aA,kO G x.aC m)->ig n G x.aC (k+1) y):ic c0 (B+n) K' (x.aD k y.aA)/\nu x x.l[k].aA x.l[k].aH y.aA:=by
 obtain⟨⟨G,g0,ok,sm,hD,hm,hp,ht,hl⟩,len,mem,fit,a1,O⟩:=h;obtain⟨G',Z,g,d1,d2,r2,a3,U,d5,d6,my,a2⟩:=(go G g0 ok hD sm (hm k hk) hp).aE hD;obtain⟨t1,t2,t3⟩:=t.aN;obtain⟨e1,e2,e3,e4,e5,e6⟩:=xf y;have ed:gQ x.aC y.aA.r=gQ x.aC y.r:=by unfold gQ;rw[e3];show (if _ then (gF x.aC y.aA.r.aA.aA).take _ else _)=_;rw[e2]
 have at0:=my.aD;have hb0:=my.on.aA;have dn:=my.aF;have hlen:=my.aQ;have W:∀i (_:i<(gQ x.aC y.r).length),∃t,(x.aK++List.replicate ((gQ x.aC y.r).length-x.aC.length) y.aA.r.aA.aC)[i]?=some t/\G'.aI t (i+1) (gQ x.aC y.r):=by
  intro i hi;by_cases c:i<x.aC.length;·obtain⟨t,h1,h2⟩:=ht i c;refine⟨t,by rw[UZ (by omega)];exact h1,(h2.aC g).of ?_⟩;exact iU d1 (by omega)
  ·refine⟨y.aA.r.aA.aC,?_,?_⟩;·rw[U1 (by omega),VY,Uv (by omega)]
   ·have a6:(x.aC.length:Int)<y.r.aE:=by apply UC;intro z;unfold gQ at hi;rw[Uw z]at hi;exact c hi
    have de:gQ x.aC y.r=(f_ x.aC y.r).take y.r.aE.toNat:=by unfold gQ;rw[Uv a6]
    have hi':i<y.r.aE.toNat:=by rw[de]at hi;simp only[UD]at hi;omega
    rw[e2];refine (my.aA.aA (UL _) (show ((i:Int)+1)<=y.r.aE by omega)).of ?_;rw[de,Va];congr 1;omega
 have dl:(gQ x.aC y.r).length=max x.aC.length y.r.aE.toNat:=by
  unfold gQ;split;·simp only[UD];omega
  ·omega
 have E:y.aA.r.aG=2->∃l0,G'.aA y.aA.r.aA.aC=some ⟨y.aA.r.id,l0,f_ (gQ x.aC y.r) y.aA.r⟩:=λz=>r2.aA.aN z;have u:∀(i:Nat) t j,x.aE[i]?=some t->x.aG[i]?=some j->∃w,G'.aA t=some w/\w.id=j:=λi t j a b=>by obtain⟨w,w1,w2⟩:=hl i t j a b;obtain⟨l',q1,-,-⟩:=g.aA t w w1;exact⟨_,q1,w2⟩
 have a7:∀e∈y.aA.o.aF,e∈y.aA.r.aA.aA.es:=by
  intro e he;rcases t2 with⟨z,-⟩ | ⟨-,-,z⟩;·rw[z]at he;cases he
  ·rw[z]at he;rw[e2];unfold fu.aI at he;split at he;·cases he
   ·exact UX (U9 he)
 have gs:∀j (hj:j<(x.aD k y.aA).l.length) (I:j<x.l.length),(x.aD k y.aA).l[j]=if k=j then y.aA.r else x.l[j]:=λj hj I=>List.getElem_set (l:=x.l) (i:=k) (a:=y.aA.r) (j:=j) hj
 refine⟨⟨⟨G',g.c0.trans g0,Z,a2 B sm,?_,?_,?_,?_,?_⟩,?_,?_,?_,?_,?_⟩,⟨t1,by rw[ed];exact d1,?_,λrole=>⟨?_,?_⟩,a7⟩⟩;·show G'.aL (gQ x.aC y.aA.r);rw[ed];exact d2
 ·intro j hj;have I:j<x.l.length:=by simpa [gw.aD] using hj
  rw[gs j hj I];show gB G' (gQ x.aC y.aA.r) _;rw[ed];split;·exact r2.aA
  ·rename_i c;exact (hm j I).bA ok g d1 (by rw[(mem j I).1];omega)
 ·intro m a4;show kO G' (gQ x.aC y.aA.r) m;rw[ed];rcases U4.1 a4 with z | z;·exact (hp m z).aC g d1
  ·exact r2.aC m z
 ·show ∀i (_:i<(gQ x.aC y.aA.r).length),∃t,(x.aK++List.replicate ((gQ x.aC y.aA.r).length-x.aC.length) y.aA.r.aA.aC)[i]?=some t/\G'.aI t (i+1) (gQ x.aC y.aA.r);rw[ed];exact W
 ·intro i t j a b;have a:(if y.aA.r.aG=2/\y.aA.r.aA.aC∉x.aE then x.aE++[y.aA.r.aA.aC] else x.aE)[i]?=some t:=a;have b:(if y.aA.r.aG=2/\y.aA.r.aA.aC∉x.aE then x.aG++[y.aA.r.id] else x.aG)[i]?=some j:=b;by_cases c:y.aA.r.aG=2/\y.aA.r.aA.aC∉x.aE
  ·rw[Uv c]at a b;by_cases ci:i<x.aE.length;·rw[UZ ci]at a;rw[UZ (by omega)]at b;exact u i t j a b
   ·rw[U1 (by omega)]at a;rw[U1 (by omega)]at b;have:i-x.aE.length=0:=by apply UC;intro z;rw[U8 (by simp;omega)]at a;cases a
    rw[this]at a;rw[O,this]at b;simp only[UY,UB]at a b;obtain⟨l0,a5⟩:=E c.1;exact⟨_,by rw[<-a];exact a5,b⟩
  ·rw[Uw c]at a b;exact u i t j a b
 ·show (x.l.set k y.aA.r).length=5;rw[UA];exact len
 ·intro j hj;have I:j<x.l.length:=by simpa [gw.aD] using hj
  rw[gs j hj I];split;·rename_i c;subst c;exact⟨a3,(K4 t1).trans (mem _ hk).2.1,U⟩
  ·exact mem j I
 ·intro j hj;have I:j<x.l.length:=by simpa [gw.aD] using hj
  rw[gs j hj I];split;·exact f
  ·exact (fit j I).aA hK
 ·show (x.aK++List.replicate ((gQ x.aC y.aA.r).length-x.aC.length) y.aA.r.aA.aC).length=(gQ x.aC y.aA.r).length;rw[ed,Ut,VN,a1,dl];omega
 ·show (if y.aA.r.aG=2/\y.aA.r.aA.aC∉x.aE then x.aG++[y.aA.r.id] else x.aG).length=(if y.aA.r.aG=2/\y.aA.r.aA.aC∉x.aE then x.aE++[y.aA.r.aA.aC] else x.aE).length;split;·simp[O]
  ·exact O
 ·refine⟨y.r.aH.toNat,by rw[<-t3];omega,by omega,?_⟩;rw[ed];rcases t2 with⟨z1,z2⟩ | ⟨z1,z2,z3⟩;·rw[z1];refine⟨by rw[U,e3];show ((y.r.aH.toNat+0:Nat):Int)=_;omega,(λz=>absurd rfl z),(λi hi=>by cases hi),by rw[dl];show _=max _ (y.r.aH.toNat+0);omega⟩
  ·have s1:=my.on.aI (from_:=y.r.aH+1) (most:=y.r.aE-y.r.aH) (by omega) (by omega);have s2:y.aA.o.aF=((f_ x.aC y.r).drop y.r.aH.toNat).take (y.r.aE-y.r.aH).toNat:=by rw[z3,s1];show ((f_ x.aC y.r).drop _).take _=_;congr 2;omega
   have sl:y.aA.o.aF.length=(y.r.aE-y.r.aH).toNat:=by rw[s2];simp only[UD,UP];omega
   refine⟨by rw[sl,U,e3];omega,λ_=>by rw[z2];omega,λi hi=>?_,by rw[dl,sl];omega⟩;rw[s2,Vh (by omega),UR];exact mw d5 (by omega)
 ·intro i t j a b e;obtain⟨w,w1,w2⟩:=u i t j a b;obtain⟨l0,q⟩:=E role;rw[e,q]at w1;injection w1 with w1;rw[<-w2,<-w1]
 ·intro n e hn he t M hlt;rw[ed]at he M;obtain⟨hi,rfl⟩:=Up.1 he;obtain⟨t',h1,h2⟩:=W n hi;rw[h1]at M;injection M with M;subst M;obtain⟨l0,q⟩:=E role;obtain⟨q1,q2⟩:=Z.aJ (h2.aA (Int.le_of_lt hlt) (UL _)) q;have q3:=mw q1 (i:=n) (by omega);have q4:(f_ (gQ x.aC y.r) y.aA.r)[n]?=(gQ x.aC y.r)[n]?:=q3.symm;have sl:=r2.aA.on.aI (from_:=(n:Int)+1) (most:=1) (by omega) (by omega);rw[sl,show ((n:Int)+1-1).toNat=n by omega,show (1:Int).toNat=1 from rfl];have q5:n<(f_ (gQ x.aC y.r) y.aA.r).length:=by have:(n+1:Int).toNat<=(f_ (gQ x.aC y.r) y.aA.r).length:=q2;omega
  have q6:(gF (gQ x.aC y.r) y.aA.r.aA.aA).drop n=(f_ (gQ x.aC y.r) y.aA.r)[n] :: (f_ (gQ x.aC y.r) y.aA.r).drop (n+1):=VT q5;rw[q6];rw[Ur q5,Ur hi]at q4;injection q4 with q4;simp[q4]
end
section
variable {c0:fq} {B K:Nat} {x:gw}
theorem ic.aA {B' K':Nat}(h:ic c0 B K x)(hB:B<=B')(hK:K<=K'):ic c0 B' K' x:=by obtain⟨⟨G,g0,ok,sm,r⟩,len,mem,fit,th,ld⟩:=h;exact⟨⟨G,g0,ok,sm.aA hB,r⟩,len,mem,λk hk=>(fit k hk).aA hK,th,ld⟩
theorem ic.aF (h:ic c0 B K x){p:List fE}(hp:∀a∈p,a∈x.aA):ic c0 B K {x with aA:=p}:=by obtain⟨⟨G,g0,ok,sm,a,b,c,d⟩,len,mem,fit,th,ld⟩:=h;exact⟨⟨G,g0,ok,sm,a,b,λm hm=>c m (hp m hm),d⟩,len,mem,fit,th,ld⟩
theorem nu.aG {x:gw}{p:List fE}{h0:fF}{a0:Int}{y:RX}(h:nu x h0 a0 y):nu {x with aA:=p} h0 a0 y:=⟨h.aC,h.aF,h.aA,h.aE,h.aD⟩
theorem ic.aH (h:ic c0 B K x)(hB:B<=2^30){m:fE}(hm:m∈x.aA):m.aL:=by obtain⟨⟨G,g0,ok,sm,a,b,c,d⟩,-⟩:=h;exact (c m hm).aI ok sm hB
theorem ic.aP (h:ic c0 B K x)(hK:K+2<130000){k:Nat}(hk:k<x.l.length)(d:Int):ic c0 (B+2) (K+2) (x.aD k (x.l[k].aQ d))/\nu x x.l[k].aA x.l[k].aH (x.l[k].aQ d):=by
 have f:=h.aC k hk;have e:=(h.aE k hk).1;rw[HF];refine h.aG hk (gz.aU _ f (by omega) d) ?_ (by omega) (λG _ ok _ _ hm _=>?_);·rw[<-HF];exact eZ.bF f (by omega) d
 ·have:=hm.bI ok d;rw[e]at this;exact this
theorem ic.aO (h:ic c0 B K x)(hB:B<=2^30)(hK:K+200<130000){k:Nat}(hk:k<x.l.length){m:fE}(hm:m∈x.aA)(u:m.to=k+1){p:List fE}(hp:∀a∈p,a∈x.aA):
  ic c0 (B+1) (K+200) (({x with aA:=p}:gw).aD k (x.l[k].a_ m))/\nu {x with aA:=p} x.l[k].aA x.l[k].aH (x.l[k].a_ m):=by
 have f:=h.aC k hk;have e:=(h.aE k hk).1;have mf:=h.aH hB hm;have t:=h.aG hk (y:=x.l[k].aF.aT m) (n:=1) (K':=K+200) (gz.aT _ f (by omega) mf) (eZ.bG f (by omega) mf) (by omega) (λG _ ok _ _ hr E=>by have:=(sR hr).aR ok (E m hm) (u.trans e.symm);rw[show x.l[k].aF.r.id=(k:Int)+1 from e]at this;exact this);have es:(x.l[k].aF.aT m).aA=x.l[k].a_ m:=rfl;rw[es]at t;refine⟨?_,t.2.aG⟩;exact t.1.aF (p:=p++(x.l[k].a_ m).o.aD) (λa ha=>by
  rcases U4.1 ha with z | z;·exact Wt _ (hp a z)
  ·exact List.mem_append_right _ z)
theorem ic.aM (h:ic c0 B K x)(hK:K+2<130000){k:Nat}(hk:k<x.l.length){kind:Int}{data:List Int}(hd:gI data/\data.length<=256)(u:0<=kind/\kind<=2) (hc:kind=2->pY x.l[k].aN (ie data).1/\x.l[k].aA.of.2<=x.l[k].aE) (he:(x.l[k].aP kind data).2.2=0):
  ic c0 (B+1) (K+1) (x.aD k (x.l[k].aP kind data).2.1)/\nu x x.l[k].aA x.l[k].aH (x.l[k].aP kind data).2.1:=by
 have f:=h.aC k hk;have e:=(h.aE k hk).1;have es:x.l[k].aG=2/\(x.l[k].aP kind data).2.1=(x.l[k].bD kind data).aA:=by
  unfold eZ.aP at he ⊢;by_cases c1:¬x.l[k].aG=2;·rw[Uv c1]at he;cases he
  ·rw[Uw c1]at he ⊢;by_cases c2:¬kind=1/\¬kind=2;·rw[Uv c2]at he;cases he
   ·rw[Uw c2]at he ⊢;by_cases c3:kind=2/\¬(ie data).2=0;·rw[Uv c3]at he;cases he
    ·rw[Uw c3]at he ⊢;by_cases c4:2^40<=x.l[k].aM;·rw[Uv c4]at he;cases he
     ·rw[Uw c4];exact⟨by omega,rfl⟩
 rw[es.2];refine h.aG hk (gz.aP _ f (by omega) ⟨hd.1,by omega⟩ ⟨by omega,by omega⟩) ?_ (by omega) (λG _ ok _ _ hm _=>?_);·refine (xe ?_).1;have g:=eZ.aD.aT (x:=x.l[k].aF) f (by omega) (kind:=kind) (data:=data) ⟨hd.1,by omega⟩ ⟨by omega,by omega⟩;show ((x.l[k].aF.aF kind data).on).r.aV.aD (K+1);refine eZ.aD.aQ ?_;show (RX.aO _ _).r.aD _;rw[(pG _ _).1];exact g
 ·have:=hm.bF ok es.1 (kind:=kind) (data:=data) ⟨hd.1,hd.2,u⟩ hc;rw[e]at this;exact this
theorem ic.aN (h:ic c0 B K x){k:Nat}(hk:k<x.l.length) (h2:x.l[k].aG=2) (hv:x.l[k].aZ x.l[k].id=true) (he:(x.l[k].aR).2.2=0):
  ic c0 B (K+1) (x.aD k (x.l[k].aR).2.1)/\nu x x.l[k].aA x.l[k].aH (x.l[k].aR).2.1:=by
 have f:=h.aC k hk;have e:=(h.aE k hk).1;have ap:=(h.aE k hk).2.2;obtain⟨y,hy⟩:∃y:RX,y=({x.l[k] with aL:=x.l[k].aL+1}:eZ).aF.on:=⟨_,rfl⟩;have es:(x.l[k].aR).2.1=y:=by
  unfold eZ.aR at he ⊢;rw[Uw (λz=>z h2)]at he ⊢;by_cases c:x.l[k].aA.aA.aF x.l[k].aE=false\/¬x.l[k].aA.aA.aJ x.l[k].aE=x.l[k].aA.aC;·rw[Uv c]at he;cases he
  ·rw[Uw c,hy]
 have yr:y.r={x.l[k] with aL:=x.l[k].aL+1}:=by rw[hy];exact (pG _ _).1
 have te:gz x.l[k].aA x.l[k].aH y:=by rw[hy];exact gz.aF (sS {x.l[k] with aL:=x.l[k].aL+1})
 have ye:y.aA=y:=by
  have e1:y.r.aT=y.r:=by unfold eZ.aT;rw[Uw];rintro⟨-,-,z⟩;rw[yr]at z;have z':x.l[k].aZ x.l[k].id=false:=z;rw[hv]at z';cases z'
  unfold RX.aA;simp only[e1];rw[Uv (by rw[yr];show x.l[k].aE<=x.l[k].aH;omega)]
 rw[es];have t:=h.aG hk (n:=0) (K':=K+1) te (by
   rw[ye,yr];obtain⟨h1,h2,h3,h4,h5,h6,h7,h8,h9,O,M,h12,I,E,u⟩:=f.aA (V4 K);exact⟨h1,h2,h3,h4,h5,h6,h7,h8,h9,O,M,⟨by show 0<=x.l[k].aL+1;omega,by have:=f.bC;show x.l[k].aL+1<=((K+1:Nat):Int);omega⟩,I,E,u⟩) (by omega) (λG _ ok _ _ hm _=>by
  have:=hm.bG ok h2;rw[hy,<-e];exact this)
 rw[ye]at t;exact t
end
section
variable {x:RX} {n:Nat} {m:fE}
def RX.aE (n:Nat)(x:RX):Prop:=x.o.aA.length<=n
theorem RX.aE.aA {n':Nat}(h:x.aE n)(hn:n<=n'):x.aE n':=UH h hn
theorem RX.aE.aE (h:x.aE n)(t v:Int):(x.aI t v).aE (n+1):=by show (x.o.aA++[_]).length<=n+1;have:x.o.aA.length<=n:=h;simp;omega
theorem RX.aE.aC:∀{l:List fR}{x:RX},x.aE n->(x.aO l).aE n:=by
 intro l;induction l with
 | nil=>intro x t;exact t
 | cons f l ih=>intro x t;exact ih (x:=x.to f) t
theorem RX.aE.aN:∀{l:List fE}{x:RX},x.aE n->(x.aM l).aE n:=by
 intro l;induction l with
 | nil=>intro x t;exact t
 | cons f l ih=>intro x t;exact ih (x:=x.aK f) t
theorem RX.aE.aF (h:x.aE n)(k:Int)(d:List Int):(x.aF k d).aE (n+1):=by
 have h':x.o.aA.length<=n:=h;have e:(x.aF k d).o.aA=x.o.aA++[{({fZ.aI with aC:=2,aE:=x.r.aM+1,aA:=⟨0,0,(x.r.aA.aA.aE x.r.aM [⟨x.r.aA.aC,k,d⟩]).aI (x.r.aM+1) 1⟩}:fZ) with aH:=x.r.aA.aE}]:=by unfold RX.aF;simp only;split<;>rfl
 show (x.aF k d).o.aA.length<=n+1;rw[e];simp;omega
theorem RX.aE.aG (h:x.aE n):x.aN.aE (n+1):=by have h1:({x with r:=({x.r with aG:=2,aX:=x.r.id,aO:=0,aI:=[],aC:=[]}:eZ).bx [] x.r.aM}:RX).aE n:=h;exact RX.aE.aC (h1.aF 0 [])
theorem RX.aE.aO (h:x.aE n)(d:Int):(x.aV d).aE (n+2):=by
 have h1:=h.aE (x.r.aA.aC+1) x.r.id;unfold RX.aV;simp only;split;·exact RX.aE.aG (n:=n+1) h1
 ·exact RX.aE.aA (n:=n+1) (RX.aE.aN h1) (by omega)
theorem RX.aE.aD (h:x.aE n):x.aA.aE n:=by unfold RX.aA;simp only;split<;>exact h
theorem RX.aE.aQ (r:eZ)(d:Int):(r.aQ d).aE 2:=by
 unfold eZ.aQ;split
 ·refine RX.aE.aD ?_;split;·exact RX.aE.aC (n:=2) (x:=({r with aO:=0}:eZ).aF) (UK _)
  ·exact UK _
 ·simp only;refine RX.aE.aD ?_;split;·exact RX.aE.aO (n:=0) (x:=({r with aK:=r.aK+1}:eZ).aF) (UK _) d
  ·exact UK _
theorem RX.aE.aI (h:x.aE n):(x.aQ m).aE (n+1):=by
 unfold RX.aQ;simp only;show RX.aE (n+1) (if _ then _ else x);split
 ·split;·exact h.aA (by omega)
  ·exact RX.aE.aE (x:={x with r:={x.r with aK:=0}}) h _ _
 ·exact h.aA (by omega)
theorem RX.aE.aR (h:x.aE n):(x.aU m).aE (n+1):=by
 unfold RX.aU;split;·exact h.aA (by omega)
 ·simp only;split;·exact RX.aE.aG (x:={x with r:={x.r with aI:=x.r.aI++[m.aC]}}) h
  ·exact h.aA (by omega)
theorem RX.aE.aJ (h:x.aE n):(x.aP m).aE n:=by
 unfold RX.aP;split;·exact h
 ·split;·exact h
  ·simp only;have key:∀(z:RX),z.o=x.o->∀(c:Prop) [Decidable c] (f:fR),RX.aE n (if c then z.to f else z):=λz e c _ f=>by
    have:z.aE n:=by show z.o.aA.length<=n;rw[e];exact h
    split<;>exact this
   refine key _ ?_ _ _;split<;>rfl
theorem RX.aE.aH (h:x.aE n):(x.aJ m).aE (n+1):=by
 have h':x.o.aA.length<=n:=h;unfold RX.aJ;split;·exact h.aA (n:=n) (by omega)
 ·split;·exact h.aA (n:=n) (by omega)
  ·simp only;split;·exact h.aA (by omega)
   ·show RX.aE (n+1) (if _ then _ else x);split;·show (x.o.aA++[_]).length<=n+1;simp;omega
    ·exact h.aA (by omega)
theorem RX.aE.aM (h:x.aE n):(x.aR m).aE (n+1):=by
 have h':x.o.aA.length<=n:=h;unfold RX.aR;split;·exact h.aA (n:=n) (by omega)
 ·simp only;split;·exact h.aA (by omega)
  ·show (x.o.aA++[_]).length<=n+1;simp;omega
theorem RX.aE.aP (r:eZ)(m:fE):(r.a_ m).aE 2:=by
 unfold eZ.a_;refine RX.aE.aD ?_;have h0:r.aF.aE 0:=UK _;unfold RX.aT;split;·exact h0.aA (by omega)
 ·simp only;have h1:RX.aE 1 (if r.aF.r.aA.aC<m.aF then (r.aF.aI m.aF 0).aL 0 else r.aF):=by
   split;·exact h0.aE m.aF 0
   ·exact h0.aA (by omega)
  generalize (if r.aF.r.aA.aC<m.aF then (r.aF.aI m.aF 0).aL 0 else r.aF)=y at *;split
  ·split;·exact h1.aA (by omega)
   ·split<;>exact h1.aA (by omega)
  ·split;·exact h1.aI
   ·split;·exact h1.aR
    ·split;·exact h1.aJ.aA (by omega)
     ·split;·exact h1.aA (by omega)
      ·split;·exact RX.aE.aH (x:=⟨{y.r.aW m.aC with aK:=0},y.o⟩) h1
       ·exact RX.aE.aM (x:=⟨{y.r.aW m.aC with aK:=0},y.o⟩) h1
theorem RX.aE.aK (r:eZ)(k:Int)(d:List Int):(r.aP k d).2.1.aE 1:=by
 unfold eZ.aP;split;·exact UK _
 ·split;·exact UK _
  ·split;·exact UK _
   ·split;·exact UK _
    ·refine RX.aE.aD ?_;exact RX.aE.aC (RX.aE.aF (n:=0) (x:=r.aF) (UK _) k d)
theorem RX.aE.aL (r:eZ):(r.aR).2.1.aE 0:=by
 unfold eZ.aR;split;·exact UK _
 ·split;·exact UK _
  ·exact RX.aE.aC (n:=0) (x:=({r with aL:=r.aL+1}:eZ).aF) (UK _)
end
section
variable {x:RX} {n:Nat} {m:fE}
def RX.aD (n:Nat)(x:RX):Prop:=x.o.aD.length<=n
theorem RX.aD.aA {n':Nat}(h:x.aD n)(hn:n<=n'):x.aD n':=UH h hn
theorem RX.aD.aC (h:x.aD n)(m:fE):(x.aK m).aD (n+1):=by show (x.o.aD++[_]).length<=n+1;have:x.o.aD.length<=n:=h;simp;omega
theorem RX.aD.aD:∀{l:List fR}{x:RX}{n:Nat},x.aD n->(x.aO l).aD (n+l.length):=by
 intro l;induction l with
 | nil=>intro x n t;exact t
 | cons f l ih=>intro x n t;exact (ih (x:=x.to f) (RX.aD.aC t _)).aA (by simp;omega)
theorem RX.aD.aN:∀{l:List fE}{x:RX}{n:Nat},x.aD n->(x.aM l).aD (n+l.length):=by
 intro l;induction l with
 | nil=>intro x n t;exact t
 | cons f l ih=>intro x n t;exact (ih (x:=x.aK f) (RX.aD.aC t _)).aA (by simp;omega)
theorem Gf (r:eZ)(was:List fR)(i:Int)(h:r.aA.aD.aE=true):(r.bx was i).aC.length<=21:=by show ((r.aN.aL.filter _).map _).length<=21;rw[UI];exact UH (VB _ _) (Cd (fF.aQ h).1)
theorem RX.aD.aF (h:x.aD n)(k:Int)(d:List Int):(x.aF k d).aD n:=by unfold RX.aF;simp only;split<;>exact h
theorem FY (k:Int)(d:List Int)(hc:x.r.aA.aD.aE=true)(hf:x.r.aC.length<=21):(x.aF k d).r.aC.length<=21:=by
 unfold RX.aF;simp only;split;·exact Gf _ _ _ hc
 ·exact hf
theorem RX.aD.aG (h:x.aD n)(hc:x.r.aA.aD.aE=true):x.aN.aD (n+21):=by have h1:({x with r:=({x.r with aG:=2,aX:=x.r.id,aO:=0,aI:=[],aC:=[]}:eZ).bx [] x.r.aM}:RX).aD n:=h;exact (RX.aD.aD (h1.aF 0 [])).aA (Nat.add_le_add_left (FY (x:={x with r:=({x.r with aG:=2,aX:=x.r.id,aO:=0,aI:=[],aC:=[]}:eZ).bx [] x.r.aM}) 0 [] hc (Gf _ _ _ hc)) _)
theorem RX.aD.aO (h:x.aD n)(hc:x.r.aA.aD.aE=true)(d:Int):(x.aV d).aD (n+21):=by
 obtain⟨z,hz⟩:∃z:RX,z={(x.aI (x.r.aA.aC+1) x.r.id).aL 0 with r:={((x.aI (x.r.aA.aC+1) x.r.id).aL 0).r with aG:=1,aK:=0,aY:=lZ d,aI:=[x.r.id]}}:=⟨_,rfl⟩;have e:x.aV d=if z.r.aN.aF z.r.aI then z.aN else z.aM (kj z.r.id z.r.aA.aE z.r.aA.aC z.r.aA.aA z.r.aN):=by rw[hz];rfl
 have h1:z.aD n:=by rw[hz];exact h
 have h2:z.r.aA.aD.aE=true:=by rw[hz];exact hc
 rw[e];split;·exact h1.aG h2
 ·refine (RX.aD.aN h1).aA (Nat.add_le_add_left ?_ _);unfold kj;rw[UI];exact UH (VB _ _) (UH (xS (fF.aQ h2).1) (by decide))
theorem RX.aD.aE (h:x.aD n):x.aA.aD n:=by unfold RX.aA;simp only;split<;>exact h
theorem RX.aD.aQ (r:eZ)(hc:r.aA.aD.aE=true)(hf:r.aC.length<=21)(d:Int):(r.aQ d).aD 21:=by
 unfold eZ.aQ;split
 ·refine RX.aD.aE ?_;split;·exact (RX.aD.aD (n:=0) (l:=r.aC) (x:=({r with aO:=0}:eZ).aF) (UK _)).aA (by omega)
  ·exact UK _
 ·simp only;refine RX.aD.aE ?_;split;·exact RX.aD.aO (n:=0) (x:=({r with aK:=r.aK+1}:eZ).aF) (UK _) hc d
  ·exact UK _
theorem RX.aD.aI (h:x.aD n):(x.aQ m).aD (n+1):=by
 unfold RX.aQ;simp only;refine RX.aD.aC (n:=n) ?_ _;split;·split<;>exact h
 ·exact h
theorem RX.aD.aR (h:x.aD n)(hc:x.r.aA.aD.aE=true):(x.aU m).aD (n+21):=by
 unfold RX.aU;split;·exact h.aA (by omega)
 ·simp only;split;·exact RX.aD.aG (x:={x with r:={x.r with aI:=x.r.aI++[m.aC]}}) h hc
  ·exact RX.aD.aA (n:=n) h (by omega)
theorem RX.aD.aJ (h:x.aD n):(x.aP m).aD (n+1):=by
 unfold RX.aP;split;·exact h.aA (by omega)
 ·split;·exact h.aA (by omega)
  ·simp only;have key:∀(z:RX),z.o=x.o->∀(c:Prop) [Decidable c] (f:fR),RX.aD (n+1) (if c then z.to f else z):=λz e c _ f=>by
    have:z.aD n:=by show z.o.aD.length<=n;rw[e];exact h
    split;·exact this.aC _
    ·exact this.aA (by omega)
   refine key _ ?_ _ _;split<;>rfl
theorem RX.aD.aH (h:x.aD n):(x.aJ m).aD (n+1):=by
 unfold RX.aJ;split;·exact h.aC _
 ·split;·exact h.aC _
  ·simp only;split;·exact h.aA (by omega)
   ·refine RX.aD.aC (n:=n) ?_ _;show RX.aD n (if _ then _ else x);split<;>exact h
theorem RX.aD.aM (h:x.aD n):(x.aR m).aD (n+1):=by
 unfold RX.aR;split;·exact h.aC _
 ·simp only;split;·exact h.aA (by omega)
  ·exact RX.aD.aC (n:=n) (x:=⟨{(x.aW m.aA m.aH (ie (iH m.aG).1).1 (iH m.aG).2.1).r with aE:=m.aA,aH:=m.aA},{(x.aW m.aA m.aH (ie (iH m.aG).1).1 (iH m.aG).2.1).o with aC:=true}⟩) h _
theorem RX.aD.aP (r:eZ)(hc:r.aA.aD.aE=true)(m:fE):(r.a_ m).aD 21:=by
 unfold eZ.a_;refine RX.aD.aE ?_;have h0:r.aF.aD 0:=UK _;unfold RX.aT;split;·exact h0.aA (by omega)
 ·simp only;have h1:RX.aD 0 (if r.aF.r.aA.aC<m.aF then (r.aF.aI m.aF 0).aL 0 else r.aF)/\(if r.aF.r.aA.aC<m.aF then (r.aF.aI m.aF 0).aL 0 else r.aF).r.aA.aD.aE=true:=by split<;>exact⟨h0,hc⟩
  generalize (if r.aF.r.aA.aC<m.aF then (r.aF.aI m.aF 0).aL 0 else r.aF)=y at *;obtain⟨h1,h2⟩:=h1;split
  ·split;·exact (h1.aC _).aA (by omega)
   ·split;·exact (h1.aC _).aA (by omega)
    ·exact h1.aA (by omega)
  ·split;·exact h1.aI.aA (by omega)
   ·split;·exact h1.aR h2
    ·split;·exact h1.aJ.aA (by omega)
     ·split;·exact h1.aA (by omega)
      ·split;·exact (RX.aD.aH (x:=⟨{y.r.aW m.aC with aK:=0},y.o⟩) h1).aA (by omega)
       ·exact (RX.aD.aM (x:=⟨{y.r.aW m.aC with aK:=0},y.o⟩) h1).aA (by omega)
theorem RX.aD.aK (r:eZ)(hc:r.aA.aD.aE=true)(hf:r.aC.length<=21)(k:Int)(d:List Int):(r.aP k d).2.1.aD 21:=by
 unfold eZ.aP;split;·exact UK _
 ·split;·exact UK _
  ·split;·exact UK _
   ·split;·exact UK _
    ·refine RX.aD.aE ?_;exact (RX.aD.aD (RX.aD.aF (n:=0) (x:=r.aF) (UK _) k d)).aA (by have:=FY (x:=r.aF) k d hc hf;omega)
theorem RX.aD.aL (r:eZ)(hf:r.aC.length<=21):(r.aR).2.1.aD 21:=by
 unfold eZ.aR;split;·exact UK _
 ·split;·exact UK _
  ·exact (RX.aD.aD (n:=0) (l:=r.aC) (x:=({r with aL:=r.aL+1}:eZ).aF) (UK _)).aA (by omega)
end
end Glb
