/-
  A library of its own.
-/
import Derived.Test.YtdeiamnhnfmilaaGreatGlbSafA
import Derived.Test.YtdeiamnhnfmilaaGreatGlbRafV
set_option linter.unusedSimpArgs false
set_option linter.unusedVariables false
set_option maxRecDepth 10000
namespace Glb
open Go
section
variable {G:gJ} {D:Es} {k:Int} {x:RX} {m:fF}
theorem hU.of {r':fy}(h:hU G D x)(e1:r'.id=x.r.id)(e2:r'.aA=x.r.aA)(e3:r'.aI=x.r.aI)(e4:r'.aD=x.r.aD)(e5:r'.aE=x.r.aE)(e6:r'.aJ=x.r.aJ)(e7:r'.aC=x.r.aC):hU G D ⟨r',x.o⟩:=
 ⟨h.aA.of e1 e2 e3 e4 e5 e6 e7,h.aC⟩
theorem iI.aC {n:Nat}(h:iI n G D k x) (f:∀G',G'.ok->hU G' D x->lJ G' D {m with aE:=x.r.id,aK:=x.r.aA.aE,aD:=x.r.aA.aC}):iI n G D k (x.aI m):=by obtain⟨G',u,g,r,e⟩:=h;exact⟨G',u,g,r.aD (f G' u r),e⟩
theorem hU.aL (ok:G.ok)(h:hU G D x)(hm:lJ G D m)(hk:m.aC=1)(ht:m.aD=x.r.aA.aC):iI 1 G D x.r.id (x.aS m):=by
 obtain⟨L,l1,l2,l3⟩:=hm.aG hk;rw[ht]at l1;have hf:=hm.aA.aA;have h1:hU G D ⟨{x.r with aF:=0},x.o⟩:=h.of rfl rfl rfl rfl rfl rfl rfl;have e:x.aS m=(if ku x.r.aA.aC x.r.aA.aF x.r.aA.aA m then (let z:RX:={x with r:={x.r with aF:=0}};if z.r.aA.aF=m.aE then z else z.aJ z.r.aA.aC m.aE) else x).aI {fF.aJ with aC:=2,to:=m.aE,ok:=ku x.r.aA.aC x.r.aA.aF x.r.aA.aA m}:=rfl;rw[e];by_cases c:ku x.r.aA.aC x.r.aA.aF x.r.aA.aA m=true
 ·rw[WW c];unfold ku at c;simp only[Xs,Ys,XK]at c;obtain⟨-,-,c1,c2⟩:=c;simp only;by_cases c3:x.r.aA.aF=m.aE;·rw[WW c3];obtain⟨w,w1,w2⟩:=h.aA.aQ ω;exact (iI.aA ok h1).aC (λG' ok' r=>by obtain⟨w,w1,w2⟩:=r.aA.aQ (by show x.r.aA.aF≠0;omega);exact⟨⟨r.aA.id,⟨Xm _,λ_=>rfl⟩,⟨(λ_ h=>by cases h),Xm _⟩,⟨W9 _,r.aA.aE⟩,(λe=>absurd e (by show ¬(3:Int)<=2;omega))⟩,(λe=>by cases e),λ_ _=>⟨w,w1,w2.trans c3⟩,(λe=>by cases e),(λe=>by cases e),(λe=>by cases e)⟩)
  ·rw[WY c3];have v0:x.r.aA.aF=0:=ω;have nw:tD L (gj D x.r):=by
    have e1:=h.aA.on.aG;have e2:=h.aA.aP;unfold fG.aM at c2;simp only[Ys,Xs,XK]at c2;rw[l2,l3,e1]at c2;have e1':iU (gU D x.r.aA.aA)=iU (gj D x.r):=rfl;rcases c2 with c2 | c2;·exact .inl c2
    ·exact .inr ⟨c2.1,ω⟩
   have nr:x.r.aE=0\/x.r.aE=2:=by
    rcases h.aA.aR with z | z | z;·exact .inl z
    ·exact absurd v0 (h.aA.aS z).1.2
    ·exact .inr z
   obtain⟨G',ok',g,sl,⟨w,w1,w2⟩,m'⟩:=h1.aA.bC ok (c:=m.aE) v0 ω l1 nw nr;refine⟨G',ok',g,hU.aD ⟨m',λa ha=>(h.aC a ha).aC g (Yp _)⟩ ?_,rfl,λB sB=>⟨λt w hw=>Xg (sB.1 t w (by rw[<-sl.1];exact hw)) (Yy _ _),by rw[sl.2];have:=sB.2;omega⟩⟩;exact⟨⟨m'.id,⟨Xm _,λ_=>rfl⟩,⟨(λ_ h=>by cases h),Xm _⟩,⟨W9 _,m'.aE⟩,(λe=>absurd e (by show ¬(3:Int)<=2;omega))⟩,(λe=>by cases e),λ_ _=>⟨w,w1,w2⟩,(λe=>by cases e),(λe=>by cases e),(λe=>by cases e)⟩
 ·rw[WY c];exact (iI.aA ok h).aC (λG' ok' r=>⟨⟨r.aA.id,⟨Xm _,λ_=>rfl⟩,⟨(λ_ h=>by cases h),Xm _⟩,⟨W9 _,r.aA.aE⟩,(λe=>absurd e (by show ¬(3:Int)<=2;omega))⟩,(λe=>by cases e),(λ_ o=>absurd o c),(λe=>by cases e),(λe=>by cases e),(λe=>by cases e)⟩)
theorem hU.aT (ok:G.ok)(h:hU G D x)(hm:lJ G D m)(hk:m.aC=2)(ht:m.aD=x.r.aA.aC)(e:m.to=x.r.id):iI 1 G D x.r.id (x.aU m):=by
 unfold RX.aU;split;·exact iI.aA ok h
 ·rename_i c;simp only[not_or,Classical.not_not,Bool.not_eq_false]at c;obtain⟨c1,c2,c3,c4⟩:=c;obtain⟨w,w1,w2⟩:=hm.aH hk c2;rw[ht]at w1;have h1:hU G D ⟨{x.r with aJ:=x.r.aJ++[m.aE]},x.o⟩:=by
   refine⟨?_,h.aC⟩;have hh:=h.aA;refine⟨hh.id,hh.on,hh.aD,hh.aG,hh.le,hh.aL,hh.aH,hh.aA,hh.aF,hh.aC,hh.aE,hh.aJ,hh.aQ,hh.aN,hh.aO,hh.aI,hh.aR,λz=>?_,hh.aK,hh.aM⟩;obtain⟨a1,a2,a3,a4⟩:=hh.aS z;refine⟨a1,a2,λv hv=>?_,a4⟩;rcases Xe.1 hv with hv | hv;·exact a3 v hv
   ·obtain rfl:v=m.aE:=by simpa using hv
    exact⟨w,w1,w2.trans e⟩
  simp only;split;·rename_i c5;have z:=h1.aH ok c1 c5;exact z
  ·have z:=iI.aA (n:=1) ok h1;exact z
theorem HL {l:List fS}{n:Int}{i:Nat}(h:rO l n=some i):∃hi:i<l.length,l[i].aA=n:=by unfold rO at h;obtain⟨h1,h2,-⟩:=List.findIdx?_eq_some_iff_getElem.1 h;exact⟨h1,by simpa using h2⟩
theorem hU.aN (ok:G.ok)(h:hU G D x)(hm:lJ G D m)(hk:m.aC=4)(ht:m.aD=x.r.aA.aC):iI 1 G D x.r.id (x.aP m):=by
 unfold RX.aP;split;·exact iI.aA ok h
 ·rename_i c;have h2:x.r.aE=2:=by simpa using c
  cases e:rO x.r.aC m.aE with
  | none=>exact iI.aA ok h
  | some i=>
   obtain⟨hi,hn⟩:=HL e;have ef:(x.r.aC[i]?).getD ⟨0,0,0,0⟩=x.r.aC[i]:=by rw[WU hi];rfl
   simp only[ef];obtain⟨a1,a2,a3⟩:=h.aA.aM _ (Xq hi);have hlen:=h.aA.aP;obtain⟨l0,hl⟩:=h.aA.aK h2;have nf:(1<=(x.r.aC[i].aE m).aD/\(x.r.aC[i].aE m).aD<=x.r.aA.aA.aC+1)/\(0<=(x.r.aC[i].aE m).aC/\(x.r.aC[i].aE m).aC<=x.r.aA.aA.aC)/\((x.r.aC[i].aE m).aC=0\/G.aE x.r.aA.aC (x.r.aC[i].aE m).aA (x.r.aC[i].aE m).aC.toNat):=by
    unfold fS.aE;rw[WW ⟨hk,hn.symm⟩];by_cases c2:m.ok=true
    ·rw[WW c2];obtain⟨b1,b2⟩:=hm.aE hk c2;have hx:m.aA<=x.r.aA.aA.aC:=by
      rcases b2 with b2 | b2;·have:=h.aA.aA;have:=h.aA.on.aA;omega
      ·obtain⟨y,y1,y2⟩:=ok.aE _ _ _ b2;rw[ht,hl]at y1;injection y1 with y1;subst y1;simp only at y2;omega
     simp only;refine⟨⟨ω,ω⟩,⟨ω,ω⟩,?_⟩;by_cases c3:m.aA<=x.r.aC[i].aC;·rw[Int.max_eq_left c3];exact a3
     ·rw[Int.max_eq_right ω];refine b2.imp (λz=>z) λz=>?_;rw[hn,<-ht];exact z
    ·rw[WY c2];simp only;exact⟨⟨ω,ω⟩,a2,a3⟩
   have h1:hU G D ⟨{x.r with aC:=x.r.aC.set i (x.r.aC[i].aE m)},x.o⟩:=by
    refine⟨?_,h.aC⟩;have hh:=h.aA;refine⟨hh.id,hh.on,hh.aD,hh.aG,hh.le,hh.aL,hh.aH,hh.aA,hh.aF,hh.aC,hh.aE,hh.aJ,hh.aQ,hh.aN,hh.aO,hh.aI,hh.aR,hh.aS,hh.aK,λf hf=>?_⟩;rcases Y3 hf with z | rfl;·exact hh.aM f z
    ·exact nf
   have fin:∀z:RX,iI 1 G D x.r.id z->z.r.aE=2->z.r.aA=x.r.aA->iI 1 G D x.r.id (if m.ok=false\/(x.r.aC[i].aE m).aD<=z.r.aO then z.to (x.r.aC[i].aE m) else z):=by
    intro z hz z2 zh;split;·obtain⟨G',u,g,r,e⟩:=hz;exact⟨G',u,g,r.to u z2 (by rw[zh];exact nf.1),e⟩
    ·exact hz
   by_cases c2:m.ok=true
   ·simp only[c2,Yc];have s1:=h1.aJ ok h2;have:=fin _ (s1.aF (Xm _)) (by show (fy.aY _).aE=2;unfold fy.aY;split<;>exact h2) (by show (fy.aY _).aA=_;unfold fy.aY;split<;>rfl);simp only[c2]at this;exact this
   ·simp only[Bool.not_eq_true]at c2;simp only[c2,Xt,XS];have z0:=iI.aA (n:=1) ok h1;have:=fin _ z0 h2 rfl;simp only[c2]at this;exact this
theorem hU.aE (ok:G.ok)(h:hU G D x){y:m_}(hy:G.aA x.r.aA.aC=some y){n:Int}(hn:n.toNat<=y.l.length)(hp:(gj D x.r).take n.toNat=y.l.take n.toNat)(h0:0<=n):iI 1 G D x.r.id (x.aQ m true n):=by obtain⟨G',e,g,sl,-,a,m'⟩:=h.aA.aW ok hy hn (by rw[<-hp];exact YZ _ _);have r:hU G' D x:=h.aI g m';exact⟨G',e,g,r.aF ⟨h0,.inr ⟨_,y,by rw[sl.1];exact hy,ω⟩⟩ (λ_=>⟨h0,.inr a⟩),rfl,λB sB=>⟨λt w hw=>Xg (sB.1 t w (by rw[<-sl.1];exact hw)) (Yy _ _),by rw[sl.2];have:=sB.2;omega⟩⟩
theorem hU.aK (ok:G.ok)(h:hU G D x)(hm:lJ G D m)(hk:m.aC=3)(ht:m.aD=x.r.aA.aC) (h0:x.r.aE=0/\x.r.aC=[]):iI 1 G D x.r.id (x.aG m):=by
 obtain⟨y,y1,y2,y3,y4,y5,y6⟩:=hm.aD hk;rw[ht]at y1 y6;have at0:=h.aA.aA;have hb0:=h.aA.on.aA;unfold RX.aG;split;·obtain⟨a1,a2⟩:=ok.aF h.aA.aC y1;exact h.aE ok y1 a2 a1 ω
 ·split;·exact⟨G,ok,jJ.aJ _ _,h.aF ⟨ω,.inr ⟨_,y,y1,ω⟩⟩ (λe=>by cases e),rfl,λB sB=>sB.aA (Yy _ _)⟩
  ·rename_i c1 c2;simp only[not_or,Bool.not_eq_false,Classical.not_not]at c2;obtain⟨c2,c3⟩:=c2;have c3:x.r.aA.aA.aJ m.aA=iU (y.l.take m.aA.toNat):=c3.trans y4;obtain⟨b1,b2,b3,b4⟩:=h.aA.aY ok y1 h0 c2 c3 y3 y5;simp only;split;·rename_i c4;have:=b1 c4.1;omega
   ·rename_i c4;obtain⟨z,hz,zr,zo⟩:∃z:RX,z=(if 0<x.r.aA.aA.aI m.aA m.es then ({x with r:={x.r with aA:={x.r.aA with aA:=x.r.aA.aA.aE m.aA m.es}}}:RX).aX {gE.aI with aC:=2,aE:=x.r.aA.aA.aI m.aA m.es,aA:=⟨0,0,(x.r.aA.aA.aE m.aA m.es).aH (x.r.aA.aA.aI m.aA m.es) (x.r.aA.aA.aE m.aA m.es).es.length⟩} else x)/\z.r={x.r with aA:={x.r.aA with aA:=x.r.aA.aA.aE m.aA m.es}}/\z.o.aA=x.o.aA:=by
     refine⟨_,rfl,?_⟩;split;·exact⟨rfl,rfl⟩
     ·rename_i c5;have e:x.r.aA.aA.aE m.aA m.es=x.r.aA.aA:=by
       unfold fG.aI at c5;unfold fG.aE;split;·rename_i c6;rw[WW c6]at c5;have:=lF.1 c6.1;omega
       ·rfl
      rw[e];exact⟨rfl,rfl⟩
    rw[<-hz];have hl:=b2;rw[<-zr]at b2;have tk:gj D z.r=gU D (x.r.aA.aA.aE m.aA m.es):=by rw[zr]
    have lz:z.r.aA.aA.aC=(x.r.aA.aA.aE m.aA m.es).aC:=by rw[zr]
    have cz:z.r.aD=x.r.aD:=by rw[zr]
    have tz:z.r.aA.aC=x.r.aA.aC:=by rw[zr]
    have iz:z.r.id=x.r.id:=by rw[zr]
    have E:=b2.aA;have u:gN G D {z.r with aD:=max z.r.aD (min m.aI (m.aA+m.es.length))}:=by
     refine⟨b2.id,b2.on,b2.aD,b2.aG,b2.le,b2.aL,b2.aH,⟨E.1,by show z.r.aI<=max _ _;omega,by show max _ _<=z.r.aA.aA.aC;omega⟩,b2.aF,?_,b2.aE,b2.aJ,b2.aQ,b2.aN,b2.aO,b2.aI,b2.aR,b2.aS,b2.aK,b2.aM⟩;show G.aI z.r.aA.aC (max z.r.aD (min m.aI (m.aA+m.es.length))) (gj D z.r);by_cases c5:min m.aI (m.aA+m.es.length)<=z.r.aD;·rw[Int.max_eq_left c5];exact b2.aC
     ·rw[Int.max_eq_right ω,tz];refine (y6.aA (W9 _) (Int.min_le_left _ _)).of ?_;rw[tk];exact mi b3 ω
    have r2:hU G D ⟨{z.r with aD:=max z.r.aD (min m.aI (m.aA+m.es.length))},z.o⟩:=⟨u,λa ha=>h.aC a (by rw[<-zo];exact ha)⟩;have:=r2.aE (m:=m) ok (y:=y) (n:=m.aA+m.es.length) (by show G.aA z.r.aA.aC=_;rw[tz];exact y1) ω (by show (gj D z.r).take _=_;rw[tk];exact b3) ω;rw[show ({r:={z.r with aD:=max z.r.aD (min m.aI (m.aA+m.es.length))},o:=z.o}:RX).r.id=x.r.id from iz]at this;exact this
theorem hU.aP (ok:G.ok)(h:hU G D x)(hm:lJ G D m)(hk:m.aC=5)(ht:m.aD=x.r.aA.aC) (h0:x.r.aE=0/\x.r.aC=[]):iI 1 G D x.r.id (x.aR m):=by
 obtain⟨y,y1,y2,y3,y4,y5,y6,y7,y8,y9⟩:=hm.aF hk;rw[ht]at y1 y5;have at0:=h.aA.aA;have hb0:=h.aA.on.aA;unfold RX.aR;split;·obtain⟨a1,a2⟩:=ok.aF h.aA.aC y1;exact h.aE ok y1 a2 a1 ω
 ·rename_i c;simp only;rw[WY (by rw[y6,y7];simp)];obtain⟨b1,b2,b3⟩:=h.aA.bz ok y1 h0 (b:=m.aA) ω y3 y5 (sn:=(jb m.aG).2.1) ⟨y8,y9⟩;rw[<-y4]at b1 b2;have r2:hU G D ⟨{x.r with aA:={x.r.aA with aA:=x.r.aX m.aA m.aH,aD:=jh G.c0 (D.take m.aA.toNat),aG:=(jb m.aG).2.1},aD:=m.aA,aI:=m.aA},{(x.aW m.aA m.aH (jh G.c0 (D.take m.aA.toNat)) (jb m.aG).2.1).o with aD:=true}⟩:=⟨b1,h.aC⟩;have:=r2.aE (m:=m) ok (y:=y) (n:=m.aA) y1 b3 b2 y2;rw[y7];exact this
theorem hU.aS (h:hU G D x)(hm:lJ G D m):hU G D (x.aH m)/\(x.aH m).r.id=x.r.id:=by
 unfold RX.aH;split;·rename_i c;exact⟨⟨h.aA.up c hm.aA.aA.2 0,h.aC⟩,rfl⟩
 ·exact⟨h,rfl⟩
theorem Vs (x:RX)(m:fF):m.aD<=(x.aH m).r.aA.aC:=by
 unfold RX.aH;split;·exact W9 _
 ·rename_i c;omega
theorem hU.aR (ok:G.ok)(h:hU G D x)(hm:lJ G D m)(E:m.to=x.r.id):iI 1 G D x.r.id (x.aT m):=by
 rw[xi];split;·exact iI.aA ok h
 ·obtain⟨t,ti⟩:=h.aS hm;have tt:=Vs x m;rw[<-ti];split
  ·rename_i c;split;·exact (iI.aA ok t).aC (λG' u r=>⟨⟨r.aA.id,⟨Xm _,λ_=>rfl⟩,⟨(λ_ h=>by cases h),Xm _⟩,⟨W9 _,r.aA.aE⟩,(λe=>absurd e (by show ¬(3:Int)<=2;omega))⟩,(λe=>by cases e),(λ_ o=>by cases o),(λe=>by cases e),(λe=>by cases e),(λe=>by cases e)⟩)
   ·split;·exact (iI.aA ok t).aC (λG' u r=>⟨⟨r.aA.id,⟨Xm _,λ_=>rfl⟩,⟨(λ_ h=>by cases h),Xm _⟩,⟨W9 _,r.aA.aE⟩,λ_=>⟨W9 _,.inl rfl⟩⟩,(λe=>by cases e),(λe=>by cases e),(λe=>by cases e),(λ_ o=>by cases o),(λe=>by cases e)⟩)
    ·exact iI.aA ok t
  ·rename_i c0 c;have e:m.aD=(x.aH m).r.aA.aC:=ω;unfold RX.aY;split;·rename_i c1;exact t.aL ok hm c1 e
   ·split;·rename_i c1;exact t.aT ok hm c1 e (E.trans ti.symm)
    ·split;·rename_i c1;exact t.aN ok hm c1 e
     ·split;·exact iI.aA ok t
      ·have z:hU G D ⟨{(x.aH m).r.aW m.aE with aF:=0},(x.aH m).o⟩:=⟨(t.aA.aT m.aE).of rfl rfl rfl rfl rfl rfl rfl,t.aC⟩;simp only;split;·rename_i c1;exact z.aK ok hm c1 e ⟨rfl,rfl⟩
       ·rename_i c2 c3 c4 c5 c1;refine z.aP ok hm ?_ e ⟨rfl,rfl⟩;simp only[not_or]at c0;omega
end
section
variable {G:gJ} {D:Es} {k:Int} {x:RX} {m:fF}
theorem yT (x:RX):x.aA.r.id=x.r.id/\x.aA.r.aA=x.r.aA/\x.aA.r.aD=x.r.aD/\x.aA.o.aA=x.o.aA/\x.aA.o.aC=x.o.aC/\x.aA.o.aD=x.o.aD:=by
 have e:x.r.aZ.id=x.r.id/\x.r.aZ.aA=x.r.aA/\x.r.aZ.aD=x.r.aD:=by unfold fy.aZ;split<;>exact⟨rfl,rfl,rfl⟩
 unfold RX.aA;simp only;split<;>exact⟨e.1,e.2.1,e.2.2,rfl,rfl,rfl⟩
theorem iI.aE (hD:G.aL D){n:Nat}(h:iI n G D k x):∃G',G'.ok/\jJ k G G'/\D<+:g_ D x.r/\G'.aL (g_ D x.r)/\hU G' (g_ D x.r) x.aA/\x.aA.r.id=k/\x.aA.r.aI=x.aA.r.aD/\(g_ D x.r).take x.r.aD.toNat=(gj D x.r).take x.r.aD.toNat/\x.r.aD<=(g_ D x.r).length/\gN G' D x.r/\∀B,G.aJ B->G'.aJ (B+n):=by
 obtain⟨G',u,g,r,e,s⟩:=h;have E:G'.aL D:=let⟨t,ht⟩:=hD;⟨t,ht.aC g⟩
 have h1:gN G' D x.r.aZ:=by
  unfold fy.aZ;split;·exact r.aA.aT 0
  ·exact r.aA
 have e1:x.r.aZ.id=x.r.id/\x.r.aZ.aA=x.r.aA/\x.r.aZ.aD=x.r.aD/\x.r.aZ.aI=x.r.aI:=by unfold fy.aZ;split<;>exact⟨rfl,rfl,rfl,rfl⟩
 have ed:g_ D x.r.aZ=g_ D x.r:=by unfold g_;rw[e1.2.2.1];show (if _ then (gU D x.r.aZ.aA.aA).take _ else _)=_;rw[e1.2.1]
 obtain⟨d1,d2,d3,d4,d5,d6⟩:=h1.bB u E;rw[ed,e1.2.2.1]at d5 d6;rw[ed]at d1 d2 d3 d4;have ef:gj D x.r.aZ=gj D x.r:=by show gU D x.r.aZ.aA.aA=_;rw[e1.2.1]
 rw[ef]at d5;refine⟨G',u,g,d1,d2,?_,(yT x).1.trans e,?_,d5,d6,r.aA,s⟩
 ·refine⟨?_,λm hm=>(r.aC m (by rw[(yT x).2.2.2.1]at hm;exact hm)).aC (jJ.aJ k G') d1⟩;unfold RX.aA;simp only;split;·exact d3
  ·exact d4
 ·have at0:=r.aA.aA;unfold RX.aA;simp only;split;·rename_i c;show x.r.aZ.aI=x.r.aZ.aD;omega
  ·rfl
theorem wc {r:fy}(h:gN G D r):hU G D r.aH:=⟨h,λm hm=>by cases hm⟩
def fy.bJ (r:fy)(draw:Int):RX:=
 if r.aE=2 then (if r.aM+1≥2 then (({r with aM:=0}:fy).aH).on else ({r with aM:=r.aM+1}:fy).aH)
 else
  let s:fy:={r with aF:=r.aF+1}
  if s.aT<=s.aF/\s.bz s.id=true/\s.aA.aC<2^40/\s.aO<2^40 then s.aH.aV draw else s.aH
theorem JW (r:fy)(e:Int):r.aV e=(r.bJ e).aA:=by unfold fy.aV fy.bJ;split<;>rfl
theorem gN.bK (ok:G.ok){r:fy}(h:gN G D r)(e:Int):iI 2 G D r.id (r.bJ e):=by
 unfold fy.bJ;split
 ·rename_i c;split;·have b:=wc (h.of (r':={r with aM:=0}) rfl rfl rfl rfl rfl rfl rfl);exact⟨G,ok,jJ.aJ _ _,(b.on ok c).1,by rw[(b.on ok c).2];rfl,λB sB=>sB.aA (Yy _ _)⟩
  ·exact iI.aA ok (wc (h.of (r':={r with aM:=r.aM+1}) rfl rfl rfl rfl rfl rfl rfl))
 ·have b:=wc (h.of (r':={r with aF:=r.aF+1}) rfl rfl rfl rfl rfl rfl rfl);simp only;split;·exact b.aQ ok e
  ·exact iI.aA ok b
def fy.bL (r:fy)(kind:Int)(data:List Int):RX:=((r.aH.aF kind data).on).aM
theorem gN.bI (ok:G.ok){r:fy}(h:gN G D r)(h2:r.aE=2){kind:Int}{data:List Int}(hs:gw.aF ⟨r.aA.aC,kind,data⟩)(hc:kind=2->qY r.aN (iG data).1/\r.aA.of.2<=r.aD):iI 1 G D r.id (r.bL kind data):=by obtain⟨l1,l2⟩:=(wc h).aO ok h2 hs hc;exact (hU.aG ok l1 l2).1
end
theorem fy.aG.aS {x:fy}{k:Nat}(h:x.aG k)(hk:k<=130000):x.aA.aJ 130000:=by obtain⟨a,b,c,d,e,f⟩:=h.bG ω;exact⟨a,ω,c,d,e,f⟩
def oj:fP->List gE->fP->Prop
 | h,[],h'=>h'=h
 | h,c :: r,h'=>(c.aH=h.aE/\1<=c.aC/\c.aC<=3)/\(c.aM/\h.aJ 130000)/\(h.aI c).2=0/\oj (h.aI c).1 r h'
theorem yO {c:gE}{h1:fP}(h2:c.aH=h1.aE/\1<=c.aC/\c.aC<=3)(h3:c.aM/\h1.aJ 130000)(h4:(h1.aI c).2=0):∀{l:List gE}{h:fP},oj h l h1->oj h (l++[c]) (h1.aI c).1:=by
 intro l;induction l with
 | nil=>intro h e;obtain rfl:=e;exact⟨h2,h3,h4,rfl⟩
 | cons a l ih=>intro h e;exact⟨e.1,e.2.1,e.2.2.1,ih e.2.2.2⟩
theorem J3 {h:fP}{c:gE}{e:Es}(h1:c.aC=2)(h2:h.aA.aA<c.aE/\c.aE<=h.aA.aC+1)(h3:h.aA.es.take (c.aE-h.aA.aA-1).toNat++c.aA.es=e):h.aI c=({h with aA:=⟨h.aA.aA,h.aA.aD,e⟩},0):=by unfold fP.aI;rw[WY ω,WW h1,WY ω,h3]
theorem J4 {h:fP}{c:gE}(h1:c.aC=3):h.aI c=({h with aA:=h.aM c,aD:=c.aG,aG:=c.aJ},0):=by unfold fP.aI;rw[WY ω,WY ω,WW h1]
theorem LS {h:fP}{c:gE}(h2:c.aH=h.aE/\1<=c.aC/\c.aC<=3)(h4:(h.aI c).2=0):(ji h).aC c=(ji (h.aI c).1,0):=by unfold jH.aC ji;rw[WY ω,WY ω];simp only[r7,h2.1,Yc,h4];simp
structure gS (h0:fP)(a0:Int)(x:RX):Prop where
 aD:oj h0 x.o.aC x.r.aA
 aA:x.o.aF=[]/\x.o.aE=0
 aC:x.r.aI=if x.o.aD=true then x.r.aA.aA.aA else a0
section
variable {h0:fP} {a0:Int} {x y:RX} {k:Nat} {m:fF}
theorem gS.of (t:gS h0 a0 x)(e1:y.r.aA=x.r.aA)(e2:y.r.aI=x.r.aI)(e3:y.o.aC=x.o.aC/\y.o.aF=x.o.aF/\y.o.aE=x.o.aE/\y.o.aD=x.o.aD):gS h0 a0 y:=
 ⟨by rw[e3.1,e1];exact t.aD,by rw[e3.2.1,e3.2.2.1];exact t.aA,by rw[e2,e3.2.2.2,e1];exact t.aC⟩
theorem jv:iA 0:=⟨δ,δ⟩
theorem Pq:iA 1:=⟨δ,δ⟩
theorem HZ:iA 2:=⟨δ,δ⟩
theorem Pr:iA 3:=⟨δ,δ⟩
theorem Qa:(1:Int)<=1/\(1:Int)<=3:=⟨δ,δ⟩
theorem Il:(1:Int)<=2/\(2:Int)<=3:=⟨δ,δ⟩
theorem Qb:(1:Int)<=3/\(3:Int)<=3:=⟨δ,δ⟩
theorem gS.aH (t:gS h0 a0 x)(hf:x.r.aG k)(u:k<=130000){tm v:Int}(h1:iA tm)(h2:iA v):gS h0 a0 (x.aJ tm v):=by
 refine⟨?_,t.aA,t.aC⟩;have c:=yO (c:={({gE.aI with aC:=1,aK:=tm,aL:=v}:gE) with aH:=x.r.aA.aE}) ⟨rfl,Qa⟩ ⟨?_,hf.aS u⟩ rfl t.aD;·exact c
 ·exact⟨⟨Pq,hf.aO.1,h1,h2,jv,⟨jv,jv,(by intro e he;cases he)⟩,⟨(by intro e he;cases he),(by intro e he;cases he),(by intro e he;cases he)⟩,(by intro e he;cases he),⟨jv,jv,jv,jv,jv⟩⟩,⟨Xm _,(by intro e he;cases he)⟩,⟨Xm _,Xm _,Xm _⟩,Xm _⟩
theorem gS.to (t:gS h0 a0 x)(f:fS):gS h0 a0 (x.to f):=t.of rfl rfl ⟨rfl,rfl,rfl,rfl⟩
theorem gS.aG:∀{l:List fS}{x:RX},gS h0 a0 x->gS h0 a0 (x.aN l):=by
 intro l;induction l with
 | nil=>intro x t;exact t
 | cons f l ih=>intro x t;exact ih (t.to f)
theorem gS.aF (t:gS h0 a0 x):gS h0 a0 x.aM:=by
 have e:x.r.aY.aA=x.r.aA/\x.r.aY.aI=x.r.aI:=by unfold fy.aY;split<;>exact⟨rfl,rfl⟩
 exact t.of e.1 e.2 ⟨rfl,rfl,rfl,rfl⟩
theorem gS.aI (t:gS h0 a0 x)(hf:x.r.aG k)(hk2:k<=130000){kind:Int}{data:List Int}(hd:gT data/\data.length<=2^16)(hk:iA kind):gS h0 a0 (x.aF kind data):=by
 have e:x.r.aA.aA.aE x.r.aO [⟨x.r.aA.aC,kind,data⟩]=⟨x.r.aA.aA.aA,x.r.aA.aA.aD,x.r.aA.aA.es++[⟨x.r.aA.aC,kind,data⟩]⟩:=tw _ _;have e2:=EK x.r.aA.aA ⟨x.r.aA.aC,kind,data⟩;have e3:x.r.aO=x.r.aA.aA.aC:=rfl;rw[e3]at e;rw[e]at e2;have ht:=hf.aG;have hl:=hf.aJ;have hb:=hf.aD;have key:oj h0 (x.o.aC++[{({gE.aI with aC:=2,aE:=x.r.aA.aA.aC+1,aA:=⟨0,0,[⟨x.r.aA.aC,kind,data⟩]⟩}:gE) with aH:=x.r.aA.aE}]) {x.r.aA with aA:=⟨x.r.aA.aA.aA,x.r.aA.aA.aD,x.r.aA.aA.es++[⟨x.r.aA.aC,kind,data⟩]⟩}:=by
  have tu:x.r.aA.aI {({gE.aI with aC:=2,aE:=x.r.aA.aA.aC+1,aA:=⟨0,0,[⟨x.r.aA.aC,kind,data⟩]⟩}:gE) with aH:=x.r.aA.aE}=({x.r.aA with aA:=⟨x.r.aA.aA.aA,x.r.aA.aA.aD,x.r.aA.aA.es++[⟨x.r.aA.aC,kind,data⟩]⟩},0):=by have hll:x.r.aA.aA.aC=x.r.aA.aA.aA+x.r.aA.aA.es.length:=rfl;refine J3 rfl ⟨by show x.r.aA.aA.aA<x.r.aA.aA.aC+1;omega,W9 _⟩ ?_;show x.r.aA.aA.es.take (x.r.aA.aA.aC+1-x.r.aA.aA.aA-1).toNat++_=_;rw[Xu ω]
  have c:=yO (c:={({gE.aI with aC:=2,aE:=x.r.aA.aA.aC+1,aA:=⟨0,0,[⟨x.r.aA.aC,kind,data⟩]⟩}:gE) with aH:=x.r.aA.aE}) ⟨rfl,Il⟩ ⟨?_,hf.aS hk2⟩ (by rw[tu]) t.aD;·rw[tu]at c;exact c
  ·have hll:x.r.aA.aA.aC=x.r.aA.aA.aA+x.r.aA.aA.es.length:=rfl;refine⟨⟨HZ,hf.aO.1,jv,jv,⟨by show _<=x.r.aA.aA.aC+1;omega,by show x.r.aA.aA.aC+1<=_;omega⟩,⟨jv,jv,?_⟩,⟨(by intro e he;cases he),(by intro e he;cases he),(by intro e he;cases he)⟩,(by intro e he;cases he),⟨jv,jv,jv,jv,jv⟩⟩,⟨by show 1<=2^12;omega,?_⟩,⟨Xm _,Xm _,Xm _⟩,Xm _⟩
   ·intro e he;obtain rfl:e=⟨x.r.aA.aC,kind,data⟩:=by simpa using he
    exact⟨⟨by show _<=x.r.aA.aC;omega,by show x.r.aA.aC<=_;omega⟩,hk,hd.1⟩
   ·intro e he;obtain rfl:e=⟨x.r.aA.aC,kind,data⟩:=by simpa using he
    exact hd.2
 unfold RX.aF;simp only[e3,e,e2];split;·exact⟨key,t.aA,t.aC⟩
 ·exact⟨key,t.aA,t.aC⟩
theorem gS.aJ (t:gS h0 a0 x)(hf:x.r.aG k)(u:k<=130000):gS h0 a0 x.aL:=by have t1:gS h0 a0 {x with r:=({x.r with aE:=2,aR:=x.r.id,aM:=0,aJ:=[],aC:=[]}:fy).bD [] x.r.aO}:=t.of rfl rfl ⟨rfl,rfl,rfl,rfl⟩;exact (gS.aG (t1.aI (hf.aV ω) u ⟨(by intro e he;cases he),Xm _⟩ jv)).aF
theorem gS.aR:∀{l:List fF}{x:RX},gS h0 a0 x->gS h0 a0 (x.aK l):=by
 intro l;induction l with
 | nil=>intro x t;exact t
 | cons m l ih=>intro x t;exact ih (t.of (y:=x.aI m) rfl rfl ⟨rfl,rfl,rfl,rfl⟩)
theorem gS.aS (t:gS h0 a0 x)(hf:x.r.aG k)(E:k<=130000)(h1:x.r.aA.aC<2^40)(u:Int):gS h0 a0 (x.aV u):=by
 have ht:=hf.aG;have hid:=hf.id;have t1:=t.aH hf E (tm:=x.r.aA.aC+1) (v:=x.r.id) ⟨ω,ω⟩ ⟨ω,ω⟩;have f1:=(hf.aW (t:=x.r.aA.aC+1) (v:=x.r.id) ⟨ω,ω⟩ ⟨ω,ω⟩).aK 0;obtain⟨z,hz⟩:∃z:RX,z={(x.aJ (x.r.aA.aC+1) x.r.id).aO 0 with r:={((x.aJ (x.r.aA.aC+1) x.r.id).aO 0).r with aE:=1,aF:=0,aT:=k_ u,aJ:=[x.r.id]}}:=⟨_,rfl⟩;have tz:gS h0 a0 z:=by rw[hz];exact t1.of rfl rfl ⟨rfl,rfl,rfl,rfl⟩
 have fz:z.r.aG k:=by rw[hz];obtain⟨g1,g2,g3,g4,g5,g6,g7,g8,g9,g10,W,U,g13,O,I⟩:=f1;exact⟨g1,g2,g3,g4,g5,g6,g7,g8,g9,⟨W9 _,by show (0:Int)<=k;omega⟩,W,U,by show 1<=k+1;omega,O,I⟩
 have e:x.aV u=if z.r.aN.aE z.r.aJ then z.aL else z.aK (jY z.r.id z.r.aA.aE z.r.aA.aC z.r.aA.aA z.r.aN):=by rw[hz];rfl
 rw[e];split;·exact tz.aJ fz E
 ·exact tz.aR
theorem gS.aL (t:gS h0 a0 x)(hf:x.r.aG k)(u:k<=130000)(hm:m.aL):gS h0 a0 (x.aS m):=by
 have e:x.aS m=(if ku x.r.aA.aC x.r.aA.aF x.r.aA.aA m then (let z:RX:={x with r:={x.r with aF:=0}};if z.r.aA.aF=m.aE then z else z.aJ z.r.aA.aC m.aE) else x).aI {fF.aJ with aC:=2,to:=m.aE,ok:=ku x.r.aA.aC x.r.aA.aF x.r.aA.aA m}:=rfl;have ht:=hf.aG;rw[e];refine gS.of (x:=if ku x.r.aA.aC x.r.aA.aF x.r.aA.aA m then (let z:RX:={x with r:={x.r with aF:=0}};if z.r.aA.aF=m.aE then z else z.aJ z.r.aA.aC m.aE) else x) ?_ rfl rfl ⟨rfl,rfl,rfl,rfl⟩;split
 ·simp only;have t1:gS h0 a0 {x with r:={x.r with aF:=0}}:=t.of rfl rfl ⟨rfl,rfl,rfl,rfl⟩;split;·exact t1
  ·exact t1.aH hf.aN u ⟨by show _<=x.r.aA.aC;omega,by show x.r.aA.aC<=_;omega⟩ hm.aC.1
 ·exact t
theorem gS.aV (t:gS h0 a0 x)(hf:x.r.aG k)(e:k+1<=130000):gS h0 a0 (x.aU m):=by
 unfold RX.aU;split;·exact t
 ·have t1:gS h0 a0 {x with r:={x.r with aJ:=x.r.aJ++[m.aE]}}:=t.of rfl rfl ⟨rfl,rfl,rfl,rfl⟩;have f:({x.r with aJ:=x.r.aJ++[m.aE]}:fy).aG (k+1):=by obtain⟨g1,g2,g3,g4,g5,g6,g7,g8,g9,U,O,I,g13,E,u⟩:=hf.aA (Zc k);have:=hf.aZ;exact⟨g1,g2,g3,g4,g5,g6,g7,g8,g9,U,O,I,by show (x.r.aJ++[m.aE]).length<=k+1+1;simp;omega,E,u⟩
  simp only;split;·exact t1.aJ f e
  ·exact t1
theorem gS.aO (t:gS h0 a0 x):gS h0 a0 (x.aP m):=by
 unfold RX.aP;split;·exact t
 ·split;·exact t
  ·rename_i i _;have t1:gS h0 a0 {x with r:={x.r with aC:=x.r.aC.set i (((x.r.aC[i]?).getD ⟨0,0,0,0⟩).aE m)}}:=t.of rfl rfl ⟨rfl,rfl,rfl,rfl⟩;simp only;split<;>split<;>first
    | exact t1.aF.to _
    | exact t1.to _
    | exact t1.aF
    | exact t1
theorem gS.aE (t:gS h0 a0 x)(ok:Bool)(i:Int):gS h0 a0 (x.aQ m ok i):=t.of rfl rfl ⟨rfl,rfl,rfl,rfl⟩
end
section
variable {h0:fP} {a0:Int} {x y:RX} {k:Nat} {m:fF}
theorem gS.aK (t:gS h0 a0 x)(hf:x.r.aG k)(E:k<=130000)(hm:m.aL)(hi:0<=m.aA/\m.aA<=2^40):gS h0 a0 (x.aG m):=by
 unfold RX.aG;split;·exact t.aE _ _
 ·split;·exact t.aE _ _
  ·rename_i c1 c2;simp only;have hp:x.r.aA.aA.aF m.aA=true:=by
    cases e:x.r.aA.aA.aF m.aA with
    | false=>exact absurd (.inl e) c2
    | true=>rfl
   split;·exact t
   ·rename_i c3;have key:0<x.r.aA.aA.aI m.aA m.es->gS h0 a0 (({x with r:={x.r with aA:={x.r.aA with aA:=x.r.aA.aA.aE m.aA m.es}}}:RX).aX {gE.aI with aC:=2,aE:=x.r.aA.aA.aI m.aA m.es,aA:=⟨0,0,(x.r.aA.aA.aE m.aA m.es).aH (x.r.aA.aA.aI m.aA m.es) (x.r.aA.aA.aE m.aA m.es).es.length⟩}):=by
     intro c4;have u:x.r.aA.aA.aG (m.aA+1) m.es<m.es.length:=by
      apply W6;intro c;have:x.r.aA.aA.aI m.aA m.es=0:=by unfold fG.aI;rw[WY (λz=>c z.2)]
      omega
     obtain⟨e1,e2⟩:=wJ hp u;have e3:=DQ hp u;have hin:=ye (e:=m.es) hp;obtain⟨q1,q2⟩:=lF.1 hp;have hb:=hf.aD;have hll:x.r.aA.aA.aC=x.r.aA.aA.aA+x.r.aA.aA.es.length:=rfl;obtain⟨f1,-⟩:=hf.a_ hm hi hp ω;have ll:(x.r.aA.aA.aE m.aA m.es).es.length=(m.aA+x.r.aA.aA.aG (m.aA+1) m.es-x.r.aA.aA.aA).toNat+(m.es.length-x.r.aA.aA.aG (m.aA+1) m.es):=by rw[e1];simp only[WT,W7,Xk];omega
     have sl:(x.r.aA.aA.aE m.aA m.es).aH (x.r.aA.aA.aI m.aA m.es) (x.r.aA.aA.aE m.aA m.es).es.length=(x.r.aA.aA.aE m.aA m.es).es.drop (m.aA+x.r.aA.aA.aG (m.aA+1) m.es-x.r.aA.aA.aA).toNat:=by unfold fG.aH;rw[WY (by rw[(pn _ _ _).1,e3,e2];omega),(pn _ _ _).1,e2,Xu (by simp only[Xk];omega)];congr 1;omega
     refine⟨?_,t.aA,?_⟩
     ·have tu:x.r.aA.aI {({gE.aI with aC:=2,aE:=x.r.aA.aA.aI m.aA m.es,aA:=⟨0,0,(x.r.aA.aA.aE m.aA m.es).aH (x.r.aA.aA.aI m.aA m.es) (x.r.aA.aA.aE m.aA m.es).es.length⟩}:gE) with aH:=x.r.aA.aE}=({x.r.aA with aA:=⟨x.r.aA.aA.aA,x.r.aA.aA.aD,(x.r.aA.aA.aE m.aA m.es).es⟩},0):=by
       refine J3 rfl ⟨by show _<x.r.aA.aA.aI m.aA m.es;omega,by show x.r.aA.aA.aI m.aA m.es<=_;omega⟩ ?_;show x.r.aA.aA.es.take (x.r.aA.aA.aI m.aA m.es-x.r.aA.aA.aA-1).toNat++(x.r.aA.aA.aE m.aA m.es).aH _ _=_;rw[sl,e2];have:x.r.aA.aA.es.take (m.aA+1+x.r.aA.aA.aG (m.aA+1) m.es-x.r.aA.aA.aA-1).toNat=(x.r.aA.aA.aE m.aA m.es).es.take (m.aA+x.r.aA.aA.aG (m.aA+1) m.es-x.r.aA.aA.aA).toNat:=by rw[e1];simp only;rw[Xz (by simp only[W7];omega),XM,Zl];congr 1;omega
       rw[this,YF]
      have c:=yO (c:={({gE.aI with aC:=2,aE:=x.r.aA.aA.aI m.aA m.es,aA:=⟨0,0,(x.r.aA.aA.aE m.aA m.es).aH (x.r.aA.aA.aI m.aA m.es) (x.r.aA.aA.aE m.aA m.es).es.length⟩}:gE) with aH:=x.r.aA.aE}) ⟨rfl,Il⟩ ⟨?_,hf.aS E⟩ (by rw[tu]) t.aD
      ·rw[tu]at c;have e5:(⟨x.r.aA.aA.aA,x.r.aA.aA.aD,(x.r.aA.aA.aE m.aA m.es).es⟩:fG)=x.r.aA.aA.aE m.aA m.es:=by rw[e1]
       rw[e5]at c;exact c
      ·have sub:∀e∈(x.r.aA.aA.aE m.aA m.es).aH (x.r.aA.aA.aI m.aA m.es) (x.r.aA.aA.aE m.aA m.es).es.length,e.aG:=λe he=>by rw[sl]at he;exact f1.aI e (Xw he)
       have hl:=hm.es.1;refine⟨⟨HZ,hf.aO.1,jv,jv,⟨by show _<=x.r.aA.aA.aI m.aA m.es;omega,by show x.r.aA.aA.aI m.aA m.es<=_;omega⟩,⟨jv,jv,λe he=>⟨(sub e he).2.1,(sub e he).2.2,(sub e he).1.1⟩⟩,⟨(by intro e he;cases he),(by intro e he;cases he),(by intro e he;cases he)⟩,(by intro e he;cases he),⟨jv,jv,jv,jv,jv⟩⟩,⟨?_,λe he=>(sub e he).1.2⟩,⟨Xm _,Xm _,Xm _⟩,Xm _⟩;show ((x.r.aA.aA.aE m.aA m.es).aH (x.r.aA.aA.aI m.aA m.es) (x.r.aA.aA.aE m.aA m.es).es.length).length<=2^12;rw[sl];simp only[Xk];omega
     ·show x.r.aI=if x.o.aD=true then (x.r.aA.aA.aE m.aA m.es).aA else a0
      rw[(pn _ _ _).1];exact t.aC
    split;·rename_i c4;exact ((key c4).of (y:=⟨{(({x with r:={x.r with aA:={x.r.aA with aA:=x.r.aA.aA.aE m.aA m.es}}}:RX).aX {gE.aI with aC:=2,aE:=x.r.aA.aA.aI m.aA m.es,aA:=⟨0,0,(x.r.aA.aA.aE m.aA m.es).aH (x.r.aA.aA.aI m.aA m.es) (x.r.aA.aA.aE m.aA m.es).es.length⟩}).r with aD:=max x.r.aD (min m.aI (m.aA+m.es.length))},_⟩) rfl rfl ⟨rfl,rfl,rfl,rfl⟩).aE _ _
    ·exact (t.of (y:=⟨{x.r with aD:=max x.r.aD (min m.aI (m.aA+m.es.length))},x.o⟩) rfl rfl ⟨rfl,rfl,rfl,rfl⟩).aE _ _
theorem U5 (r:fy)(b t:Int):(r.aX b t).aA=b:=by
 unfold fy.aX;split;·rename_i c;rw[(Dv c.1).1]
 ·rfl
theorem gS.aM (t:gS h0 a0 x)(hf:x.r.aG k)(u:k<=130000){b tm:Int}{c:fI}{sn:List Int}(hb:iA b)(ht:iA tm)(hc:c.aF=true)(hs:gT sn/\sn.length<=2^16)(hr:x.o.aD=false):gS h0 a0 (x.aW b tm c sn):=by
 refine⟨?_,t.aA,?_⟩
 ·have cc:=yO (c:={({gE.aI with aC:=3,aA:=⟨b,tm,[]⟩,aG:=c,aJ:=sn}:gE) with aH:=x.r.aA.aE}) ⟨rfl,Qb⟩ ⟨?_,hf.aS u⟩ (by rw[J4 rfl]) t.aD;·rw[J4 rfl]at cc;exact cc
  ·exact⟨⟨Pr,hf.aO.1,jv,jv,jv,⟨hb,ht,(by intro e he;cases he)⟩,Jz hc,hs.1,⟨jv,jv,jv,jv,jv⟩⟩,⟨Xm _,(by intro e he;cases he)⟩,nE hc,hs.2⟩
 ·show x.r.aI=if x.o.aD=true then (x.r.aX b tm).aA else a0
  have:=t.aC;rw[hr]at this ⊢;exact this
theorem gS.aQ (t:gS h0 a0 x)(hf:x.r.aG k)(e:k<=130000)(hm:m.aL)(hi:0<=m.aA/\m.aA<=2^40)(hr:x.o.aD=false):gS h0 a0 (x.aR m):=by
 unfold RX.aR;split;·exact t.aE _ _
 ·simp only;split;·exact t
  ·rename_i c1 c2;have c3:(iG (jb m.aG).1).2=0:=W6 λz=>c2 (.inr z);have b:=t.aM hf e (b:=m.aA) (tm:=m.aH) (c:=(iG (jb m.aG).1).1) (sn:=(jb m.aG).2.1) ⟨ω,ω⟩ hm.aC.2 (wC c3) (J5 hm.aA.1 hm.aA.2).2 hr;have t2:gS h0 a0 ⟨{(x.aW m.aA m.aH (iG (jb m.aG).1).1 (jb m.aG).2.1).r with aD:=m.aA,aI:=m.aA},{(x.aW m.aA m.aH (iG (jb m.aG).1).1 (jb m.aG).2.1).o with aD:=true}⟩:=by
    refine⟨b.aD,b.aA,?_⟩;show m.aA=if true=true then (x.r.aX m.aA m.aH).aA else a0
    rw[WW rfl,U5]
   exact t2.aE _ _
theorem we (r:fy):gS r.aA r.aI r.aH:=⟨rfl,⟨rfl,rfl⟩,rfl⟩
theorem gS.aT (r:fy)(hf:r.aG k)(u:k+1<=130000)(hm:m.aL):gS r.aA r.aI (r.aH.aT m):=by
 have t:=we r;have e:r.aH.r.aG k:=hf;rw[xi];split;·exact t
 ·rename_i c0;simp only[not_or]at c0;obtain⟨f1,-⟩:=EU e (j:=0) ⟨WX _,WX _⟩ hm;have t1:gS r.aA r.aI (r.aH.aH m)/\(r.aH.aH m).o.aD=false:=by
   unfold RX.aH;split;·rename_i c;have ht:=hf.aG;have hc:r.aA.aC<m.aD:=c;have h1:=hm.aF;exact⟨(t.aH e ω (tm:=m.aD) (v:=0) ⟨ω,ω⟩ jv).of rfl rfl ⟨rfl,rfl,rfl,rfl⟩,rfl⟩
   ·exact⟨t,rfl⟩
  obtain⟨t1,t2⟩:=t1;split
  ·split;·exact t1.of rfl rfl ⟨rfl,rfl,rfl,rfl⟩
   ·split;·exact t1.of rfl rfl ⟨rfl,rfl,rfl,rfl⟩
    ·exact t1
  ·unfold RX.aY;split;·exact t1.aL f1 ω hm
   ·split;·exact t1.aV f1 u
    ·split;·exact t1.aO
     ·split;·exact t1
      ·rename_i c1 c2 c3 c4;have hi:=hm.aD ω;have t3:gS r.aA r.aI ⟨{(r.aH.aH m).r.aW m.aE with aF:=0},(r.aH.aH m).o⟩:=t1.of rfl rfl ⟨rfl,rfl,rfl,rfl⟩;have f3:=(f1.aK m.aE).aN;simp only;split;·exact t3.aK f3 ω hm hi
       ·exact t3.aQ f3 ω hm hi t2
theorem gS.aU (r:fy)(hf:r.aG k)(u:k+1<=130000)(e:Int):gS r.aA r.aI (r.bJ e):=by
 unfold fy.bJ;split
 ·split;·exact gS.aG (we {r with aM:=0})
  ·exact we {r with aM:=r.aM+1}
 ·have b:=we {r with aF:=r.aF+1};simp only;split;·rename_i c;refine b.aS (k:=k+1) ?_ u c.2.2.1 e;obtain⟨g1,g2,g3,g4,g5,g6,g7,g8,g9,g10,W,U,O,I,E⟩:=hf.aA (Zc k);exact⟨g1,g2,g3,g4,g5,g6,g7,g8,g9,⟨by show 0<=r.aF+1;omega,by have:=hf.aY;show r.aF+1<=((k+1:Nat):Int);omega⟩,W,U,O,I,E⟩
  ·exact b
theorem gS.aP (r:fy)(hf:r.aG k)(e:k<=130000){kind:Int}{data:List Int}(hd:gT data/\data.length<=2^16)(hk:iA kind):gS r.aA r.aI (r.bL kind data):=
 (gS.aG ((we r).aI hf e hd hk)).aF
theorem gS.aN (t:gS h0 a0 x):oj h0 x.aA.o.aC x.aA.r.aA /\
  ((x.aA.o.aF=[]/\x.r.aD<=x.r.aI)\/(x.r.aI<x.r.aD/\x.aA.o.aE=x.r.aI+1/\x.aA.o.aF=x.r.aA.aA.aH (x.r.aI+1) (x.r.aD-x.r.aI))) /\
  x.r.aI=(if x.aA.o.aD=true then x.aA.r.aA.aA.aA else a0):=by
 obtain⟨e1,e2,e3,e4,e5,e6⟩:=yT x;refine⟨by rw[e5,e2];exact t.aD,?_,by rw[e6,e2];exact t.aC⟩;have er:x.r.aZ.aA=x.r.aA/\x.r.aZ.aD=x.r.aD/\x.r.aZ.aI=x.r.aI:=by unfold fy.aZ;split<;>exact⟨rfl,rfl,rfl⟩
 unfold RX.aA;simp only[er];split;·rename_i c;exact .inl ⟨t.aA.1,c⟩
 ·rename_i c;exact .inr ⟨ω,rfl,rfl⟩
end
structure fM where
 l:List fy
 aA:List fF
 aC:Es
 aT:List Int
 aJ:List Int
 aQ:List Int
def fM.aD (x:fM)(k:Nat)(y:RX):fM:=
 {x with
  l:=x.l.set k y.r
  aA:=x.aA++y.o.aA
  aC:=g_ x.aC y.r
  aT:=x.aT++List.replicate ((g_ x.aC y.r).length-x.aC.length) y.r.aA.aC
  aJ:=if y.r.aE=2/\y.r.aA.aC∉x.aJ then x.aJ++[y.r.aA.aC] else x.aJ
  aQ:=if y.r.aE=2/\y.r.aA.aC∉x.aJ then x.aQ++[y.r.id] else x.aQ}
structure iC (c0:fI)(B K:Nat)(x:fM):Prop where
 ex:∃G:gJ,G.c0=c0/\G.ok/\G.aJ B/\G.aL x.aC/\(∀k (h:k<x.l.length),gN G x.aC x.l[k])/\(∀m∈x.aA,lJ G x.aC m) /\
  (∀i (_:i<x.aC.length),∃t,x.aT[i]?=some t/\G.aI t (i+1) x.aC)/\∀(i:Nat) t j,x.aJ[i]?=some t->x.aQ[i]?=some j->∃w,G.aA t=some w/\w.id=j
 aE:x.l.length=5
 aD:∀k (h:k<x.l.length),x.l[k].id=k+1/\x.l[k].aA.aE=1/\x.l[k].aI=x.l[k].aD
 aC:∀k (h:k<x.l.length),x.l[k].aG K
 aM:x.aT.length=x.aC.length
 aP:x.aQ.length=x.aJ.length
structure mT (x:fM)(h0:fP)(a0:Int)(y:RX):Prop where
 aC:oj h0 y.o.aC y.r.aA
 aF:x.aC<+:g_ x.aC y.r
 aA:∃n:Nat,(n:Int)=(if y.o.aD=true then y.r.aA.aA.aA else a0)/\n<=x.aC.length/\((n+y.o.aF.length:Nat):Int)=y.r.aI/\(y.o.aF≠[]->y.o.aE=n+1)/\(∀i,i<y.o.aF.length->(g_ x.aC y.r)[n+i]?=y.o.aF[i]?)/\(g_ x.aC y.r).length=max x.aC.length (n+y.o.aF.length)
 aE:y.r.aE=2->(∀(i:Nat) t j,x.aJ[i]?=some t->x.aQ[i]?=some j->t=y.r.aA.aC->j=y.r.id) /\
  (∀(n:Nat) e,y.r.aA.aA.aA<=n->(g_ x.aC y.r)[n]?=some e->∀t,(x.aT++List.replicate ((g_ x.aC y.r).length-x.aC.length) y.r.aA.aC)[n]?=some t->t<y.r.aA.aC->y.r.aA.aA.aH (n+1) 1=[e])
 aD:∀e∈y.o.aF,e∈y.r.aA.aA.es
theorem Vr (h:fP)(c:gE):(h.aI c).1.aE=h.aE:=by
 unfold fP.aI;split;·rfl
 ·split;·split<;>rfl
  ·split<;>rfl
theorem NA:∀{l:List gE}{h h':fP},oj h l h'->h'.aE=h.aE:=by
 intro l;induction l with
 | nil=>intro h h' e;obtain rfl:=e;rfl
 | cons c l ih=>intro h h' e;exact (ih e.2.2.2).trans (Vr h c)
section
variable {c0:fI} {B K:Nat} {x:fM}
theorem lJ.aI {G:gJ}{D:Es}{m:fF}(ok:G.ok)(s:G.aJ B)(hB:B<=2^30)(h:lJ G D m):m.aL:=by
 have ht:=h.aA.aA.2;have hs:=s.2;refine⟨⟨by have:=h.aA.es.1;omega,λe he=>?_⟩,h.aA.aE,ω,⟨⟨by have:=h.aA.aA;omega,by have:=h.aA.aA;omega⟩,⟨by have:=h.aA.aD;omega,by have:=h.aA.aD;omega⟩⟩,λz=>?_⟩
 ·by_cases c:m.aC=3
  ·obtain⟨w,w1,w2,w3,w4,w5,w6⟩:=h.aD c;rw[w5]at he;have hw:=Xw (XQ he);obtain⟨t1,t2,t3,t4⟩:=ok.aH _ _ w1 e hw;have t5:=(ok.aP w1).2 e hw;obtain⟨i,hi,rfl⟩:=YV.1 hw;have t6:=HI ok (ok.aA _ _ w1).2.2.2.2.1 hi;exact⟨⟨t1,ω⟩,⟨ω,ω⟩,⟨ω,ω⟩⟩
  ·rw[h.aA.es.2 c]at he;cases he
 ·obtain⟨a,b⟩:=h.aA.aC z;rcases b with b | ⟨t,w,w1,w2⟩;·omega
  ·have:=s.1 t w w1;omega
theorem iC.aH (h:iC c0 B K x){k:Nat}(hk:k<x.l.length){y:RX}{n K':Nat} (t:gS x.l[k].aA x.l[k].aI y) (f:y.aA.r.aG K') (hK:K<=K')
  (go:∀G:gJ,G.c0=c0->G.ok->G.aL x.aC->G.aJ B->gN G x.aC x.l[k]->(∀m∈x.aA,lJ G x.aC m)->iI n G x.aC (k+1) y):iC c0 (B+n) K' (x.aD k y.aA)/\mT x x.l[k].aA x.l[k].aI y.aA:=by
 obtain⟨⟨G,g0,ok,sm,hD,hm,hp,ht,hl⟩,len,mem,fit,a2,U⟩:=h;obtain⟨G',a1,g,d1,d2,r2,a4,W,d5,d6,my,a3⟩:=(go G g0 ok hD sm (hm k hk) hp).aE hD;obtain⟨t1,t2,t3⟩:=t.aN;obtain⟨e1,e2,e3,e4,e5,e6⟩:=yT y;have ed:g_ x.aC y.aA.r=g_ x.aC y.r:=by unfold g_;rw[e3];show (if _ then (gU x.aC y.aA.r.aA.aA).take _ else _)=_;rw[e2]
 have at0:=my.aA;have hb0:=my.on.aA;have dn:=my.aF;have hlen:=my.aP;have Z:∀i (_:i<(g_ x.aC y.r).length),∃t,(x.aT++List.replicate ((g_ x.aC y.r).length-x.aC.length) y.aA.r.aA.aC)[i]?=some t/\G'.aI t (i+1) (g_ x.aC y.r):=by
  intro i hi;by_cases c:i<x.aC.length;·obtain⟨t,h1,h2⟩:=ht i c;refine⟨t,by rw[Xy ω];exact h1,(h2.aC g).of ?_⟩;exact js d1 ω
  ·refine⟨y.aA.r.aA.aC,?_,?_⟩;·rw[XA ω,YR,WW ω]
   ·have a7:(x.aC.length:Int)<y.r.aD:=by apply W6;intro z;unfold g_ at hi;rw[WY z]at hi;exact c hi
    have de:g_ x.aC y.r=(gj x.aC y.r).take y.r.aD.toNat:=by unfold g_;rw[WW a7]
    have hi':i<y.r.aD.toNat:=by rw[de]at hi;simp only[W7]at hi;omega
    rw[e2];refine (my.aC.aA (W9 _) (show ((i:Int)+1)<=y.r.aD by omega)).of ?_;rw[de,XM];congr 1;omega
 have dl:(g_ x.aC y.r).length=max x.aC.length y.r.aD.toNat:=by
  unfold g_;split;·simp only[W7];omega
  ·omega
 have E:y.aA.r.aE=2->∃l0,G'.aA y.aA.r.aA.aC=some ⟨y.aA.r.id,l0,gj (g_ x.aC y.r) y.aA.r⟩:=λz=>r2.aA.aK z;have u:∀(i:Nat) t j,x.aJ[i]?=some t->x.aQ[i]?=some j->∃w,G'.aA t=some w/\w.id=j:=λi t j a b=>by obtain⟨w,w1,w2⟩:=hl i t j a b;obtain⟨l',q1,-,-⟩:=g.aA t w w1;exact⟨_,q1,w2⟩
 have a8:∀e∈y.aA.o.aF,e∈y.aA.r.aA.aA.es:=by
  intro e he;rcases t2 with⟨z,-⟩ | ⟨-,-,z⟩;·rw[z]at he;cases he
  ·rw[z]at he;rw[e2];unfold fG.aH at he;split at he;·cases he
   ·exact Xw (XQ he)
 have gs:∀j (hj:j<(x.aD k y.aA).l.length) (I:j<x.l.length),(x.aD k y.aA).l[j]=if k=j then y.aA.r else x.l[j]:=λj hj I=>Zu (l:=x.l) (i:=k) (a:=y.aA.r) (j:=j) hj
 refine⟨⟨⟨G',g.c0.trans g0,a1,a3 B sm,?_,?_,?_,?_,?_⟩,?_,?_,?_,?_,?_⟩,⟨t1,by rw[ed];exact d1,?_,λrole=>⟨?_,?_⟩,a8⟩⟩;·show G'.aL (g_ x.aC y.aA.r);rw[ed];exact d2
 ·intro j hj;have I:j<x.l.length:=by simpa [fM.aD] using hj
  rw[gs j hj I];show gN G' (g_ x.aC y.aA.r) _;rw[ed];split;·exact r2.aA
  ·rename_i c;exact (hm j I).bD ok g d1 (by rw[(mem j I).1];omega)
 ·intro m a5;show lJ G' (g_ x.aC y.aA.r) m;rw[ed];rcases Xe.1 a5 with z | z;·exact (hp m z).aC g d1
  ·exact r2.aC m z
 ·show ∀i (_:i<(g_ x.aC y.aA.r).length),∃t,(x.aT++List.replicate ((g_ x.aC y.aA.r).length-x.aC.length) y.aA.r.aA.aC)[i]?=some t/\G'.aI t (i+1) (g_ x.aC y.aA.r);rw[ed];exact Z
 ·intro i t j a b;have a:(if y.aA.r.aE=2/\y.aA.r.aA.aC∉x.aJ then x.aJ++[y.aA.r.aA.aC] else x.aJ)[i]?=some t:=a;have b:(if y.aA.r.aE=2/\y.aA.r.aA.aC∉x.aJ then x.aQ++[y.aA.r.id] else x.aQ)[i]?=some j:=b;by_cases c:y.aA.r.aE=2/\y.aA.r.aA.aC∉x.aJ
  ·rw[WW c]at a b;by_cases ci:i<x.aJ.length;·rw[Xy ci]at a;rw[Xy ω]at b;exact u i t j a b
   ·rw[XA ω]at a;rw[XA ω]at b;have:i-x.aJ.length=0:=by apply W6;intro z;rw[XP (by simp;omega)]at a;cases a
    rw[this]at a;rw[U,this]at b;simp only[Xx,W8]at a b;obtain⟨l0,a6⟩:=E c.1;exact⟨_,by rw[<-a];exact a6,b⟩
  ·rw[WY c]at a b;exact u i t j a b
 ·show (x.l.set k y.aA.r).length=5;rw[W4];exact len
 ·intro j hj;have I:j<x.l.length:=by simpa [fM.aD] using hj
  rw[gs j hj I];split;·rename_i c;subst c;exact⟨a4,(NA t1).trans (mem _ hk).2.1,W⟩
  ·exact mem j I
 ·intro j hj;have I:j<x.l.length:=by simpa [fM.aD] using hj
  rw[gs j hj I];split;·exact f
  ·exact (fit j I).aA hK
 ·show (x.aT++List.replicate ((g_ x.aC y.aA.r).length-x.aC.length) y.aA.r.aA.aC).length=(g_ x.aC y.aA.r).length;rw[ed,WT,YE,a2,dl];omega
 ·show (if y.aA.r.aE=2/\y.aA.r.aA.aC∉x.aJ then x.aQ++[y.aA.r.id] else x.aQ).length=(if y.aA.r.aE=2/\y.aA.r.aA.aC∉x.aJ then x.aJ++[y.aA.r.aA.aC] else x.aJ).length;split;·simp[U]
  ·exact U
 ·refine⟨y.r.aI.toNat,by rw[<-t3];omega,ω,?_⟩;rw[ed];rcases t2 with⟨z1,z2⟩ | ⟨z1,z2,z3⟩;·rw[z1];refine⟨by rw[W,e3];show ((y.r.aI.toNat+0:Nat):Int)=_;omega,(λz=>absurd rfl z),(λi hi=>by cases hi),by rw[dl];show _=max _ (y.r.aI.toNat+0);omega⟩
  ·have s1:=my.on.aI (from_:=y.r.aI+1) (most:=y.r.aD-y.r.aI) ω ω;have s2:y.aA.o.aF=((gj x.aC y.r).drop y.r.aI.toNat).take (y.r.aD-y.r.aI).toNat:=by rw[z3,s1];show ((gj x.aC y.r).drop _).take _=_;congr 2;omega
   have sl:y.aA.o.aF.length=(y.r.aD-y.r.aI).toNat:=by rw[s2];simp only[W7,Xk];omega
   refine⟨by rw[sl,W,e3];omega,λ_=>by rw[z2];omega,λi hi=>?_,by rw[dl,sl];omega⟩;rw[s2,XV ω,Xv];exact mO d5 ω
 ·intro i t j a b e;obtain⟨w,w1,w2⟩:=u i t j a b;obtain⟨l0,q⟩:=E role;rw[e,q]at w1;injection w1 with w1;rw[<-w2,<-w1]
 ·intro n e hn he t O hlt;rw[ed]at he O;obtain⟨hi,rfl⟩:=WR.1 he;obtain⟨t',h1,h2⟩:=Z n hi;rw[h1]at O;injection O with O;subst O;obtain⟨l0,q⟩:=E role;obtain⟨q1,q2⟩:=a1.aF (h2.aA (Int.le_of_lt hlt) (W9 _)) q;have q3:=mO q1 (i:=n) ω;have q4:(gj (g_ x.aC y.r) y.aA.r)[n]?=(g_ x.aC y.r)[n]?:=q3.symm;have sl:=r2.aA.on.aI (from_:=(n:Int)+1) (most:=1) ω ω;rw[sl,show ((n:Int)+1-1).toNat=n by omega,show (1:Int).toNat=1 from rfl];have q5:n<(gj (g_ x.aC y.r) y.aA.r).length:=by have:(n+1:Int).toNat<=(gj (g_ x.aC y.r) y.aA.r).length:=q2;omega
  have q6:(gU (g_ x.aC y.r) y.aA.r.aA.aA).drop n=(gj (g_ x.aC y.r) y.aA.r)[n] :: (gj (g_ x.aC y.r) y.aA.r).drop (n+1):=YL q5;rw[q6];rw[WU q5,WU hi]at q4;injection q4 with q4;simp[q4]
end
section
variable {c0:fI} {B K:Nat} {x:fM}
theorem iC.aA {B' K':Nat}(h:iC c0 B K x)(hB:B<=B')(hK:K<=K'):iC c0 B' K' x:=by obtain⟨⟨G,g0,ok,sm,r⟩,len,mem,fit,th,ld⟩:=h;exact⟨⟨G,g0,ok,sm.aA hB,r⟩,len,mem,λk hk=>(fit k hk).aA hK,th,ld⟩
theorem iC.aF (h:iC c0 B K x){p:List fF}(hp:∀a∈p,a∈x.aA):iC c0 B K {x with aA:=p}:=by obtain⟨⟨G,g0,ok,sm,a,b,c,d⟩,len,mem,fit,th,ld⟩:=h;exact⟨⟨G,g0,ok,sm,a,b,λm hm=>c m (hp m hm),d⟩,len,mem,fit,th,ld⟩
theorem mT.aG {x:fM}{p:List fF}{h0:fP}{a0:Int}{y:RX}(h:mT x h0 a0 y):mT {x with aA:=p} h0 a0 y:=⟨h.aC,h.aF,h.aA,h.aE,h.aD⟩
theorem iC.aG (h:iC c0 B K x)(hB:B<=2^30){m:fF}(hm:m∈x.aA):m.aL:=by obtain⟨⟨G,g0,ok,sm,a,b,c,d⟩,-⟩:=h;exact (c m hm).aI ok sm hB
theorem iC.aN (h:iC c0 B K x)(hK:K+2<130000){k:Nat}(hk:k<x.l.length)(d:Int):iC c0 (B+2) (K+2) (x.aD k (x.l[k].aV d))/\mT x x.l[k].aA x.l[k].aI (x.l[k].aV d):=by
 have f:=h.aC k hk;have e:=(h.aD k hk).1;rw[JW];refine h.aH hk (gS.aU _ f ω d) ?_ ω (λG _ ok _ _ hm _=>?_);·rw[<-JW];exact fy.bN f ω d
 ·have:=hm.bK ok d;rw[e]at this;exact this
theorem iC.aL (h:iC c0 B K x)(hB:B<=2^30)(hK:K+200<130000){k:Nat}(hk:k<x.l.length){m:fF}(hm:m∈x.aA)(u:m.to=k+1){p:List fF}(hp:∀a∈p,a∈x.aA):
  iC c0 (B+1) (K+200) (({x with aA:=p}:fM).aD k (x.l[k].bA m))/\mT {x with aA:=p} x.l[k].aA x.l[k].aI (x.l[k].bA m):=by
 have f:=h.aC k hk;have e:=(h.aD k hk).1;have mf:=h.aG hB hm;have t:=h.aH hk (y:=x.l[k].aH.aT m) (n:=1) (K':=K+200) (gS.aT _ f ω mf) (fy.bO f ω mf) ω (λG _ ok _ _ hr E=>by have:=(wc hr).aR ok (E m hm) (u.trans e.symm);rw[show x.l[k].aH.r.id=(k:Int)+1 from e]at this;exact this);have es:(x.l[k].aH.aT m).aA=x.l[k].bA m:=rfl;rw[es]at t;refine⟨?_,t.2.aG⟩;exact t.1.aF (p:=p++(x.l[k].bA m).o.aA) (λa ha=>by
  rcases Xe.1 ha with z | z;·exact Yu _ (hp a z)
  ·exact YO _ z)
theorem iC.aK (h:iC c0 B K x)(hK:K+2<130000){k:Nat}(hk:k<x.l.length){kind:Int}{data:List Int}(hd:gT data/\data.length<=256)(u:0<=kind/\kind<=2) (hc:kind=2->qY x.l[k].aN (iG data).1/\x.l[k].aA.of.2<=x.l[k].aD) (he:(x.l[k].aP kind data).2.2=0):
  iC c0 (B+1) (K+1) (x.aD k (x.l[k].aP kind data).2.1)/\mT x x.l[k].aA x.l[k].aI (x.l[k].aP kind data).2.1:=by
 have f:=h.aC k hk;have e:=(h.aD k hk).1;have es:x.l[k].aE=2/\(x.l[k].aP kind data).2.1=(x.l[k].bL kind data).aA:=by
  unfold fy.aP at he ⊢;by_cases c1:¬x.l[k].aE=2;·rw[WW c1]at he;cases he
  ·rw[WY c1]at he ⊢;by_cases c2:¬kind=1/\¬kind=2;·rw[WW c2]at he;cases he
   ·rw[WY c2]at he ⊢;by_cases c3:kind=2/\¬(iG data).2=0;·rw[WW c3]at he;cases he
    ·rw[WY c3]at he ⊢;by_cases c4:2^40<=x.l[k].aO;·rw[WW c4]at he;cases he
     ·rw[WY c4];exact⟨ω,rfl⟩
 rw[es.2];refine h.aH hk (gS.aP _ f ω ⟨hd.1,ω⟩ ⟨ω,ω⟩) ?_ ω (λG _ ok _ _ hm _=>?_);·refine (yS ?_).1;have g:=fy.aG.aT (x:=x.l[k].aH) f ω (kind:=kind) (data:=data) ⟨hd.1,ω⟩ ⟨ω,ω⟩;show ((x.l[k].aH.aF kind data).on).r.aY.aG (K+1);refine fy.aG.aR ?_;show (RX.aN _ _).r.aG _;rw[(uK _ _).1];exact g
 ·have:=hm.bI ok es.1 (kind:=kind) (data:=data) ⟨hd.1,hd.2,u⟩ hc;rw[e]at this;exact this
theorem iC.aI (h:iC c0 B K x){k:Nat}(hk:k<x.l.length)(d:Int):iC c0 B K {x with l:=x.l.set k (fy.aU (k+1) x.l[k].aA d)}:=by
 obtain⟨⟨G,g0,ok,sm,a,b,c,d1⟩,len,mem,fit,th,ld⟩:=h;have e:=(mem k hk).1;have gs:∀j (hj:j<(x.l.set k (fy.aU (k+1) x.l[k].aA d)).length) (u:j<x.l.length),(x.l.set k (fy.aU (k+1) x.l[k].aA d))[j]=if k=j then fy.aU (k+1) x.l[k].aA d else x.l[j]:=λj hj u=>Zu hj
 refine⟨⟨G,g0,ok,sm,a,λj hj=>?_,c,d1⟩,by show (x.l.set k _).length=5;rw[W4];exact len,λj hj=>?_,λj hj=>?_,th,ld⟩
 ·have u:j<x.l.length:=by simpa using hj
  rw[gs j hj u];split;·have:=(b k hk).bH d;rw[e]at this;exact this
  ·exact b j u
 ·have u:j<x.l.length:=by simpa using hj
  rw[gs j hj u];split;·rename_i c;subst c;exact⟨rfl,(mem k hk).2.1,rfl⟩
  ·exact mem j u
 ·have u:j<x.l.length:=by simpa using hj
  rw[gs j hj u];split;·obtain⟨h1,h2,h3,h4,h5,h6,h7,h8,h9,h10,h11,h12,h13,h14,E⟩:=fit k hk;rw[e]at E;exact⟨h1,h2,h3,h4,h5,h6,h7,h8,⟨W9 _,W9 _,by show x.l[k].aA.aA.aA<=x.l[k].aA.aA.aC;omega⟩,⟨by show (0:Int)<=0;omega,by show (0:Int)<=_;omega⟩,⟨by show (0:Int)<=0;omega,by show (0:Int)<=1;omega⟩,⟨by show (0:Int)<=0;omega,by show (0:Int)<=_;omega⟩,Xm _,⟨Xm _,λw hw=>by cases hw⟩,E⟩
  ·exact fit j u
end
section
variable {x:RX} {n:Nat} {m:fF}
def RX.aE (n:Nat)(x:RX):Prop:=x.o.aC.length<=n
theorem RX.aE.aA {n':Nat}(h:x.aE n)(hn:n<=n'):x.aE n':=Xg h hn
theorem RX.aE.aE (h:x.aE n)(t v:Int):(x.aJ t v).aE (n+1):=by show (x.o.aC++[_]).length<=n+1;have:x.o.aC.length<=n:=h;simp;omega
theorem RX.aE.aD:∀{l:List fS}{x:RX},x.aE n->(x.aN l).aE n:=by
 intro l;induction l with
 | nil=>intro x t;exact t
 | cons f l ih=>intro x t;exact ih (x:=x.to f) t
theorem RX.aE.aM:∀{l:List fF}{x:RX},x.aE n->(x.aK l).aE n:=by
 intro l;induction l with
 | nil=>intro x t;exact t
 | cons f l ih=>intro x t;exact ih (x:=x.aI f) t
theorem RX.aE.aF (h:x.aE n)(k:Int)(d:List Int):(x.aF k d).aE (n+1):=by
 have h':x.o.aC.length<=n:=h;have e:(x.aF k d).o.aC=x.o.aC++[{({gE.aI with aC:=2,aE:=x.r.aO+1,aA:=⟨0,0,(x.r.aA.aA.aE x.r.aO [⟨x.r.aA.aC,k,d⟩]).aH (x.r.aO+1) 1⟩}:gE) with aH:=x.r.aA.aE}]:=by unfold RX.aF;simp only;split<;>rfl
 show (x.aF k d).o.aC.length<=n+1;rw[e];simp;omega
theorem RX.aE.aG (h:x.aE n):x.aL.aE (n+1):=by have h1:({x with r:=({x.r with aE:=2,aR:=x.r.id,aM:=0,aJ:=[],aC:=[]}:fy).bD [] x.r.aO}:RX).aE n:=h;exact RX.aE.aD (h1.aF 0 [])
theorem RX.aE.aN (h:x.aE n)(d:Int):(x.aV d).aE (n+2):=by
 have h1:=h.aE (x.r.aA.aC+1) x.r.id;unfold RX.aV;simp only;split;·exact RX.aE.aG (n:=n+1) h1
 ·exact RX.aE.aA (n:=n+1) (RX.aE.aM h1) ω
theorem RX.aE.aC (h:x.aE n):x.aA.aE n:=by unfold RX.aA;simp only;split<;>exact h
theorem RX.aE.aP (r:fy)(d:Int):(r.aV d).aE 2:=by
 unfold fy.aV;split
 ·refine RX.aE.aC ?_;split;·exact RX.aE.aD (n:=2) (x:=({r with aM:=0}:fy).aH) (Xm _)
  ·exact Xm _
 ·simp only;refine RX.aE.aC ?_;split;·exact RX.aE.aN (n:=0) (x:=({r with aF:=r.aF+1}:fy).aH) (Xm _) d
  ·exact Xm _
theorem RX.aE.aJ (h:x.aE n):(x.aS m).aE (n+1):=by
 unfold RX.aS;simp only;show RX.aE (n+1) (if _ then _ else x);split
 ·split;·exact h.aA ω
  ·exact RX.aE.aE (x:={x with r:={x.r with aF:=0}}) h _ _
 ·exact h.aA ω
theorem RX.aE.aQ (h:x.aE n):(x.aU m).aE (n+1):=by
 unfold RX.aU;split;·exact h.aA ω
 ·simp only;split;·exact RX.aE.aG (x:={x with r:={x.r with aJ:=x.r.aJ++[m.aE]}}) h
  ·exact h.aA ω
theorem RX.aE.aK (h:x.aE n):(x.aP m).aE n:=by
 unfold RX.aP;split;·exact h
 ·split;·exact h
  ·simp only;have key:∀(z:RX),z.o=x.o->∀(c:Prop) [Decidable c] (f:fS),RX.aE n (if c then z.to f else z):=λz e c _ f=>by
    have:z.aE n:=by show z.o.aC.length<=n;rw[e];exact h
    split<;>exact this
   refine key _ ?_ _ _;split<;>rfl
theorem RX.aE.aI (h:x.aE n):(x.aG m).aE (n+1):=by
 have h':x.o.aC.length<=n:=h;unfold RX.aG;split;·exact h.aA (n:=n) ω
 ·split;·exact h.aA (n:=n) ω
  ·simp only;split;·exact h.aA ω
   ·show RX.aE (n+1) (if _ then _ else x);split;·show (x.o.aC++[_]).length<=n+1;simp;omega
    ·exact h.aA ω
theorem RX.aE.aL (h:x.aE n):(x.aR m).aE (n+1):=by
 have h':x.o.aC.length<=n:=h;unfold RX.aR;split;·exact h.aA (n:=n) ω
 ·simp only;split;·exact h.aA ω
  ·show (x.o.aC++[_]).length<=n+1;simp;omega
theorem RX.aE.aO (r:fy)(m:fF):(r.bA m).aE 2:=by
 unfold fy.bA;refine RX.aE.aC ?_;have h0:r.aH.aE 0:=Xm _;unfold RX.aT;split;·exact h0.aA ω
 ·simp only;have h1:RX.aE 1 (if r.aH.r.aA.aC<m.aD then (r.aH.aJ m.aD 0).aO 0 else r.aH):=by
   split;·exact h0.aE m.aD 0
   ·exact h0.aA ω
  generalize (if r.aH.r.aA.aC<m.aD then (r.aH.aJ m.aD 0).aO 0 else r.aH)=y at *;split
  ·split;·exact h1.aA ω
   ·split<;>exact h1.aA ω
  ·split;·exact h1.aJ
   ·split;·exact h1.aQ
    ·split;·exact h1.aK.aA ω
     ·split;·exact h1.aA ω
      ·split;·exact RX.aE.aI (x:=⟨{y.r.aW m.aE with aF:=0},y.o⟩) h1
       ·exact RX.aE.aL (x:=⟨{y.r.aW m.aE with aF:=0},y.o⟩) h1
theorem RX.aE.aH (r:fy)(k:Int)(d:List Int):(r.aP k d).2.1.aE 1:=by
 unfold fy.aP;split;·exact Xm _
 ·split;·exact Xm _
  ·split;·exact Xm _
   ·split;·exact Xm _
    ·refine RX.aE.aC ?_;exact RX.aE.aD (RX.aE.aF (n:=0) (x:=r.aH) (Xm _) k d)
end
section
variable {x:RX} {n:Nat} {m:fF}
def RX.aD (n:Nat)(x:RX):Prop:=x.o.aA.length<=n
theorem RX.aD.aA {n':Nat}(h:x.aD n)(hn:n<=n'):x.aD n':=Xg h hn
theorem RX.aD.aC (h:x.aD n)(m:fF):(x.aI m).aD (n+1):=by show (x.o.aA++[_]).length<=n+1;have:x.o.aA.length<=n:=h;simp;omega
theorem RX.aD.aE:∀{l:List fS}{x:RX}{n:Nat},x.aD n->(x.aN l).aD (n+l.length):=by
 intro l;induction l with
 | nil=>intro x n t;exact t
 | cons f l ih=>intro x n t;exact (ih (x:=x.to f) (RX.aD.aC t _)).aA (by simp;omega)
theorem RX.aD.aM:∀{l:List fF}{x:RX}{n:Nat},x.aD n->(x.aK l).aD (n+l.length):=by
 intro l;induction l with
 | nil=>intro x n t;exact t
 | cons f l ih=>intro x n t;exact (ih (x:=x.aI f) (RX.aD.aC t _)).aA (by simp;omega)
theorem IH (r:fy)(was:List fS)(i:Int)(h:r.aA.aD.aF=true):(r.bD was i).aC.length<=21:=by show ((r.aN.aM.filter _).map _).length<=21;rw[Xd];exact Xg (YN _ _) (D8 (fP.aQ h).1)
theorem RX.aD.aF (h:x.aD n)(k:Int)(d:List Int):(x.aF k d).aD n:=by unfold RX.aF;simp only;split<;>exact h
theorem Ir (k:Int)(d:List Int)(hc:x.r.aA.aD.aF=true)(hf:x.r.aC.length<=21):(x.aF k d).r.aC.length<=21:=by
 unfold RX.aF;simp only;split;·exact IH _ _ _ hc
 ·exact hf
theorem RX.aD.aG (h:x.aD n)(hc:x.r.aA.aD.aF=true):x.aL.aD (n+21):=by have h1:({x with r:=({x.r with aE:=2,aR:=x.r.id,aM:=0,aJ:=[],aC:=[]}:fy).bD [] x.r.aO}:RX).aD n:=h;exact (RX.aD.aE (h1.aF 0 [])).aA (Nat.add_le_add_left (Ir (x:={x with r:=({x.r with aE:=2,aR:=x.r.id,aM:=0,aJ:=[],aC:=[]}:fy).bD [] x.r.aO}) 0 [] hc (IH _ _ _ hc)) _)
theorem RX.aD.aN (h:x.aD n)(hc:x.r.aA.aD.aF=true)(d:Int):(x.aV d).aD (n+21):=by
 obtain⟨z,hz⟩:∃z:RX,z={(x.aJ (x.r.aA.aC+1) x.r.id).aO 0 with r:={((x.aJ (x.r.aA.aC+1) x.r.id).aO 0).r with aE:=1,aF:=0,aT:=k_ d,aJ:=[x.r.id]}}:=⟨_,rfl⟩;have e:x.aV d=if z.r.aN.aE z.r.aJ then z.aL else z.aK (jY z.r.id z.r.aA.aE z.r.aA.aC z.r.aA.aA z.r.aN):=by rw[hz];rfl
 have h1:z.aD n:=by rw[hz];exact h
 have h2:z.r.aA.aD.aF=true:=by rw[hz];exact hc
 rw[e];split;·exact h1.aG h2
 ·refine (RX.aD.aM h1).aA (Nat.add_le_add_left ?_ _);unfold jY;rw[Xd];exact Xg (YN _ _) (Xg (zT (fP.aQ h2).1) δ)
theorem RX.aD.aD (h:x.aD n):x.aA.aD n:=by unfold RX.aA;simp only;split<;>exact h
theorem RX.aD.aP (r:fy)(hc:r.aA.aD.aF=true)(hf:r.aC.length<=21)(d:Int):(r.aV d).aD 21:=by
 unfold fy.aV;split
 ·refine RX.aD.aD ?_;split;·exact (RX.aD.aE (n:=0) (l:=r.aC) (x:=({r with aM:=0}:fy).aH) (Xm _)).aA ω
  ·exact Xm _
 ·simp only;refine RX.aD.aD ?_;split;·exact RX.aD.aN (n:=0) (x:=({r with aF:=r.aF+1}:fy).aH) (Xm _) hc d
  ·exact Xm _
theorem RX.aD.aJ (h:x.aD n):(x.aS m).aD (n+1):=by
 unfold RX.aS;simp only;refine RX.aD.aC (n:=n) ?_ _;split;·split<;>exact h
 ·exact h
theorem RX.aD.aQ (h:x.aD n)(hc:x.r.aA.aD.aF=true):(x.aU m).aD (n+21):=by
 unfold RX.aU;split;·exact h.aA ω
 ·simp only;split;·exact RX.aD.aG (x:={x with r:={x.r with aJ:=x.r.aJ++[m.aE]}}) h hc
  ·exact RX.aD.aA (n:=n) h ω
theorem RX.aD.aK (h:x.aD n):(x.aP m).aD (n+1):=by
 unfold RX.aP;split;·exact h.aA ω
 ·split;·exact h.aA ω
  ·simp only;have key:∀(z:RX),z.o=x.o->∀(c:Prop) [Decidable c] (f:fS),RX.aD (n+1) (if c then z.to f else z):=λz e c _ f=>by
    have:z.aD n:=by show z.o.aA.length<=n;rw[e];exact h
    split;·exact this.aC _
    ·exact this.aA ω
   refine key _ ?_ _ _;split<;>rfl
theorem RX.aD.aI (h:x.aD n):(x.aG m).aD (n+1):=by
 unfold RX.aG;split;·exact h.aC _
 ·split;·exact h.aC _
  ·simp only;split;·exact h.aA ω
   ·refine RX.aD.aC (n:=n) ?_ _;show RX.aD n (if _ then _ else x);split<;>exact h
theorem RX.aD.aL (h:x.aD n):(x.aR m).aD (n+1):=by
 unfold RX.aR;split;·exact h.aC _
 ·simp only;split;·exact h.aA ω
  ·exact RX.aD.aC (n:=n) (x:=⟨{(x.aW m.aA m.aH (iG (jb m.aG).1).1 (jb m.aG).2.1).r with aD:=m.aA,aI:=m.aA},{(x.aW m.aA m.aH (iG (jb m.aG).1).1 (jb m.aG).2.1).o with aD:=true}⟩) h _
theorem RX.aD.aO (r:fy)(hc:r.aA.aD.aF=true)(m:fF):(r.bA m).aD 21:=by
 unfold fy.bA;refine RX.aD.aD ?_;have h0:r.aH.aD 0:=Xm _;unfold RX.aT;split;·exact h0.aA ω
 ·simp only;have h1:RX.aD 0 (if r.aH.r.aA.aC<m.aD then (r.aH.aJ m.aD 0).aO 0 else r.aH)/\(if r.aH.r.aA.aC<m.aD then (r.aH.aJ m.aD 0).aO 0 else r.aH).r.aA.aD.aF=true:=by split<;>exact⟨h0,hc⟩
  generalize (if r.aH.r.aA.aC<m.aD then (r.aH.aJ m.aD 0).aO 0 else r.aH)=y at *;obtain⟨h1,h2⟩:=h1;split
  ·split;·exact (h1.aC _).aA ω
   ·split;·exact (h1.aC _).aA ω
    ·exact h1.aA ω
  ·split;·exact h1.aJ.aA ω
   ·split;·exact h1.aQ h2
    ·split;·exact h1.aK.aA ω
     ·split;·exact h1.aA ω
      ·split;·exact (RX.aD.aI (x:=⟨{y.r.aW m.aE with aF:=0},y.o⟩) h1).aA ω
       ·exact (RX.aD.aL (x:=⟨{y.r.aW m.aE with aF:=0},y.o⟩) h1).aA ω
theorem RX.aD.aH (r:fy)(hc:r.aA.aD.aF=true)(hf:r.aC.length<=21)(k:Int)(d:List Int):(r.aP k d).2.1.aD 21:=by
 unfold fy.aP;split;·exact Xm _
 ·split;·exact Xm _
  ·split;·exact Xm _
   ·split;·exact Xm _
    ·refine RX.aD.aD ?_;exact (RX.aD.aE (RX.aD.aF (n:=0) (x:=r.aH) (Xm _) k d)).aA (by have:=Ir (x:=r.aH) k d hc hf;omega)
end
end Glb
