/-
  A library of its own.
-/
import Derived.Test.YtdeiamnhnfmilaaGreatGlbSafA
import Derived.Test.YtdeiamnhnfmilaaGreatGlbRafV
set_option linter.unusedSimpArgs false
set_option linter.unusedVariables false
set_option maxRecDepth 10000
namespace Glb
open Go
section
variable {G:gx} {D:Es} {k:Int} {x:RX} {m:fJ}
theorem gS.of {r':fj}(h:gS G D x)(e1:r'.id=x.r.id)(e2:r'.aA=x.r.aA)(e3:r'.aF=x.r.aF)(e4:r'.aE=x.r.aE)(e5:r'.aI=x.r.aI)(e6:r'.aH=x.r.aH)(e7:r'.aC=x.r.aC):gS G D ⟨r',x.o⟩:=
 ⟨h.aA.of e1 e2 e3 e4 e5 e6 e7,h.aC⟩
theorem iq.aC {n:Nat}(h:iq n G D k x) (f:∀G',G'.ok->gS G' D x->kD G' D {m with aC:=x.r.id,aL:=x.r.aA.aE,aG:=x.r.aA.aC}):iq n G D k (x.aH m):=by obtain⟨G',u,g,r,e⟩:=h;exact⟨G',u,g,r.aD (f G' u r),e⟩
theorem gS.aL (ok:G.ok)(h:gS G D x)(hm:kD G D m)(hk:m.aE=1)(ht:m.aG=x.r.aA.aC):iq 1 G D x.r.id (x.aT m):=by
 obtain⟨L,l1,l2,l3⟩:=hm.aG hk;rw[ht]at l1;have hf:=hm.aA.aA;have h1:gS G D ⟨{x.r with aK:=0},x.o⟩:=h.of rfl rfl rfl rfl rfl rfl rfl;have e:x.aT m=(if lZ x.r.aA.aC x.r.aA.aF x.r.aA.aA m then (let z:RX:={x with r:={x.r with aK:=0}};if z.r.aA.aF=m.aC then z else z.aJ z.r.aA.aC m.aC) else x).aH {fJ.aK with aE:=2,to:=m.aC,ok:=lZ x.r.aA.aC x.r.aA.aF x.r.aA.aA m}:=rfl;rw[e];by_cases c:lZ x.r.aA.aC x.r.aA.aF x.r.aA.aA m=true
 ·rw[U4 c];unfold lZ at c;simp only[Vq,We,VD]at c;obtain⟨-,-,c1,c2⟩:=c;simp only;by_cases c3:x.r.aA.aF=m.aC;·rw[U4 c3];obtain⟨w,w1,w2⟩:=h.aA.aP (by omega);exact (iq.aA ok h1).aC (λG' ok' r=>by obtain⟨w,w1,w2⟩:=r.aA.aP (by show x.r.aA.aF≠0;omega);exact⟨⟨r.aA.id,⟨Vk _,λ_=>rfl⟩,⟨(λ_ h=>by cases h),Vk _⟩,⟨Vi _,r.aA.aF⟩,(λe=>absurd e (by show ¬(3:Int)<=2;omega))⟩,(λe=>by cases e),λ_ _=>⟨w,w1,w2.trans c3⟩,(λe=>by cases e),(λe=>by cases e),(λe=>by cases e)⟩)
  ·rw[U6 c3];have v0:x.r.aA.aF=0:=by omega
   have nw:rL L (gn D x.r):=by
    have e1:=h.aA.on.aG;have e2:=h.aA.aQ;unfold fA.aN at c2;simp only[We,Vq,VD]at c2;rw[l2,l3,e1]at c2;have e1':iH (gA D x.r.aA.aA)=iH (gn D x.r):=rfl;rcases c2 with c2 | c2;·exact .inl c2
    ·exact .inr ⟨c2.1,by omega⟩
   have nr:x.r.aI=0\/x.r.aI=2:=by
    rcases h.aA.aR with z | z | z;·exact .inl z
    ·exact absurd v0 (h.aA.aS z).1.2
    ·exact .inr z
   obtain⟨G',ok',g,sl,⟨w,w1,w2⟩,m'⟩:=h1.aA.bz ok (c:=m.aC) v0 (by omega) l1 nw nr;refine⟨G',ok',g,gS.aD ⟨m',λa ha=>(h.aC a ha).aC g (Wb _)⟩ ?_,rfl,λB sB=>⟨λt w hw=>Vh (sB.1 t w (by rw[<-sl.1];exact hw)) (V6 _ _),by rw[sl.2];have:=sB.2;omega⟩⟩;exact⟨⟨m'.id,⟨Vk _,λ_=>rfl⟩,⟨(λ_ h=>by cases h),Vk _⟩,⟨Vi _,m'.aF⟩,(λe=>absurd e (by show ¬(3:Int)<=2;omega))⟩,(λe=>by cases e),λ_ _=>⟨w,w1,w2⟩,(λe=>by cases e),(λe=>by cases e),(λe=>by cases e)⟩
 ·rw[U6 c];exact (iq.aA ok h).aC (λG' ok' r=>⟨⟨r.aA.id,⟨Vk _,λ_=>rfl⟩,⟨(λ_ h=>by cases h),Vk _⟩,⟨Vi _,r.aA.aF⟩,(λe=>absurd e (by show ¬(3:Int)<=2;omega))⟩,(λe=>by cases e),(λ_ o=>absurd o c),(λe=>by cases e),(λe=>by cases e),(λe=>by cases e)⟩)
theorem gS.aT (ok:G.ok)(h:gS G D x)(hm:kD G D m)(hk:m.aE=2)(ht:m.aG=x.r.aA.aC)(e:m.to=x.r.id):iq 1 G D x.r.id (x.aV m):=by
 unfold RX.aV;split;·exact iq.aA ok h
 ·rename_i c;simp only[not_or,Classical.not_not,Bool.not_eq_false]at c;obtain⟨c1,c2,c3,c4⟩:=c;obtain⟨w,w1,w2⟩:=hm.aH hk c2;rw[ht]at w1;have h1:gS G D ⟨{x.r with aH:=x.r.aH++[m.aC]},x.o⟩:=by
   refine⟨?_,h.aC⟩;have hh:=h.aA;refine⟨hh.id,hh.on,hh.aC,hh.aG,hh.le,hh.aI,hh.aH,hh.aD,hh.aE,hh.aA,hh.aF,hh.aJ,hh.aP,hh.aL,hh.aM,hh.aK,hh.aR,λz=>?_,hh.aN,hh.aO⟩;obtain⟨a1,a2,a3,a4⟩:=hh.aS z;refine⟨a1,a2,λv hv=>?_,a4⟩;rcases VK.1 hv with hv | hv;·exact a3 v hv
   ·obtain rfl:v=m.aC:=by simpa using hv
    exact⟨w,w1,w2.trans e⟩
  simp only;split;·rename_i c5;have z:=h1.aH ok c1 c5;exact z
  ·have z:=iq.aA (n:=1) ok h1;exact z
theorem ML {l:List fV}{n:Int}{i:Nat}(h:tj l n=some i):∃hi:i<l.length,l[i].aE=n:=by unfold tj at h;obtain⟨h1,h2,-⟩:=List.findIdx?_eq_some_iff_getElem.1 h;exact⟨h1,by simpa using h2⟩
theorem gS.aN (ok:G.ok)(h:gS G D x)(hm:kD G D m)(hk:m.aE=4)(ht:m.aG=x.r.aA.aC):iq 1 G D x.r.id (x.aO m):=by
 unfold RX.aO;split;·exact iq.aA ok h
 ·rename_i c;have h2:x.r.aI=2:=by simpa using c
  cases e:tj x.r.aC m.aC with
  | none=>exact iq.aA ok h
  | some i=>
   obtain⟨hi,hn⟩:=ML e;have ef:(x.r.aC[i]?).getD ⟨0,0,0,0⟩=x.r.aC[i]:=by rw[U0 hi];rfl
   simp only[ef];obtain⟨a1,a2,a3⟩:=h.aA.aO _ (Vx hi);have hlen:=h.aA.aQ;obtain⟨l0,hl⟩:=h.aA.aN h2;have nf:(1<=(x.r.aC[i].aF m).aC/\(x.r.aC[i].aF m).aC<=x.r.aA.aA.aC+1)/\(0<=(x.r.aC[i].aF m).aD/\(x.r.aC[i].aF m).aD<=x.r.aA.aA.aC)/\((x.r.aC[i].aF m).aD=0\/G.aF x.r.aA.aC (x.r.aC[i].aF m).aE (x.r.aC[i].aF m).aD.toNat):=by
    unfold fV.aF;rw[U4 ⟨hk,hn.symm⟩];by_cases c2:m.ok=true
    ·rw[U4 c2];obtain⟨b1,b2⟩:=hm.aE hk c2;have hx:m.aA<=x.r.aA.aA.aC:=by
      rcases b2 with b2 | b2;·have:=h.aA.aD;have:=h.aA.on.aA;omega
      ·obtain⟨y,y1,y2⟩:=ok.aE _ _ _ b2;rw[ht,hl]at y1;injection y1 with y1;subst y1;simp only at y2;omega
     simp only;refine⟨⟨by omega,by omega⟩,⟨by omega,by omega⟩,?_⟩;by_cases c3:m.aA<=x.r.aC[i].aD;·rw[Int.max_eq_left c3];exact a3
     ·rw[Int.max_eq_right (by omega)];refine b2.imp (λz=>z) λz=>?_;rw[hn,<-ht];exact z
    ·rw[U6 c2];simp only;exact⟨⟨by omega,by omega⟩,a2,a3⟩
   have h1:gS G D ⟨{x.r with aC:=x.r.aC.set i (x.r.aC[i].aF m)},x.o⟩:=by
    refine⟨?_,h.aC⟩;have hh:=h.aA;refine⟨hh.id,hh.on,hh.aC,hh.aG,hh.le,hh.aI,hh.aH,hh.aD,hh.aE,hh.aA,hh.aF,hh.aJ,hh.aP,hh.aL,hh.aM,hh.aK,hh.aR,hh.aS,hh.aN,λf hf=>?_⟩;rcases List.mem_or_eq_of_mem_set hf with z | rfl;·exact hh.aO f z
    ·exact nf
   have fin:∀z:RX,iq 1 G D x.r.id z->z.r.aI=2->z.r.aA=x.r.aA->iq 1 G D x.r.id (if m.ok=false\/(x.r.aC[i].aF m).aC<=z.r.aL then z.to (x.r.aC[i].aF m) else z):=by
    intro z hz z2 zh;split;·obtain⟨G',u,g,r,e⟩:=hz;exact⟨G',u,g,r.to u z2 (by rw[zh];exact nf.1),e⟩
    ·exact hz
   by_cases c2:m.ok=true
   ·simp only[c2,VS];have s1:=h1.aJ ok h2;have:=fin _ (s1.aF (Vk _)) (by show (fj.aW _).aI=2;unfold fj.aW;split<;>exact h2) (by show (fj.aW _).aA=_;unfold fj.aW;split<;>rfl);simp only[c2]at this;exact this
   ·simp only[Xn]at c2;simp only[c2,Vn,VI];have z0:=iq.aA (n:=1) ok h1;have:=fin _ z0 h2 rfl;simp only[c2]at this;exact this
theorem gS.aE (ok:G.ok)(h:gS G D x){y:mq}(hy:G.aA x.r.aA.aC=some y){n:Int}(hn:n.toNat<=y.l.length)(hp:(gn D x.r).take n.toNat=y.l.take n.toNat)(h0:0<=n):iq 1 G D x.r.id (x.aS m true n):=by obtain⟨G',e,g,sl,-,a,m'⟩:=h.aA.aV ok hy hn (by rw[<-hp];exact WH _ _);have r:gS G' D x:=h.aI g m';exact⟨G',e,g,r.aF ⟨h0,.inr ⟨_,y,by rw[sl.1];exact hy,by omega⟩⟩ (λ_=>⟨h0,.inr a⟩),rfl,λB sB=>⟨λt w hw=>Vh (sB.1 t w (by rw[<-sl.1];exact hw)) (V6 _ _),by rw[sl.2];have:=sB.2;omega⟩⟩
theorem gS.aK (ok:G.ok)(h:gS G D x)(hm:kD G D m)(hk:m.aE=3)(ht:m.aG=x.r.aA.aC) (h0:x.r.aI=0/\x.r.aC=[]):iq 1 G D x.r.id (x.aI m):=by
 obtain⟨y,y1,y2,y3,y4,y5,y6⟩:=hm.aD hk;rw[ht]at y1 y6;have at0:=h.aA.aD;have hb0:=h.aA.on.aA;unfold RX.aI;split;·obtain⟨a1,a2⟩:=ok.aJ h.aA.aA y1;exact h.aE ok y1 a2 a1 (by omega)
 ·split;·exact⟨G,ok,je.aD _ _,h.aF ⟨by omega,.inr ⟨_,y,y1,by omega⟩⟩ (λe=>by cases e),rfl,λB sB=>sB.aA (V6 _ _)⟩
  ·rename_i c1 c2;simp only[not_or,Bool.not_eq_false,Classical.not_not]at c2;obtain⟨c2,c3⟩:=c2;have c3:x.r.aA.aA.aH m.aA=iH (y.l.take m.aA.toNat):=c3.trans y4;obtain⟨b1,b2,b3,b4⟩:=h.aA.bC ok y1 h0 c2 c3 y3 y5;simp only;split;·rename_i c4;have:=b1 c4.1;omega
   ·rename_i c4;obtain⟨z,hz,zr,zo⟩:∃z:RX,z=(if 0<x.r.aA.aA.aI m.aA m.es then ({x with r:={x.r with aA:={x.r.aA with aA:=x.r.aA.aA.aE m.aA m.es}}}:RX).aX {gi.aI with aC:=2,aE:=x.r.aA.aA.aI m.aA m.es,aA:=⟨0,0,(x.r.aA.aA.aE m.aA m.es).aJ (x.r.aA.aA.aI m.aA m.es) (x.r.aA.aA.aE m.aA m.es).es.length⟩} else x)/\z.r={x.r with aA:={x.r.aA with aA:=x.r.aA.aA.aE m.aA m.es}}/\z.o.aD=x.o.aD:=by
     refine⟨_,rfl,?_⟩;split;·exact⟨rfl,rfl⟩
     ·rename_i c5;have e:x.r.aA.aA.aE m.aA m.es=x.r.aA.aA:=by
       unfold fA.aI at c5;unfold fA.aE;split;·rename_i c6;rw[U4 c6]at c5;have:=ky.1 c6.1;omega
       ·rfl
      rw[e];exact⟨rfl,rfl⟩
    rw[<-hz];have hl:=b2;rw[<-zr]at b2;have tk:gn D z.r=gA D (x.r.aA.aA.aE m.aA m.es):=by rw[zr]
    have lz:z.r.aA.aA.aC=(x.r.aA.aA.aE m.aA m.es).aC:=by rw[zr]
    have cz:z.r.aE=x.r.aE:=by rw[zr]
    have tz:z.r.aA.aC=x.r.aA.aC:=by rw[zr]
    have iz:z.r.id=x.r.id:=by rw[zr]
    have C:=b2.aD;have u:gE G D {z.r with aE:=max z.r.aE (min m.aI (m.aA+m.es.length))}:=by
     refine⟨b2.id,b2.on,b2.aC,b2.aG,b2.le,b2.aI,b2.aH,⟨C.1,by show z.r.aF<=max _ _;omega,by show max _ _<=z.r.aA.aA.aC;omega⟩,b2.aE,?_,b2.aF,b2.aJ,b2.aP,b2.aL,b2.aM,b2.aK,b2.aR,b2.aS,b2.aN,b2.aO⟩;show G.aI z.r.aA.aC (max z.r.aE (min m.aI (m.aA+m.es.length))) (gn D z.r);by_cases c5:min m.aI (m.aA+m.es.length)<=z.r.aE;·rw[Int.max_eq_left c5];exact b2.aA
     ·rw[Int.max_eq_right (by omega),tz];refine (y6.aA (Vi _) (Int.min_le_left _ _)).of ?_;rw[tk];exact kJ b3 (by omega)
    have r2:gS G D ⟨{z.r with aE:=max z.r.aE (min m.aI (m.aA+m.es.length))},z.o⟩:=⟨u,λa ha=>h.aC a (by rw[<-zo];exact ha)⟩;have:=r2.aE (m:=m) ok (y:=y) (n:=m.aA+m.es.length) (by show G.aA z.r.aA.aC=_;rw[tz];exact y1) (by omega) (by show (gn D z.r).take _=_;rw[tk];exact b3) (by omega);rw[show ({r:={z.r with aE:=max z.r.aE (min m.aI (m.aA+m.es.length))},o:=z.o}:RX).r.id=x.r.id from iz]at this;exact this
theorem gS.aP (ok:G.ok)(h:gS G D x)(hm:kD G D m)(hk:m.aE=5)(ht:m.aG=x.r.aA.aC) (h0:x.r.aI=0/\x.r.aC=[]):iq 1 G D x.r.id (x.aP m):=by
 obtain⟨y,y1,y2,y3,y4,y5,y6,y7,y8,y9⟩:=hm.aF hk;rw[ht]at y1 y5;have at0:=h.aA.aD;have hb0:=h.aA.on.aA;unfold RX.aP;split;·obtain⟨a1,a2⟩:=ok.aJ h.aA.aA y1;exact h.aE ok y1 a2 a1 (by omega)
 ·rename_i c;simp only;rw[U6 (by rw[y6,y7];simp)];obtain⟨b1,b2,b3⟩:=h.aA.bt ok y1 h0 (b:=m.aA) (by omega) y3 y5 (sn:=(iL m.aF).2.1) ⟨y8,y9⟩;rw[<-y4]at b1 b2;have r2:gS G D ⟨{x.r with aA:={x.r.aA with aA:=x.r.aO m.aA m.aH,aD:=iB G.c0 (D.take m.aA.toNat),aG:=(iL m.aF).2.1},aE:=m.aA,aF:=m.aA},{(x.aQ m.aA m.aH (iB G.c0 (D.take m.aA.toNat)) (iL m.aF).2.1).o with aA:=true}⟩:=⟨b1,h.aC⟩;have:=r2.aE (m:=m) ok (y:=y) (n:=m.aA) y1 b3 b2 y2;rw[y7];exact this
theorem gS.aS (h:gS G D x)(hm:kD G D m):gS G D (x.aG m)/\(x.aG m).r.id=x.r.id:=by
 unfold RX.aG;split;·rename_i c;exact⟨⟨h.aA.up c hm.aA.aA.2 0,h.aC⟩,rfl⟩
 ·exact⟨h,rfl⟩
theorem Tu (x:RX)(m:fJ):m.aG<=(x.aG m).r.aA.aC:=by
 unfold RX.aG;split;·exact Vi _
 ·rename_i c;omega
theorem gS.aR (ok:G.ok)(h:gS G D x)(hm:kD G D m)(C:m.to=x.r.id):iq 1 G D x.r.id (x.aU m):=by
 rw[vK];split;·exact iq.aA ok h
 ·obtain⟨t,ti⟩:=h.aS hm;have tt:=Tu x m;rw[<-ti];split
  ·rename_i c;split;·exact (iq.aA ok t).aC (λG' u r=>⟨⟨r.aA.id,⟨Vk _,λ_=>rfl⟩,⟨(λ_ h=>by cases h),Vk _⟩,⟨Vi _,r.aA.aF⟩,(λe=>absurd e (by show ¬(3:Int)<=2;omega))⟩,(λe=>by cases e),(λ_ o=>by cases o),(λe=>by cases e),(λe=>by cases e),(λe=>by cases e)⟩)
   ·split;·exact (iq.aA ok t).aC (λG' u r=>⟨⟨r.aA.id,⟨Vk _,λ_=>rfl⟩,⟨(λ_ h=>by cases h),Vk _⟩,⟨Vi _,r.aA.aF⟩,λ_=>⟨Vi _,.inl rfl⟩⟩,(λe=>by cases e),(λe=>by cases e),(λe=>by cases e),(λ_ o=>by cases o),(λe=>by cases e)⟩)
    ·exact iq.aA ok t
  ·rename_i c0 c;have e:m.aG=(x.aG m).r.aA.aC:=by omega
   unfold RX.aY;split;·rename_i c1;exact t.aL ok hm c1 e
   ·split;·rename_i c1;exact t.aT ok hm c1 e (C.trans ti.symm)
    ·split;·rename_i c1;exact t.aN ok hm c1 e
     ·split;·exact iq.aA ok t
      ·have z:gS G D ⟨{(x.aG m).r.aU m.aC with aK:=0},(x.aG m).o⟩:=⟨(t.aA.aX m.aC).of rfl rfl rfl rfl rfl rfl rfl,t.aC⟩;simp only;split;·rename_i c1;exact z.aK ok hm c1 e ⟨rfl,rfl⟩
       ·rename_i c2 c3 c4 c5 c1;refine z.aP ok hm ?_ e ⟨rfl,rfl⟩;simp only[not_or]at c0;omega
end
section
variable {G:gx} {D:Es} {k:Int} {x:RX} {m:fJ}
theorem xu (x:RX):x.aA.r.id=x.r.id/\x.aA.r.aA=x.r.aA/\x.aA.r.aE=x.r.aE/\x.aA.o.aD=x.o.aD/\x.aA.o.aC=x.o.aC/\x.aA.o.aA=x.o.aA:=by
 have e:x.r.aS.id=x.r.id/\x.r.aS.aA=x.r.aA/\x.r.aS.aE=x.r.aE:=by unfold fj.aS;split<;>exact⟨rfl,rfl,rfl⟩
 unfold RX.aA;simp only;split<;>exact⟨e.1,e.2.1,e.2.2,rfl,rfl,rfl⟩
theorem iq.aE (hD:G.aL D){n:Nat}(h:iq n G D k x):∃G',G'.ok/\je k G G'/\D<+:gT D x.r/\G'.aL (gT D x.r)/\gS G' (gT D x.r) x.aA/\x.aA.r.id=k/\x.aA.r.aF=x.aA.r.aE/\(gT D x.r).take x.r.aE.toNat=(gn D x.r).take x.r.aE.toNat/\x.r.aE<=(gT D x.r).length/\gE G' D x.r/\∀B,G.aJ B->G'.aJ (B+n):=by
 obtain⟨G',u,g,r,e,s⟩:=h;have C:G'.aL D:=let⟨t,ht⟩:=hD;⟨t,ht.aC g⟩
 have h1:gE G' D x.r.aS:=by
  unfold fj.aS;split;·exact r.aA.aX 0
  ·exact r.aA
 have e1:x.r.aS.id=x.r.id/\x.r.aS.aA=x.r.aA/\x.r.aS.aE=x.r.aE/\x.r.aS.aF=x.r.aF:=by unfold fj.aS;split<;>exact⟨rfl,rfl,rfl,rfl⟩
 have ed:gT D x.r.aS=gT D x.r:=by unfold gT;rw[e1.2.2.1];show (if _ then (gA D x.r.aS.aA.aA).take _ else _)=_;rw[e1.2.1]
 obtain⟨d1,d2,d3,d4,d5,d6⟩:=h1.bw u C;rw[ed,e1.2.2.1]at d5 d6;rw[ed]at d1 d2 d3 d4;have ef:gn D x.r.aS=gn D x.r:=by show gA D x.r.aS.aA.aA=_;rw[e1.2.1]
 rw[ef]at d5;refine⟨G',u,g,d1,d2,?_,(xu x).1.trans e,?_,d5,d6,r.aA,s⟩
 ·refine⟨?_,λm hm=>(r.aC m (by rw[(xu x).2.2.2.1]at hm;exact hm)).aC (je.aD k G') d1⟩;unfold RX.aA;simp only;split;·exact d3
  ·exact d4
 ·have at0:=r.aA.aD;unfold RX.aA;simp only;split;·rename_i c;show x.r.aS.aF=x.r.aS.aE;omega
  ·rfl
theorem uL {r:fj}(h:gE G D r):gS G D r.aG:=⟨h,λm hm=>by cases hm⟩
def fj.bA (r:fj)(draw:Int):RX:=
 if r.aI=2 then (if r.aN+1≥2 then (({r with aN:=0}:fj).aG).on else ({r with aN:=r.aN+1}:fj).aG)
 else
  let s:fj:={r with aK:=r.aK+1}
  if s.aX<=s.aK/\s.aZ s.id=true/\s.aA.aC<2^40/\s.aL<2^40 then s.aG.aW draw else s.aG
theorem IA (r:fj)(e:Int):r.aR e=(r.bA e).aA:=by unfold fj.aR fj.bA;split<;>rfl
theorem gE.bI (ok:G.ok){r:fj}(h:gE G D r)(e:Int):iq 2 G D r.id (r.bA e):=by
 unfold fj.bA;split
 ·rename_i c;split;·have b:=uL (h.of (r':={r with aN:=0}) rfl rfl rfl rfl rfl rfl rfl);exact⟨G,ok,je.aD _ _,(b.on ok c).1,by rw[(b.on ok c).2];rfl,λB sB=>sB.aA (V6 _ _)⟩
  ·exact iq.aA ok (uL (h.of (r':={r with aN:=r.aN+1}) rfl rfl rfl rfl rfl rfl rfl))
 ·have b:=uL (h.of (r':={r with aK:=r.aK+1}) rfl rfl rfl rfl rfl rfl rfl);simp only;split;·exact b.aQ ok e
  ·exact iq.aA ok b
def fj.bB (r:fj)(kind:Int)(data:List Int):RX:=((r.aG.aF kind data).on).aK
theorem gE.bG (ok:G.ok){r:fj}(h:gE G D r)(h2:r.aI=2){kind:Int}{data:List Int}(hs:fU.aF ⟨r.aA.aC,kind,data⟩)(hc:kind=2->pb r.aM (im data).1/\r.aA.of.2<=r.aE):iq 1 G D r.id (r.bB kind data):=by obtain⟨l1,l2⟩:=(uL h).aO ok h2 hs hc;exact (gS.aG ok l1 l2).1
theorem gE.bu (ok:G.ok){r:fj}(h:gE G D r){index:Int}(h1:r.aA.aA.aA<index)(h2:index<=r.aF){sn:List Int}(hs:gF sn/\sn.length<=1):
  iq 0 G D r.id (r.aG.aQ index (r.aA.aA.aH index) (({r.aA with aA:={r.aA.aA with es:=r.aA.aA.es.take (index-r.aA.aA.aA).toNat}}:fF).of.1) sn):=by
 have E:=h.aD;have hb0:=h.on.aA;have hlen:=h.aQ;have hh:r.aA.aA.aF index=true:=ky.2 ⟨by omega,by omega⟩;have e:(gn D r).take index.toNat=D.take index.toNat:=kJ h.aE.1 (by omega);obtain⟨k1,k2,k3,k4⟩:=h.aW ok hh e (by have:=h.aE.2;omega);obtain⟨u,hu⟩:∃u:fF,u={r.aA with aA:={r.aA.aA with es:=r.aA.aA.es.take (index-r.aA.aA.aA).toNat}}:=⟨_,rfl⟩;have uf:gA D u.aA=(gn D r).take index.toNat:=by rw[hu];show _=(gA D r.aA.aA).take index.toNat;unfold gA;simp only;rw[List.take_append,Vs (l:=D.take _) (by rw[h.on.aC];omega),h.on.aC];congr 2;omega
 have uc:u.of.1=iB G.c0 (D.take index.toNat):=by have:=PD (G:=G) (D:=D) (x:=u) (by rw[hu];exact⟨h.on.aA,h.on.aD⟩) (by rw[hu];exact h.aI);rw[this,uf,e]
 rw[<-hu,uc];have C:r.aO index (r.aA.aA.aH index)=r.aA.aA.aK index:=by unfold fj.aO;rw[U4 ⟨hh,rfl⟩]
 have hm:gE G D {r with aA:={r.aA with aA:=r.aO index (r.aA.aA.aH index),aD:=iB G.c0 (D.take index.toNat),aG:=sn}}:=by refine h.aT (r':={r with aA:={r.aA with aA:=r.aO index (r.aA.aA.aH index),aD:=iB G.c0 (D.take index.toNat),aG:=sn}}) rfl rfl rfl (by rw[C];exact k1) (by show G.aE (gA D _);rw[C,k2];exact h.aC) (by show Glb.me (gA D _);rw[C,k2];exact h.aG) (by show ∀e∈gA D _,_;rw[C,k2];exact h.le) (by show _=iB G.c0 (D.take (r.aO _ _).aA.toNat);rw[C,k4]) hs ⟨by show (r.aO _ _).aA<=r.aF;rw[C,k4];exact h2,E.2.1,by show r.aE<=(r.aO _ _).aC;rw[C,k3];exact E.2.2⟩ ⟨by show (gA D _).take _=_;rw[C,k2];exact h.aE.1,h.aE.2⟩ (by show G.aI _ _ (gA D _);rw[C,k2];exact h.aA) (λt n _ y hy _ hp=>.inl (by show _<+:gA D _;rw[C,k2];exact hp)) (.inr ⟨by show gA D _=_;rw[C,k2],by show (r.aO _ _).aC=_;rw[C,k3],rfl,rfl,rfl⟩)
 exact⟨G,ok,je.aD _ _,⟨hm,λm hm=>by cases hm⟩,rfl,λB sB=>sB⟩
end
theorem fj.aD.aS {x:fj}{k:Nat}(h:x.aD k)(hk:k<=130000):x.aA.aJ 130000:=by obtain⟨a,b,c,d,e,f⟩:=h.bC (by omega);exact⟨a,by omega,c,d,e,f⟩
def nk:fF->List gi->fF->Prop
 | h,[],h'=>h'=h
 | h,c :: r,h'=>(c.aH=h.aE/\1<=c.aC/\c.aC<=3)/\(c.aM/\h.aJ 130000)/\(h.aI c).2=0/\nk (h.aI c).1 r h'
theorem xn {c:gi}{h1:fF}(h2:c.aH=h1.aE/\1<=c.aC/\c.aC<=3)(h3:c.aM/\h1.aJ 130000)(h4:(h1.aI c).2=0):∀{l:List gi}{h:fF},nk h l h1->nk h (l++[c]) (h1.aI c).1:=by
 intro l;induction l with
 | nil=>intro h e;obtain rfl:=e;exact⟨h2,h3,h4,rfl⟩
 | cons a l ih=>intro h e;exact⟨e.1,e.2.1,e.2.2.1,ih e.2.2.2⟩
theorem IE {h:fF}{c:gi}{e:Es}(h1:c.aC=2)(h2:h.aA.aA<c.aE/\c.aE<=h.aA.aC+1)(h3:h.aA.es.take (c.aE-h.aA.aA-1).toNat++c.aA.es=e):h.aI c=({h with aA:=⟨h.aA.aA,h.aA.aD,e⟩},0):=by unfold fF.aI;rw[U6 (by omega),U4 h1,U6 (by omega),h3]
theorem IF {h:fF}{c:gi}(h1:c.aC=3):h.aI c=({h with aA:=h.aL c,aD:=c.aG,aG:=c.aJ},0):=by unfold fF.aI;rw[U6 (by omega),U6 (by omega),U4 h1]
theorem Kp {h:fF}{c:gi}(h2:c.aH=h.aE/\1<=c.aC/\c.aC<=3)(h4:(h.aI c).2=0):(iQ h).aC c=(iQ (h.aI c).1,0):=by unfold jf.aC iQ;rw[U6 (by omega),U6 (by omega)];simp only[qC,h2.1,VS,h4];simp
structure gH (h0:fF)(a0:Int)(x:RX):Prop where
 aD:nk h0 x.o.aC x.r.aA
 aA:x.o.aF=[]/\x.o.aE=0
 aC:x.r.aF=if x.o.aA=true then x.r.aA.aA.aA else a0
section
variable {h0:fF} {a0:Int} {x y:RX} {k:Nat} {m:fJ}
theorem gH.of (t:gH h0 a0 x)(e1:y.r.aA=x.r.aA)(e2:y.r.aF=x.r.aF)(e3:y.o.aC=x.o.aC/\y.o.aF=x.o.aF/\y.o.aE=x.o.aE/\y.o.aA=x.o.aA):gH h0 a0 y:=
 ⟨by rw[e3.1,e1];exact t.aD,by rw[e3.2.1,e3.2.2.1];exact t.aA,by rw[e2,e3.2.2.2,e1];exact t.aC⟩
theorem iR:ia 0:=⟨by decide,by decide⟩
theorem NH:ia 1:=⟨by decide,by decide⟩
theorem Gz:ia 2:=⟨by decide,by decide⟩
theorem NI:ia 3:=⟨by decide,by decide⟩
theorem Ow:(1:Int)<=1/\(1:Int)<=3:=⟨by decide,by decide⟩
theorem GQ:(1:Int)<=2/\(2:Int)<=3:=⟨by decide,by decide⟩
theorem Ox:(1:Int)<=3/\(3:Int)<=3:=⟨by decide,by decide⟩
theorem gH.aH (t:gH h0 a0 x)(hf:x.r.aD k)(u:k<=130000){tm v:Int}(h1:ia tm)(h2:ia v):gH h0 a0 (x.aJ tm v):=by
 refine⟨?_,t.aA,t.aC⟩;have c:=xn (c:={({gi.aI with aC:=1,aK:=tm,aL:=v}:gi) with aH:=x.r.aA.aE}) ⟨rfl,Ow⟩ ⟨?_,hf.aS u⟩ rfl t.aD;·exact c
 ·exact⟨⟨NH,hf.aN.1,h1,h2,iR,⟨iR,iR,(by intro e he;cases he)⟩,⟨(by intro e he;cases he),(by intro e he;cases he),(by intro e he;cases he)⟩,(by intro e he;cases he),⟨iR,iR,iR,iR,iR⟩⟩,⟨Vk _,(by intro e he;cases he)⟩,⟨Vk _,Vk _,Vk _⟩,Vk _⟩
theorem gH.to (t:gH h0 a0 x)(f:fV):gH h0 a0 (x.to f):=t.of rfl rfl ⟨rfl,rfl,rfl,rfl⟩
theorem gH.aG:∀{l:List fV}{x:RX},gH h0 a0 x->gH h0 a0 (x.aM l):=by
 intro l;induction l with
 | nil=>intro x t;exact t
 | cons f l ih=>intro x t;exact ih (t.to f)
theorem gH.aF (t:gH h0 a0 x):gH h0 a0 x.aK:=by
 have e:x.r.aW.aA=x.r.aA/\x.r.aW.aF=x.r.aF:=by unfold fj.aW;split<;>exact⟨rfl,rfl⟩
 exact t.of e.1 e.2 ⟨rfl,rfl,rfl,rfl⟩
theorem gH.aJ (t:gH h0 a0 x)(hf:x.r.aD k)(hk2:k<=130000){kind:Int}{data:List Int}(hd:gF data/\data.length<=2^16)(hk:ia kind):gH h0 a0 (x.aF kind data):=by
 have e:x.r.aA.aA.aE x.r.aL [⟨x.r.aA.aC,kind,data⟩]=⟨x.r.aA.aA.aA,x.r.aA.aA.aD,x.r.aA.aA.es++[⟨x.r.aA.aC,kind,data⟩]⟩:=tJ _ _;have e2:=Dk x.r.aA.aA ⟨x.r.aA.aC,kind,data⟩;have e3:x.r.aL=x.r.aA.aA.aC:=rfl;rw[e3]at e;rw[e]at e2;have ht:=hf.aI;have hl:=hf.aF;have hb:=hf.aC;have key:nk h0 (x.o.aC++[{({gi.aI with aC:=2,aE:=x.r.aA.aA.aC+1,aA:=⟨0,0,[⟨x.r.aA.aC,kind,data⟩]⟩}:gi) with aH:=x.r.aA.aE}]) {x.r.aA with aA:=⟨x.r.aA.aA.aA,x.r.aA.aA.aD,x.r.aA.aA.es++[⟨x.r.aA.aC,kind,data⟩]⟩}:=by
  have tu:x.r.aA.aI {({gi.aI with aC:=2,aE:=x.r.aA.aA.aC+1,aA:=⟨0,0,[⟨x.r.aA.aC,kind,data⟩]⟩}:gi) with aH:=x.r.aA.aE}=({x.r.aA with aA:=⟨x.r.aA.aA.aA,x.r.aA.aA.aD,x.r.aA.aA.es++[⟨x.r.aA.aC,kind,data⟩]⟩},0):=by have hll:x.r.aA.aA.aC=x.r.aA.aA.aA+x.r.aA.aA.es.length:=rfl;refine IE rfl ⟨by show x.r.aA.aA.aA<x.r.aA.aA.aC+1;omega,Vi _⟩ ?_;show x.r.aA.aA.es.take (x.r.aA.aA.aC+1-x.r.aA.aA.aA-1).toNat++_=_;rw[Vs (by omega)]
  have c:=xn (c:={({gi.aI with aC:=2,aE:=x.r.aA.aA.aC+1,aA:=⟨0,0,[⟨x.r.aA.aC,kind,data⟩]⟩}:gi) with aH:=x.r.aA.aE}) ⟨rfl,GQ⟩ ⟨?_,hf.aS hk2⟩ (by rw[tu]) t.aD;·rw[tu]at c;exact c
  ·have hll:x.r.aA.aA.aC=x.r.aA.aA.aA+x.r.aA.aA.es.length:=rfl;refine⟨⟨Gz,hf.aN.1,iR,iR,⟨by show _<=x.r.aA.aA.aC+1;omega,by show x.r.aA.aA.aC+1<=_;omega⟩,⟨iR,iR,?_⟩,⟨(by intro e he;cases he),(by intro e he;cases he),(by intro e he;cases he)⟩,(by intro e he;cases he),⟨iR,iR,iR,iR,iR⟩⟩,⟨by show 1<=2^12;omega,?_⟩,⟨Vk _,Vk _,Vk _⟩,Vk _⟩
   ·intro e he;obtain rfl:e=⟨x.r.aA.aC,kind,data⟩:=by simpa using he
    exact⟨⟨by show _<=x.r.aA.aC;omega,by show x.r.aA.aC<=_;omega⟩,hk,hd.1⟩
   ·intro e he;obtain rfl:e=⟨x.r.aA.aC,kind,data⟩:=by simpa using he
    exact hd.2
 unfold RX.aF;simp only[e3,e,e2];split;·exact⟨key,t.aA,t.aC⟩
 ·exact⟨key,t.aA,t.aC⟩
theorem gH.aK (t:gH h0 a0 x)(hf:x.r.aD k)(u:k<=130000):gH h0 a0 x.aN:=by have t1:gH h0 a0 {x with r:=({x.r with aI:=2,aV:=x.r.id,aN:=0,aH:=[],aC:=[]}:fj).a_ [] x.r.aL}:=t.of rfl rfl ⟨rfl,rfl,rfl,rfl⟩;exact (gH.aG (t1.aJ (hf.aV (by omega)) u ⟨(by intro e he;cases he),Vk _⟩ iR)).aF
theorem gH.aS:∀{l:List fJ}{x:RX},gH h0 a0 x->gH h0 a0 (x.aL l):=by
 intro l;induction l with
 | nil=>intro x t;exact t
 | cons m l ih=>intro x t;exact ih (t.of (y:=x.aH m) rfl rfl ⟨rfl,rfl,rfl,rfl⟩)
theorem gH.aT (t:gH h0 a0 x)(hf:x.r.aD k)(C:k<=130000)(h1:x.r.aA.aC<2^40)(u:Int):gH h0 a0 (x.aW u):=by
 have ht:=hf.aI;have hid:=hf.id;have t1:=t.aH hf C (tm:=x.r.aA.aC+1) (v:=x.r.id) ⟨by omega,by omega⟩ ⟨by omega,by omega⟩;have f1:=(hf.aW (t:=x.r.aA.aC+1) (v:=x.r.id) ⟨by omega,by omega⟩ ⟨by omega,by omega⟩).aK 0;obtain⟨z,hz⟩:∃z:RX,z={(x.aJ (x.r.aA.aC+1) x.r.id).aR 0 with r:={((x.aJ (x.r.aA.aC+1) x.r.id).aR 0).r with aI:=1,aK:=0,aX:=mi u,aH:=[x.r.id]}}:=⟨_,rfl⟩;have tz:gH h0 a0 z:=by rw[hz];exact t1.of rfl rfl ⟨rfl,rfl,rfl,rfl⟩
 have fz:z.r.aD k:=by rw[hz];obtain⟨g1,g2,g3,g4,g5,g6,g7,g8,g9,g10,O,M,g13,I,E⟩:=f1;exact⟨g1,g2,g3,g4,g5,g6,g7,g8,g9,⟨Vi _,by show (0:Int)<=k;omega⟩,O,M,by show 1<=k+1;omega,I,E⟩
 have e:x.aW u=if z.r.aM.aH z.r.aH then z.aN else z.aL (kh z.r.id z.r.aA.aE z.r.aA.aC z.r.aA.aA z.r.aM):=by rw[hz];rfl
 rw[e];split;·exact tz.aK fz C
 ·exact tz.aS
theorem gH.aM (t:gH h0 a0 x)(hf:x.r.aD k)(u:k<=130000)(hm:m.aJ):gH h0 a0 (x.aT m):=by
 have e:x.aT m=(if lZ x.r.aA.aC x.r.aA.aF x.r.aA.aA m then (let z:RX:={x with r:={x.r with aK:=0}};if z.r.aA.aF=m.aC then z else z.aJ z.r.aA.aC m.aC) else x).aH {fJ.aK with aE:=2,to:=m.aC,ok:=lZ x.r.aA.aC x.r.aA.aF x.r.aA.aA m}:=rfl;have ht:=hf.aI;rw[e];refine gH.of (x:=if lZ x.r.aA.aC x.r.aA.aF x.r.aA.aA m then (let z:RX:={x with r:={x.r with aK:=0}};if z.r.aA.aF=m.aC then z else z.aJ z.r.aA.aC m.aC) else x) ?_ rfl rfl ⟨rfl,rfl,rfl,rfl⟩;split
 ·simp only;have t1:gH h0 a0 {x with r:={x.r with aK:=0}}:=t.of rfl rfl ⟨rfl,rfl,rfl,rfl⟩;split;·exact t1
  ·exact t1.aH hf.aP u ⟨by show _<=x.r.aA.aC;omega,by show x.r.aA.aC<=_;omega⟩ hm.aC.1
 ·exact t
theorem gH.aW (t:gH h0 a0 x)(hf:x.r.aD k)(e:k+1<=130000):gH h0 a0 (x.aV m):=by
 unfold RX.aV;split;·exact t
 ·have t1:gH h0 a0 {x with r:={x.r with aH:=x.r.aH++[m.aC]}}:=t.of rfl rfl ⟨rfl,rfl,rfl,rfl⟩;have f:({x.r with aH:=x.r.aH++[m.aC]}:fj).aD (k+1):=by obtain⟨g1,g2,g3,g4,g5,g6,g7,g8,g9,M,I,E,g13,C,u⟩:=hf.aA (WQ k);have:=hf.aY;exact⟨g1,g2,g3,g4,g5,g6,g7,g8,g9,M,I,E,by show (x.r.aH++[m.aC]).length<=k+1+1;simp;omega,C,u⟩
  simp only;split;·exact t1.aK f e
  ·exact t1
theorem gH.aP (t:gH h0 a0 x):gH h0 a0 (x.aO m):=by
 unfold RX.aO;split;·exact t
 ·split;·exact t
  ·rename_i i _;have t1:gH h0 a0 {x with r:={x.r with aC:=x.r.aC.set i (((x.r.aC[i]?).getD ⟨0,0,0,0⟩).aF m)}}:=t.of rfl rfl ⟨rfl,rfl,rfl,rfl⟩;simp only;split<;>split<;>first
    | exact t1.aF.to _
    | exact t1.to _
    | exact t1.aF
    | exact t1
theorem gH.aE (t:gH h0 a0 x)(ok:Bool)(i:Int):gH h0 a0 (x.aS m ok i):=t.of rfl rfl ⟨rfl,rfl,rfl,rfl⟩
end
section
variable {h0:fF} {a0:Int} {x y:RX} {k:Nat} {m:fJ}
theorem gH.aL (t:gH h0 a0 x)(hf:x.r.aD k)(C:k<=130000)(hm:m.aJ)(hi:0<=m.aA/\m.aA<=2^40):gH h0 a0 (x.aI m):=by
 unfold RX.aI;split;·exact t.aE _ _
 ·split;·exact t.aE _ _
  ·rename_i c1 c2;simp only;have hp:x.r.aA.aA.aF m.aA=true:=by
    cases e:x.r.aA.aA.aF m.aA with
    | false=>exact absurd (.inl e) c2
    | true=>rfl
   split;·exact t
   ·rename_i c3;have key:0<x.r.aA.aA.aI m.aA m.es->gH h0 a0 (({x with r:={x.r with aA:={x.r.aA with aA:=x.r.aA.aA.aE m.aA m.es}}}:RX).aX {gi.aI with aC:=2,aE:=x.r.aA.aA.aI m.aA m.es,aA:=⟨0,0,(x.r.aA.aA.aE m.aA m.es).aJ (x.r.aA.aA.aI m.aA m.es) (x.r.aA.aA.aE m.aA m.es).es.length⟩}):=by
     intro c4;have u:x.r.aA.aA.aG (m.aA+1) m.es<m.es.length:=by
      apply Vb;intro c;have:x.r.aA.aA.aI m.aA m.es=0:=by unfold fA.aI;rw[U6 (λz=>c z.2)]
      omega
     obtain⟨e1,e2⟩:=vh hp u;have e3:=Cu hp u;have hin:=wL (e:=m.es) hp;obtain⟨q1,q2⟩:=ky.1 hp;have hb:=hf.aC;have hll:x.r.aA.aA.aC=x.r.aA.aA.aA+x.r.aA.aA.es.length:=rfl;obtain⟨f1,-⟩:=hf.aZ hm hi hp (by omega);have ll:(x.r.aA.aA.aE m.aA m.es).es.length=(m.aA+x.r.aA.aA.aG (m.aA+1) m.es-x.r.aA.aA.aA).toNat+(m.es.length-x.r.aA.aA.aG (m.aA+1) m.es):=by rw[e1];simp only[U1,Va,Vo];omega
     have sl:(x.r.aA.aA.aE m.aA m.es).aJ (x.r.aA.aA.aI m.aA m.es) (x.r.aA.aA.aE m.aA m.es).es.length=(x.r.aA.aA.aE m.aA m.es).es.drop (m.aA+x.r.aA.aA.aG (m.aA+1) m.es-x.r.aA.aA.aA).toNat:=by unfold fA.aJ;rw[U6 (by rw[(nZ _ _ _).1,e3,e2];omega),(nZ _ _ _).1,e2,Vs (by simp only[Vo];omega)];congr 1;omega
     refine⟨?_,t.aA,?_⟩
     ·have tu:x.r.aA.aI {({gi.aI with aC:=2,aE:=x.r.aA.aA.aI m.aA m.es,aA:=⟨0,0,(x.r.aA.aA.aE m.aA m.es).aJ (x.r.aA.aA.aI m.aA m.es) (x.r.aA.aA.aE m.aA m.es).es.length⟩}:gi) with aH:=x.r.aA.aE}=({x.r.aA with aA:=⟨x.r.aA.aA.aA,x.r.aA.aA.aD,(x.r.aA.aA.aE m.aA m.es).es⟩},0):=by
       refine IE rfl ⟨by show _<x.r.aA.aA.aI m.aA m.es;omega,by show x.r.aA.aA.aI m.aA m.es<=_;omega⟩ ?_;show x.r.aA.aA.es.take (x.r.aA.aA.aI m.aA m.es-x.r.aA.aA.aA-1).toNat++(x.r.aA.aA.aE m.aA m.es).aJ _ _=_;rw[sl,e2];have:x.r.aA.aA.es.take (m.aA+1+x.r.aA.aA.aG (m.aA+1) m.es-x.r.aA.aA.aA-1).toNat=(x.r.aA.aA.aE m.aA m.es).es.take (m.aA+x.r.aA.aA.aG (m.aA+1) m.es-x.r.aA.aA.aA).toNat:=by rw[e1];simp only;rw[Vz (by simp only[Va];omega),VG,W6];congr 1;omega
       rw[this,Wp]
      have c:=xn (c:={({gi.aI with aC:=2,aE:=x.r.aA.aA.aI m.aA m.es,aA:=⟨0,0,(x.r.aA.aA.aE m.aA m.es).aJ (x.r.aA.aA.aI m.aA m.es) (x.r.aA.aA.aE m.aA m.es).es.length⟩}:gi) with aH:=x.r.aA.aE}) ⟨rfl,GQ⟩ ⟨?_,hf.aS C⟩ (by rw[tu]) t.aD
      ·rw[tu]at c;have e5:(⟨x.r.aA.aA.aA,x.r.aA.aA.aD,(x.r.aA.aA.aE m.aA m.es).es⟩:fA)=x.r.aA.aA.aE m.aA m.es:=by rw[e1]
       rw[e5]at c;exact c
      ·have sub:∀e∈(x.r.aA.aA.aE m.aA m.es).aJ (x.r.aA.aA.aI m.aA m.es) (x.r.aA.aA.aE m.aA m.es).es.length,e.aG:=λe he=>by rw[sl]at he;exact f1.aH e (VC he)
       have hl:=hm.es.1;refine⟨⟨Gz,hf.aN.1,iR,iR,⟨by show _<=x.r.aA.aA.aI m.aA m.es;omega,by show x.r.aA.aA.aI m.aA m.es<=_;omega⟩,⟨iR,iR,λe he=>⟨(sub e he).2.1,(sub e he).2.2,(sub e he).1.1⟩⟩,⟨(by intro e he;cases he),(by intro e he;cases he),(by intro e he;cases he)⟩,(by intro e he;cases he),⟨iR,iR,iR,iR,iR⟩⟩,⟨?_,λe he=>(sub e he).1.2⟩,⟨Vk _,Vk _,Vk _⟩,Vk _⟩;show ((x.r.aA.aA.aE m.aA m.es).aJ (x.r.aA.aA.aI m.aA m.es) (x.r.aA.aA.aE m.aA m.es).es.length).length<=2^12;rw[sl];simp only[Vo];omega
     ·show x.r.aF=if x.o.aA=true then (x.r.aA.aA.aE m.aA m.es).aA else a0
      rw[(nZ _ _ _).1];exact t.aC
    split;·rename_i c4;exact ((key c4).of (y:=⟨{(({x with r:={x.r with aA:={x.r.aA with aA:=x.r.aA.aA.aE m.aA m.es}}}:RX).aX {gi.aI with aC:=2,aE:=x.r.aA.aA.aI m.aA m.es,aA:=⟨0,0,(x.r.aA.aA.aE m.aA m.es).aJ (x.r.aA.aA.aI m.aA m.es) (x.r.aA.aA.aE m.aA m.es).es.length⟩}).r with aE:=max x.r.aE (min m.aI (m.aA+m.es.length))},_⟩) rfl rfl ⟨rfl,rfl,rfl,rfl⟩).aE _ _
    ·exact (t.of (y:=⟨{x.r with aE:=max x.r.aE (min m.aI (m.aA+m.es.length))},x.o⟩) rfl rfl ⟨rfl,rfl,rfl,rfl⟩).aE _ _
theorem S6 (r:fj)(b t:Int):(r.aO b t).aA=b:=by
 unfold fj.aO;split;·rename_i c;rw[(Cd c.1).1]
 ·rfl
theorem gH.aI (t:gH h0 a0 x)(hf:x.r.aD k)(u:k<=130000){b tm:Int}{c:fq}{sn:List Int}(hb:ia b)(ht:ia tm)(hc:c.aE=true)(hs:gF sn/\sn.length<=2^16)(hr:x.o.aA=false):gH h0 a0 (x.aQ b tm c sn):=by
 refine⟨?_,t.aA,?_⟩
 ·have cc:=xn (c:={({gi.aI with aC:=3,aA:=⟨b,tm,[]⟩,aG:=c,aJ:=sn}:gi) with aH:=x.r.aA.aE}) ⟨rfl,Ox⟩ ⟨?_,hf.aS u⟩ (by rw[IF rfl]) t.aD;·rw[IF rfl]at cc;exact cc
  ·exact⟨⟨NI,hf.aN.1,iR,iR,iR,⟨hb,ht,(by intro e he;cases he)⟩,Ia hc,hs.1,⟨iR,iR,iR,iR,iR⟩⟩,⟨Vk _,(by intro e he;cases he)⟩,lA hc,hs.2⟩
 ·show x.r.aF=if x.o.aA=true then (x.r.aO b tm).aA else a0
  have:=t.aC;rw[hr]at this ⊢;exact this
theorem gH.aR (t:gH h0 a0 x)(hf:x.r.aD k)(e:k<=130000)(hm:m.aJ)(hi:0<=m.aA/\m.aA<=2^40)(hr:x.o.aA=false):gH h0 a0 (x.aP m):=by
 unfold RX.aP;split;·exact t.aE _ _
 ·simp only;split;·exact t
  ·rename_i c1 c2;have c3:(im (iL m.aF).1).2=0:=Vb λz=>c2 (.inr z);have b:=t.aI hf e (b:=m.aA) (tm:=m.aH) (c:=(im (iL m.aF).1).1) (sn:=(iL m.aF).2.1) ⟨by omega,by omega⟩ hm.aC.2 (uY c3) (IG hm.aA.1 hm.aA.2).2 hr;have t2:gH h0 a0 ⟨{(x.aQ m.aA m.aH (im (iL m.aF).1).1 (iL m.aF).2.1).r with aE:=m.aA,aF:=m.aA},{(x.aQ m.aA m.aH (im (iL m.aF).1).1 (iL m.aF).2.1).o with aA:=true}⟩:=by
    refine⟨b.aD,b.aA,?_⟩;show m.aA=if true=true then (x.r.aO m.aA m.aH).aA else a0
    rw[U4 rfl,S6]
   exact t2.aE _ _
theorem sP (r:fj):gH r.aA r.aF r.aG:=⟨rfl,⟨rfl,rfl⟩,rfl⟩
theorem gH.aU (r:fj)(hf:r.aD k)(u:k+1<=130000)(hm:m.aJ):gH r.aA r.aF (r.aG.aU m):=by
 have t:=sP r;have e:r.aG.r.aD k:=hf;rw[vK];split;·exact t
 ·rename_i c0;simp only[not_or]at c0;obtain⟨f1,-⟩:=Ds e (j:=0) ⟨U8 _,U8 _⟩ hm;have t1:gH r.aA r.aF (r.aG.aG m)/\(r.aG.aG m).o.aA=false:=by
   unfold RX.aG;split;·rename_i c;have ht:=hf.aI;have hc:r.aA.aC<m.aG:=c;have h1:=hm.aF;exact⟨(t.aH e (by omega) (tm:=m.aG) (v:=0) ⟨by omega,by omega⟩ iR).of rfl rfl ⟨rfl,rfl,rfl,rfl⟩,rfl⟩
   ·exact⟨t,rfl⟩
  obtain⟨t1,t2⟩:=t1;split
  ·split;·exact t1.of rfl rfl ⟨rfl,rfl,rfl,rfl⟩
   ·split;·exact t1.of rfl rfl ⟨rfl,rfl,rfl,rfl⟩
    ·exact t1
  ·unfold RX.aY;split;·exact t1.aM f1 (by omega) hm
   ·split;·exact t1.aW f1 u
    ·split;·exact t1.aP
     ·split;·exact t1
      ·rename_i c1 c2 c3 c4;have hi:=hm.aD (by omega);have t3:gH r.aA r.aF ⟨{(r.aG.aG m).r.aU m.aC with aK:=0},(r.aG.aG m).o⟩:=t1.of rfl rfl ⟨rfl,rfl,rfl,rfl⟩;have f3:=(f1.aK m.aC).aP;simp only;split;·exact t3.aL f3 (by omega) hm hi
       ·exact t3.aR f3 (by omega) hm hi t2
theorem gH.aV (r:fj)(hf:r.aD k)(u:k+1<=130000)(e:Int):gH r.aA r.aF (r.bA e):=by
 unfold fj.bA;split
 ·split;·exact gH.aG (sP {r with aN:=0})
  ·exact sP {r with aN:=r.aN+1}
 ·have b:=sP {r with aK:=r.aK+1};simp only;split;·rename_i c;refine b.aT (k:=k+1) ?_ u c.2.2.1 e;obtain⟨g1,g2,g3,g4,g5,g6,g7,g8,g9,g10,O,M,I,E,C⟩:=hf.aA (WQ k);exact⟨g1,g2,g3,g4,g5,g6,g7,g8,g9,⟨by show 0<=r.aK+1;omega,by have:=hf.aX;show r.aK+1<=((k+1:Nat):Int);omega⟩,O,M,I,E,C⟩
  ·exact b
theorem gH.aQ (r:fj)(hf:r.aD k)(e:k<=130000){kind:Int}{data:List Int}(hd:gF data/\data.length<=2^16)(hk:ia kind):gH r.aA r.aF (r.bB kind data):=
 (gH.aG ((sP r).aJ hf e hd hk)).aF
theorem gH.aN (r:fj)(hf:r.aD k)(u:k<=130000){i:Int}{c:fq}{sn:List Int}(hi:r.aA.aA.aA<i/\i<=r.aF)(hc:c.aE=true)(hs:gF sn/\sn.length<=2^16):gH r.aA r.aF (r.aG.aQ i (r.aA.aA.aH i) c sn):=by
 have h1:=hf.aM;have h2:=hf.aF;have h3:=hf.aC;refine (sP r).aI hf u ⟨by omega,by omega⟩ ?_ hc hs rfl;have hh:r.aA.aA.aF i=true:=ky.2 ⟨by omega,by omega⟩;unfold fA.aH;rw[U4 hh];split;·exact hf.aN.2.2
 ·split;·rename_i e he;obtain⟨h4,rfl⟩:=UY.1 he;exact (hf.aH _ (Vx h4)).2.1
  ·exact iR
theorem gH.aO (t:gH h0 a0 x):nk h0 x.aA.o.aC x.aA.r.aA /\
  ((x.aA.o.aF=[]/\x.r.aE<=x.r.aF)\/(x.r.aF<x.r.aE/\x.aA.o.aE=x.r.aF+1/\x.aA.o.aF=x.r.aA.aA.aJ (x.r.aF+1) (x.r.aE-x.r.aF))) /\
  x.r.aF=(if x.aA.o.aA=true then x.aA.r.aA.aA.aA else a0):=by
 obtain⟨e1,e2,e3,e4,e5,e6⟩:=xu x;refine⟨by rw[e5,e2];exact t.aD,?_,by rw[e6,e2];exact t.aC⟩;have er:x.r.aS.aA=x.r.aA/\x.r.aS.aE=x.r.aE/\x.r.aS.aF=x.r.aF:=by unfold fj.aS;split<;>exact⟨rfl,rfl,rfl⟩
 unfold RX.aA;simp only[er];split;·rename_i c;exact .inl ⟨t.aA.1,c⟩
 ·rename_i c;exact .inr ⟨by omega,rfl,rfl⟩
end
structure gQ where
 l:List fj
 aA:List fJ
 aC:Es
 aJ:List Int
 aE:List Int
 aF:List Int
def gQ.aD (x:gQ)(k:Nat)(y:RX):gQ:=
 {x with
  l:=x.l.set k y.r
  aA:=x.aA++y.o.aD
  aC:=gT x.aC y.r
  aJ:=x.aJ++List.replicate ((gT x.aC y.r).length-x.aC.length) y.r.aA.aC
  aE:=if y.r.aI=2/\y.r.aA.aC∉x.aE then x.aE++[y.r.aA.aC] else x.aE
  aF:=if y.r.aI=2/\y.r.aA.aC∉x.aE then x.aF++[y.r.id] else x.aF}
structure ib (c0:fq)(B K:Nat)(x:gQ):Prop where
 ex:∃G:gx,G.c0=c0/\G.ok/\G.aJ B/\G.aL x.aC/\(∀k (h:k<x.l.length),gE G x.aC x.l[k])/\(∀m∈x.aA,kD G x.aC m) /\
  (∀i (_:i<x.aC.length),∃t,x.aJ[i]?=some t/\G.aI t (i+1) x.aC)/\∀(i:Nat) t j,x.aE[i]?=some t->x.aF[i]?=some j->∃w,G.aA t=some w/\w.id=j
 aE:x.l.length=5
 aD:∀k (h:k<x.l.length),x.l[k].id=k+1/\x.l[k].aA.aE=1/\x.l[k].aF=x.l[k].aE
 aC:∀k (h:k<x.l.length),x.l[k].aD K
 aK:x.aJ.length=x.aC.length
 aN:x.aF.length=x.aE.length
structure ng (x:gQ)(h0:fF)(a0:Int)(y:RX):Prop where
 aC:nk h0 y.o.aC y.r.aA
 aF:x.aC<+:gT x.aC y.r
 aA:∃n:Nat,(n:Int)=(if y.o.aA=true then y.r.aA.aA.aA else a0)/\n<=x.aC.length/\((n+y.o.aF.length:Nat):Int)=y.r.aF/\(y.o.aF≠[]->y.o.aE=n+1)/\(∀i,i<y.o.aF.length->(gT x.aC y.r)[n+i]?=y.o.aF[i]?)/\(gT x.aC y.r).length=max x.aC.length (n+y.o.aF.length)
 aE:y.r.aI=2->(∀(i:Nat) t j,x.aE[i]?=some t->x.aF[i]?=some j->t=y.r.aA.aC->j=y.r.id) /\
  (∀(n:Nat) e,y.r.aA.aA.aA<=n->(gT x.aC y.r)[n]?=some e->∀t,(x.aJ++List.replicate ((gT x.aC y.r).length-x.aC.length) y.r.aA.aC)[n]?=some t->t<y.r.aA.aC->y.r.aA.aA.aJ (n+1) 1=[e])
 aD:∀e∈y.o.aF,e∈y.r.aA.aA.es
theorem Tt (h:fF)(c:gi):(h.aI c).1.aE=h.aE:=by
 unfold fF.aI;split;·rfl
 ·split;·split<;>rfl
  ·split<;>rfl
theorem LH:∀{l:List gi}{h h':fF},nk h l h'->h'.aE=h.aE:=by
 intro l;induction l with
 | nil=>intro h h' e;obtain rfl:=e;rfl
 | cons c l ih=>intro h h' e;exact (ih e.2.2.2).trans (Tt h c)
section
variable {c0:fq} {B K:Nat} {x:gQ}
theorem kD.aI {G:gx}{D:Es}{m:fJ}(ok:G.ok)(s:G.aJ B)(hB:B<=2^30)(h:kD G D m):m.aJ:=by
 have ht:=h.aA.aA.2;have hs:=s.2;refine⟨⟨by have:=h.aA.es.1;omega,λe he=>?_⟩,h.aA.aE,by omega,⟨⟨by have:=h.aA.aA;omega,by have:=h.aA.aA;omega⟩,⟨by have:=h.aA.aD;omega,by have:=h.aA.aD;omega⟩⟩,λz=>?_⟩
 ·by_cases c:m.aE=3
  ·obtain⟨w,w1,w2,w3,w4,w5,w6⟩:=h.aD c;rw[w5]at he;have hw:=VC (VR he);obtain⟨t1,t2,t3,t4⟩:=ok.aG _ _ w1 e hw;have t5:=(ok.aP w1).2 e hw;obtain⟨i,hi,rfl⟩:=Xh.1 hw;have t6:=Gi ok (ok.aA _ _ w1).2.2.2.2.1 hi;exact⟨⟨t1,by omega⟩,⟨by omega,by omega⟩,⟨by omega,by omega⟩⟩
  ·rw[h.aA.es.2 c]at he;cases he
 ·obtain⟨a,b⟩:=h.aA.aC z;rcases b with b | ⟨t,w,w1,w2⟩;·omega
  ·have:=s.1 t w w1;omega
theorem ib.aG (h:ib c0 B K x){k:Nat}(hk:k<x.l.length){y:RX}{n K':Nat} (t:gH x.l[k].aA x.l[k].aF y) (f:y.aA.r.aD K') (hK:K<=K')
  (go:∀G:gx,G.c0=c0->G.ok->G.aL x.aC->G.aJ B->gE G x.aC x.l[k]->(∀m∈x.aA,kD G x.aC m)->iq n G x.aC (k+1) y):ib c0 (B+n) K' (x.aD k y.aA)/\ng x x.l[k].aA x.l[k].aF y.aA:=by
 obtain⟨⟨G,g0,ok,sm,hD,hm,hp,ht,hl⟩,len,mem,fit,Z,M⟩:=h;obtain⟨G',W,g,d1,d2,r2,a2,O,d5,d6,my,a1⟩:=(go G g0 ok hD sm (hm k hk) hp).aE hD;obtain⟨t1,t2,t3⟩:=t.aO;obtain⟨e1,e2,e3,e4,e5,e6⟩:=xu y;have ed:gT x.aC y.aA.r=gT x.aC y.r:=by unfold gT;rw[e3];show (if _ then (gA x.aC y.aA.r.aA.aA).take _ else _)=_;rw[e2]
 have at0:=my.aD;have hb0:=my.on.aA;have dn:=my.aE;have hlen:=my.aQ;have U:∀i (_:i<(gT x.aC y.r).length),∃t,(x.aJ++List.replicate ((gT x.aC y.r).length-x.aC.length) y.aA.r.aA.aC)[i]?=some t/\G'.aI t (i+1) (gT x.aC y.r):=by
  intro i hi;by_cases c:i<x.aC.length;·obtain⟨t,h1,h2⟩:=ht i c;refine⟨t,by rw[Vy (by omega)];exact h1,(h2.aC g).of ?_⟩;exact iX d1 (by omega)
  ·refine⟨y.aA.r.aA.aC,?_,?_⟩;·rw[Vp (by omega),WC,U4 (by omega)]
   ·have a5:(x.aC.length:Int)<y.r.aE:=by apply Vb;intro z;unfold gT at hi;rw[U6 z]at hi;exact c hi
    have de:gT x.aC y.r=(gn x.aC y.r).take y.r.aE.toNat:=by unfold gT;rw[U4 a5]
    have hi':i<y.r.aE.toNat:=by rw[de]at hi;simp only[Va]at hi;omega
    rw[e2];refine (my.aA.aA (Vi _) (show ((i:Int)+1)<=y.r.aE by omega)).of ?_;rw[de,VG];congr 1;omega
 have dl:(gT x.aC y.r).length=max x.aC.length y.r.aE.toNat:=by
  unfold gT;split;·simp only[Va];omega
  ·omega
 have C:y.aA.r.aI=2->∃l0,G'.aA y.aA.r.aA.aC=some ⟨y.aA.r.id,l0,gn (gT x.aC y.r) y.aA.r⟩:=λz=>r2.aA.aN z;have u:∀(i:Nat) t j,x.aE[i]?=some t->x.aF[i]?=some j->∃w,G'.aA t=some w/\w.id=j:=λi t j a b=>by obtain⟨w,w1,w2⟩:=hl i t j a b;obtain⟨l',q1,-,-⟩:=g.aA t w w1;exact⟨_,q1,w2⟩
 have a6:∀e∈y.aA.o.aF,e∈y.aA.r.aA.aA.es:=by
  intro e he;rcases t2 with⟨z,-⟩ | ⟨-,-,z⟩;·rw[z]at he;cases he
  ·rw[z]at he;rw[e2];unfold fA.aJ at he;split at he;·cases he
   ·exact VC (VR he)
 have gs:∀j (hj:j<(x.aD k y.aA).l.length) (E:j<x.l.length),(x.aD k y.aA).l[j]=if k=j then y.aA.r else x.l[j]:=λj hj E=>List.getElem_set (l:=x.l) (i:=k) (a:=y.aA.r) (j:=j) hj
 refine⟨⟨⟨G',g.c0.trans g0,W,a1 B sm,?_,?_,?_,?_,?_⟩,?_,?_,?_,?_,?_⟩,⟨t1,by rw[ed];exact d1,?_,λrole=>⟨?_,?_⟩,a6⟩⟩;·show G'.aL (gT x.aC y.aA.r);rw[ed];exact d2
 ·intro j hj;have E:j<x.l.length:=by simpa [gQ.aD] using hj
  rw[gs j hj E];show gE G' (gT x.aC y.aA.r) _;rw[ed];split;·exact r2.aA
  ·rename_i c;exact (hm j E).bA ok g d1 (by rw[(mem j E).1];omega)
 ·intro m a3;show kD G' (gT x.aC y.aA.r) m;rw[ed];rcases VK.1 a3 with z | z;·exact (hp m z).aC g d1
  ·exact r2.aC m z
 ·show ∀i (_:i<(gT x.aC y.aA.r).length),∃t,(x.aJ++List.replicate ((gT x.aC y.aA.r).length-x.aC.length) y.aA.r.aA.aC)[i]?=some t/\G'.aI t (i+1) (gT x.aC y.aA.r);rw[ed];exact U
 ·intro i t j a b;have a:(if y.aA.r.aI=2/\y.aA.r.aA.aC∉x.aE then x.aE++[y.aA.r.aA.aC] else x.aE)[i]?=some t:=a;have b:(if y.aA.r.aI=2/\y.aA.r.aA.aC∉x.aE then x.aF++[y.aA.r.id] else x.aF)[i]?=some j:=b;by_cases c:y.aA.r.aI=2/\y.aA.r.aA.aC∉x.aE
  ·rw[U4 c]at a b;by_cases ci:i<x.aE.length;·rw[Vy ci]at a;rw[Vy (by omega)]at b;exact u i t j a b
   ·rw[Vp (by omega)]at a;rw[Vp (by omega)]at b;have:i-x.aE.length=0:=by apply Vb;intro z;rw[VH (by simp;omega)]at a;cases a
    rw[this]at a;rw[M,this]at b;simp only[Vw,U_]at a b;obtain⟨l0,a4⟩:=C c.1;exact⟨_,by rw[<-a];exact a4,b⟩
  ·rw[U6 c]at a b;exact u i t j a b
 ·show (x.l.set k y.aA.r).length=5;rw[U9];exact len
 ·intro j hj;have E:j<x.l.length:=by simpa [gQ.aD] using hj
  rw[gs j hj E];split;·rename_i c;subst c;exact⟨a2,(LH t1).trans (mem _ hk).2.1,O⟩
  ·exact mem j E
 ·intro j hj;have E:j<x.l.length:=by simpa [gQ.aD] using hj
  rw[gs j hj E];split;·exact f
  ·exact (fit j E).aA hK
 ·show (x.aJ++List.replicate ((gT x.aC y.aA.r).length-x.aC.length) y.aA.r.aA.aC).length=(gT x.aC y.aA.r).length;rw[ed,U1,Wo,Z,dl];omega
 ·show (if y.aA.r.aI=2/\y.aA.r.aA.aC∉x.aE then x.aF++[y.aA.r.id] else x.aF).length=(if y.aA.r.aI=2/\y.aA.r.aA.aC∉x.aE then x.aE++[y.aA.r.aA.aC] else x.aE).length;split;·simp[M]
  ·exact M
 ·refine⟨y.r.aF.toNat,by rw[<-t3];omega,by omega,?_⟩;rw[ed];rcases t2 with⟨z1,z2⟩ | ⟨z1,z2,z3⟩;·rw[z1];refine⟨by rw[O,e3];show ((y.r.aF.toNat+0:Nat):Int)=_;omega,(λz=>absurd rfl z),(λi hi=>by cases hi),by rw[dl];show _=max _ (y.r.aF.toNat+0);omega⟩
  ·have s1:=my.on.aI (from_:=y.r.aF+1) (most:=y.r.aE-y.r.aF) (by omega) (by omega);have s2:y.aA.o.aF=((gn x.aC y.r).drop y.r.aF.toNat).take (y.r.aE-y.r.aF).toNat:=by rw[z3,s1];show ((gn x.aC y.r).drop _).take _=_;congr 2;omega
   have sl:y.aA.o.aF.length=(y.r.aE-y.r.aF).toNat:=by rw[s2];simp only[Va,Vo];omega
   refine⟨by rw[sl,O,e3];omega,λ_=>by rw[z2];omega,λi hi=>?_,by rw[dl,sl];omega⟩;rw[s2,VQ (by omega),Vt];exact mh d5 (by omega)
 ·intro i t j a b e;obtain⟨w,w1,w2⟩:=u i t j a b;obtain⟨l0,q⟩:=C role;rw[e,q]at w1;injection w1 with w1;rw[<-w2,<-w1]
 ·intro n e hn he t I hlt;rw[ed]at he I;obtain⟨hi,rfl⟩:=UY.1 he;obtain⟨t',h1,h2⟩:=U n hi;rw[h1]at I;injection I with I;subst I;obtain⟨l0,q⟩:=C role;obtain⟨q1,q2⟩:=W.aJ (h2.aA (Int.le_of_lt hlt) (Vi _)) q;have q3:=mh q1 (i:=n) (by omega);have q4:(gn (gT x.aC y.r) y.aA.r)[n]?=(gT x.aC y.r)[n]?:=q3.symm;have sl:=r2.aA.on.aI (from_:=(n:Int)+1) (most:=1) (by omega) (by omega);rw[sl,show ((n:Int)+1-1).toNat=n by omega,show (1:Int).toNat=1 from rfl];have q5:n<(gn (gT x.aC y.r) y.aA.r).length:=by have:(n+1:Int).toNat<=(gn (gT x.aC y.r) y.aA.r).length:=q2;omega
  have q6:(gA (gT x.aC y.r) y.aA.r.aA.aA).drop n=(gn (gT x.aC y.r) y.aA.r)[n] :: (gn (gT x.aC y.r) y.aA.r).drop (n+1):=Wh q5;rw[q6];rw[U0 q5,U0 hi]at q4;injection q4 with q4;simp[q4]
end
section
variable {c0:fq} {B K:Nat} {x:gQ}
theorem ib.aA {B' K':Nat}(h:ib c0 B K x)(hB:B<=B')(hK:K<=K'):ib c0 B' K' x:=by obtain⟨⟨G,g0,ok,sm,r⟩,len,mem,fit,th,ld⟩:=h;exact⟨⟨G,g0,ok,sm.aA hB,r⟩,len,mem,λk hk=>(fit k hk).aA hK,th,ld⟩
theorem ib.aF (h:ib c0 B K x){p:List fJ}(hp:∀a∈p,a∈x.aA):ib c0 B K {x with aA:=p}:=by obtain⟨⟨G,g0,ok,sm,a,b,c,d⟩,len,mem,fit,th,ld⟩:=h;exact⟨⟨G,g0,ok,sm,a,b,λm hm=>c m (hp m hm),d⟩,len,mem,fit,th,ld⟩
theorem ng.aG {x:gQ}{p:List fJ}{h0:fF}{a0:Int}{y:RX}(h:ng x h0 a0 y):ng {x with aA:=p} h0 a0 y:=⟨h.aC,h.aF,h.aA,h.aE,h.aD⟩
theorem ib.aH (h:ib c0 B K x)(hB:B<=2^30){m:fJ}(hm:m∈x.aA):m.aJ:=by obtain⟨⟨G,g0,ok,sm,a,b,c,d⟩,-⟩:=h;exact (c m hm).aI ok sm hB
theorem ib.aQ (h:ib c0 B K x)(hK:K+2<130000){k:Nat}(hk:k<x.l.length)(d:Int):ib c0 (B+2) (K+2) (x.aD k (x.l[k].aR d))/\ng x x.l[k].aA x.l[k].aF (x.l[k].aR d):=by
 have f:=h.aC k hk;have e:=(h.aD k hk).1;rw[IA];refine h.aG hk (gH.aV _ f (by omega) d) ?_ (by omega) (λG _ ok _ _ hm _=>?_);·rw[<-IA];exact fj.bC f (by omega) d
 ·have:=hm.bI ok d;rw[e]at this;exact this
theorem ib.aP (h:ib c0 B K x)(hB:B<=2^30)(hK:K+200<130000){k:Nat}(hk:k<x.l.length){m:fJ}(hm:m∈x.aA)(u:m.to=k+1){p:List fJ}(hp:∀a∈p,a∈x.aA):
  ib c0 (B+1) (K+200) (({x with aA:=p}:gQ).aD k (x.l[k].bt m))/\ng {x with aA:=p} x.l[k].aA x.l[k].aF (x.l[k].bt m):=by
 have f:=h.aC k hk;have e:=(h.aD k hk).1;have mf:=h.aH hB hm;have t:=h.aG hk (y:=x.l[k].aG.aU m) (n:=1) (K':=K+200) (gH.aU _ f (by omega) mf) (fj.bD f (by omega) mf) (by omega) (λG _ ok _ _ hr C=>by have:=(uL hr).aR ok (C m hm) (u.trans e.symm);rw[show x.l[k].aG.r.id=(k:Int)+1 from e]at this;exact this);have es:(x.l[k].aG.aU m).aA=x.l[k].bt m:=rfl;rw[es]at t;refine⟨?_,t.2.aG⟩;exact t.1.aF (p:=p++(x.l[k].bt m).o.aD) (λa ha=>by
  rcases VK.1 ha with z | z;·exact List.mem_append_left _ (hp a z)
  ·exact List.mem_append_right _ z)
theorem ib.aJ (h:ib c0 B K x)(hK:K+2<130000){k:Nat}(hk:k<x.l.length){kind:Int}{data:List Int}(hd:gF data/\data.length<=256)(u:0<=kind/\kind<=2) (hc:kind=2->pb x.l[k].aM (im data).1/\x.l[k].aA.of.2<=x.l[k].aE) (he:(x.l[k].aP kind data).2.2=0):
  ib c0 (B+1) (K+1) (x.aD k (x.l[k].aP kind data).2.1)/\ng x x.l[k].aA x.l[k].aF (x.l[k].aP kind data).2.1:=by
 have f:=h.aC k hk;have e:=(h.aD k hk).1;have es:x.l[k].aI=2/\(x.l[k].aP kind data).2.1=(x.l[k].bB kind data).aA:=by
  unfold fj.aP at he ⊢;by_cases c1:¬x.l[k].aI=2;·rw[U4 c1]at he;cases he
  ·rw[U6 c1]at he ⊢;by_cases c2:¬kind=1/\¬kind=2;·rw[U4 c2]at he;cases he
   ·rw[U6 c2]at he ⊢;by_cases c3:kind=2/\¬(im data).2=0;·rw[U4 c3]at he;cases he
    ·rw[U6 c3]at he ⊢;by_cases c4:2^40<=x.l[k].aL;·rw[U4 c4]at he;cases he
     ·rw[U6 c4];exact⟨by omega,rfl⟩
 rw[es.2];refine h.aG hk (gH.aQ _ f (by omega) ⟨hd.1,by omega⟩ ⟨by omega,by omega⟩) ?_ (by omega) (λG _ ok _ _ hm _=>?_);·refine (uV ?_).1;have g:=fj.aD.aT (x:=x.l[k].aG) f (by omega) (kind:=kind) (data:=data) ⟨hd.1,by omega⟩ ⟨by omega,by omega⟩;show ((x.l[k].aG.aF kind data).on).r.aW.aD (K+1);refine fj.aD.aR ?_;show (RX.aM _ _).r.aD _;rw[(tg _ _).1];exact g
 ·have:=hm.bG ok es.1 (kind:=kind) (data:=data) ⟨hd.1,hd.2,u⟩ hc;rw[e]at this;exact this
theorem ib.aM (h:ib c0 B K x)(hK:K+2<130000){k:Nat}(hk:k<x.l.length){i:Int}{sn:List Int}(hs:gF sn/\sn.length<=1)(he:(x.l[k].aT i sn).2=0):
  ib c0 B K (x.aD k (x.l[k].aT i sn).1)/\ng x x.l[k].aA x.l[k].aF (x.l[k].aT i sn).1:=by
 have f:=h.aC k hk;have e:=(h.aD k hk).1;have c:¬(i<=x.l[k].aA.aA.aA\/x.l[k].aF<i):=by intro z;unfold fj.aT at he;rw[U4 z]at he;cases he
 have cr:(({x.l[k].aA with aA:={x.l[k].aA.aA with es:=x.l[k].aA.aA.es.take (i-x.l[k].aA.aA.aA).toNat}}:fF).of.1).aE=true:=(fF.aO (x:={x.l[k].aA with aA:={x.l[k].aA.aA with es:=x.l[k].aA.aA.es.take (i-x.l[k].aA.aA.aA).toNat}}) f.aE).1;have es:(x.l[k].aT i sn).1=(x.l[k].aG.aQ i (x.l[k].aA.aA.aH i) (({x.l[k].aA with aA:={x.l[k].aA.aA with es:=x.l[k].aA.aA.es.take (i-x.l[k].aA.aA.aA).toNat}}:fF).of.1) sn).aA:=by unfold fj.aT;rw[U6 c]
 rw[es];have t:=h.aG hk (n:=0) (K':=K) (gH.aN _ f (by omega) (i:=i) (sn:=sn) ⟨by omega,by omega⟩ cr ⟨hs.1,by omega⟩) ?_ (U8 _) (λG _ ok _ _ hm _=>by have:=hm.bu ok (index:=i) (by omega) (by omega) hs;rw[e]at this;exact this);·exact t
 ·exact (uV (FU f ⟨hs.1,by omega⟩ ⟨by omega,by omega⟩ cr)).1
theorem ib.aL (h:ib c0 B K x){k:Nat}(hk:k<x.l.length)(d:Int):ib c0 B K {x with l:=x.l.set k (fj.aQ (k+1) x.l[k].aA d)}:=by
 obtain⟨⟨G,g0,ok,sm,a,b,c,d1⟩,len,mem,fit,th,ld⟩:=h;have e:=(mem k hk).1;have gs:∀j (hj:j<(x.l.set k (fj.aQ (k+1) x.l[k].aA d)).length) (u:j<x.l.length),(x.l.set k (fj.aQ (k+1) x.l[k].aA d))[j]=if k=j then fj.aQ (k+1) x.l[k].aA d else x.l[j]:=λj hj u=>List.getElem_set hj
 refine⟨⟨G,g0,ok,sm,a,λj hj=>?_,c,d1⟩,by show (x.l.set k _).length=5;rw[U9];exact len,λj hj=>?_,λj hj=>?_,th,ld⟩
 ·have u:j<x.l.length:=by simpa using hj
  rw[gs j hj u];split;·have:=(b k hk).bF d;rw[e]at this;exact this
  ·exact b j u
 ·have u:j<x.l.length:=by simpa using hj
  rw[gs j hj u];split;·rename_i c;subst c;exact⟨rfl,(mem k hk).2.1,rfl⟩
  ·exact mem j u
 ·have u:j<x.l.length:=by simpa using hj
  rw[gs j hj u];split;·obtain⟨h1,h2,h3,h4,h5,h6,h7,h8,h9,h10,h11,h12,h13,h14,C⟩:=fit k hk;rw[e]at C;exact⟨h1,h2,h3,h4,h5,h6,h7,h8,⟨Vi _,Vi _,by show x.l[k].aA.aA.aA<=x.l[k].aA.aA.aC;omega⟩,⟨by show (0:Int)<=0;omega,by show (0:Int)<=_;omega⟩,⟨by show (0:Int)<=0;omega,by show (0:Int)<=1;omega⟩,⟨by show (0:Int)<=0;omega,by show (0:Int)<=_;omega⟩,Vk _,⟨Vk _,λw hw=>by cases hw⟩,C⟩
  ·exact fit j u
end
section
variable {x:RX} {n:Nat} {m:fJ}
def RX.aE (n:Nat)(x:RX):Prop:=x.o.aC.length<=n
theorem RX.aE.aA {n':Nat}(h:x.aE n)(hn:n<=n'):x.aE n':=Vh h hn
theorem RX.aE.aE (h:x.aE n)(t v:Int):(x.aJ t v).aE (n+1):=by show (x.o.aC++[_]).length<=n+1;have:x.o.aC.length<=n:=h;simp;omega
theorem RX.aE.aD:∀{l:List fV}{x:RX},x.aE n->(x.aM l).aE n:=by
 intro l;induction l with
 | nil=>intro x t;exact t
 | cons f l ih=>intro x t;exact ih (x:=x.to f) t
theorem RX.aE.aN:∀{l:List fJ}{x:RX},x.aE n->(x.aL l).aE n:=by
 intro l;induction l with
 | nil=>intro x t;exact t
 | cons f l ih=>intro x t;exact ih (x:=x.aH f) t
theorem RX.aE.aF (h:x.aE n)(k:Int)(d:List Int):(x.aF k d).aE (n+1):=by
 have h':x.o.aC.length<=n:=h;have e:(x.aF k d).o.aC=x.o.aC++[{({gi.aI with aC:=2,aE:=x.r.aL+1,aA:=⟨0,0,(x.r.aA.aA.aE x.r.aL [⟨x.r.aA.aC,k,d⟩]).aJ (x.r.aL+1) 1⟩}:gi) with aH:=x.r.aA.aE}]:=by unfold RX.aF;simp only;split<;>rfl
 show (x.aF k d).o.aC.length<=n+1;rw[e];simp;omega
theorem RX.aE.aG (h:x.aE n):x.aN.aE (n+1):=by have h1:({x with r:=({x.r with aI:=2,aV:=x.r.id,aN:=0,aH:=[],aC:=[]}:fj).a_ [] x.r.aL}:RX).aE n:=h;exact RX.aE.aD (h1.aF 0 [])
theorem RX.aE.aO (h:x.aE n)(d:Int):(x.aW d).aE (n+2):=by
 have h1:=h.aE (x.r.aA.aC+1) x.r.id;unfold RX.aW;simp only;split;·exact RX.aE.aG (n:=n+1) h1
 ·exact RX.aE.aA (n:=n+1) (RX.aE.aN h1) (by omega)
theorem RX.aE.aC (h:x.aE n):x.aA.aE n:=by unfold RX.aA;simp only;split<;>exact h
theorem RX.aE.aQ (r:fj)(d:Int):(r.aR d).aE 2:=by
 unfold fj.aR;split
 ·refine RX.aE.aC ?_;split;·exact RX.aE.aD (n:=2) (x:=({r with aN:=0}:fj).aG) (Vk _)
  ·exact Vk _
 ·simp only;refine RX.aE.aC ?_;split;·exact RX.aE.aO (n:=0) (x:=({r with aK:=r.aK+1}:fj).aG) (Vk _) d
  ·exact Vk _
theorem RX.aE.aJ (h:x.aE n):(x.aT m).aE (n+1):=by
 unfold RX.aT;simp only;show RX.aE (n+1) (if _ then _ else x);split
 ·split;·exact h.aA (by omega)
  ·exact RX.aE.aE (x:={x with r:={x.r with aK:=0}}) h _ _
 ·exact h.aA (by omega)
theorem RX.aE.aR (h:x.aE n):(x.aV m).aE (n+1):=by
 unfold RX.aV;split;·exact h.aA (by omega)
 ·simp only;split;·exact RX.aE.aG (x:={x with r:={x.r with aH:=x.r.aH++[m.aC]}}) h
  ·exact h.aA (by omega)
theorem RX.aE.aL (h:x.aE n):(x.aO m).aE n:=by
 unfold RX.aO;split;·exact h
 ·split;·exact h
  ·simp only;have key:∀(z:RX),z.o=x.o->∀(c:Prop) [Decidable c] (f:fV),RX.aE n (if c then z.to f else z):=λz e c _ f=>by
    have:z.aE n:=by show z.o.aC.length<=n;rw[e];exact h
    split<;>exact this
   refine key _ ?_ _ _;split<;>rfl
theorem RX.aE.aI (h:x.aE n):(x.aI m).aE (n+1):=by
 have h':x.o.aC.length<=n:=h;unfold RX.aI;split;·exact h.aA (n:=n) (by omega)
 ·split;·exact h.aA (n:=n) (by omega)
  ·simp only;split;·exact h.aA (by omega)
   ·show RX.aE (n+1) (if _ then _ else x);split;·show (x.o.aC++[_]).length<=n+1;simp;omega
    ·exact h.aA (by omega)
theorem RX.aE.aM (h:x.aE n):(x.aP m).aE (n+1):=by
 have h':x.o.aC.length<=n:=h;unfold RX.aP;split;·exact h.aA (n:=n) (by omega)
 ·simp only;split;·exact h.aA (by omega)
  ·show (x.o.aC++[_]).length<=n+1;simp;omega
theorem RX.aE.aP (r:fj)(m:fJ):(r.bt m).aE 2:=by
 unfold fj.bt;refine RX.aE.aC ?_;have h0:r.aG.aE 0:=Vk _;unfold RX.aU;split;·exact h0.aA (by omega)
 ·simp only;have h1:RX.aE 1 (if r.aG.r.aA.aC<m.aG then (r.aG.aJ m.aG 0).aR 0 else r.aG):=by
   split;·exact h0.aE m.aG 0
   ·exact h0.aA (by omega)
  generalize (if r.aG.r.aA.aC<m.aG then (r.aG.aJ m.aG 0).aR 0 else r.aG)=y at *;split
  ·split;·exact h1.aA (by omega)
   ·split<;>exact h1.aA (by omega)
  ·split;·exact h1.aJ
   ·split;·exact h1.aR
    ·split;·exact h1.aL.aA (by omega)
     ·split;·exact h1.aA (by omega)
      ·split;·exact RX.aE.aI (x:=⟨{y.r.aU m.aC with aK:=0},y.o⟩) h1
       ·exact RX.aE.aM (x:=⟨{y.r.aU m.aC with aK:=0},y.o⟩) h1
theorem RX.aE.aH (r:fj)(k:Int)(d:List Int):(r.aP k d).2.1.aE 1:=by
 unfold fj.aP;split;·exact Vk _
 ·split;·exact Vk _
  ·split;·exact Vk _
   ·split;·exact Vk _
    ·refine RX.aE.aC ?_;exact RX.aE.aD (RX.aE.aF (n:=0) (x:=r.aG) (Vk _) k d)
theorem RX.aE.aK (r:fj)(i:Int)(s:List Int):(r.aT i s).1.aE 1:=by
 unfold fj.aT;split;·exact Vk _
 ·simp only;refine RX.aE.aC ?_;show (([]:List gi)++[_]).length<=1;simp
end
section
variable {x:RX} {n:Nat} {m:fJ}
def RX.aD (n:Nat)(x:RX):Prop:=x.o.aD.length<=n
theorem RX.aD.aA {n':Nat}(h:x.aD n)(hn:n<=n'):x.aD n':=Vh h hn
theorem RX.aD.aC (h:x.aD n)(m:fJ):(x.aH m).aD (n+1):=by show (x.o.aD++[_]).length<=n+1;have:x.o.aD.length<=n:=h;simp;omega
theorem RX.aD.aE:∀{l:List fV}{x:RX}{n:Nat},x.aD n->(x.aM l).aD (n+l.length):=by
 intro l;induction l with
 | nil=>intro x n t;exact t
 | cons f l ih=>intro x n t;exact (ih (x:=x.to f) (RX.aD.aC t _)).aA (by simp;omega)
theorem RX.aD.aN:∀{l:List fJ}{x:RX}{n:Nat},x.aD n->(x.aL l).aD (n+l.length):=by
 intro l;induction l with
 | nil=>intro x n t;exact t
 | cons f l ih=>intro x n t;exact (ih (x:=x.aH f) (RX.aD.aC t _)).aA (by simp;omega)
theorem G_ (r:fj)(was:List fV)(i:Int)(h:r.aA.aD.aE=true):(r.a_ was i).aC.length<=21:=by show ((r.aM.aQ.filter _).map _).length<=21;rw[Vg];exact Vh (Wz _ _) (CD (fF.aO h).1)
theorem RX.aD.aF (h:x.aD n)(k:Int)(d:List Int):(x.aF k d).aD n:=by unfold RX.aF;simp only;split<;>exact h
theorem GU (k:Int)(d:List Int)(hc:x.r.aA.aD.aE=true)(hf:x.r.aC.length<=21):(x.aF k d).r.aC.length<=21:=by
 unfold RX.aF;simp only;split;·exact G_ _ _ _ hc
 ·exact hf
theorem RX.aD.aG (h:x.aD n)(hc:x.r.aA.aD.aE=true):x.aN.aD (n+21):=by have h1:({x with r:=({x.r with aI:=2,aV:=x.r.id,aN:=0,aH:=[],aC:=[]}:fj).a_ [] x.r.aL}:RX).aD n:=h;exact (RX.aD.aE (h1.aF 0 [])).aA (Nat.add_le_add_left (GU (x:={x with r:=({x.r with aI:=2,aV:=x.r.id,aN:=0,aH:=[],aC:=[]}:fj).a_ [] x.r.aL}) 0 [] hc (G_ _ _ _ hc)) _)
theorem RX.aD.aO (h:x.aD n)(hc:x.r.aA.aD.aE=true)(d:Int):(x.aW d).aD (n+21):=by
 obtain⟨z,hz⟩:∃z:RX,z={(x.aJ (x.r.aA.aC+1) x.r.id).aR 0 with r:={((x.aJ (x.r.aA.aC+1) x.r.id).aR 0).r with aI:=1,aK:=0,aX:=mi d,aH:=[x.r.id]}}:=⟨_,rfl⟩;have e:x.aW d=if z.r.aM.aH z.r.aH then z.aN else z.aL (kh z.r.id z.r.aA.aE z.r.aA.aC z.r.aA.aA z.r.aM):=by rw[hz];rfl
 have h1:z.aD n:=by rw[hz];exact h
 have h2:z.r.aA.aD.aE=true:=by rw[hz];exact hc
 rw[e];split;·exact h1.aG h2
 ·refine (RX.aD.aN h1).aA (Nat.add_le_add_left ?_ _);unfold kh;rw[Vg];exact Vh (Wz _ _) (Vh (ye (fF.aO h2).1) (by decide))
theorem RX.aD.aD (h:x.aD n):x.aA.aD n:=by unfold RX.aA;simp only;split<;>exact h
theorem RX.aD.aQ (r:fj)(hc:r.aA.aD.aE=true)(hf:r.aC.length<=21)(d:Int):(r.aR d).aD 21:=by
 unfold fj.aR;split
 ·refine RX.aD.aD ?_;split;·exact (RX.aD.aE (n:=0) (l:=r.aC) (x:=({r with aN:=0}:fj).aG) (Vk _)).aA (by omega)
  ·exact Vk _
 ·simp only;refine RX.aD.aD ?_;split;·exact RX.aD.aO (n:=0) (x:=({r with aK:=r.aK+1}:fj).aG) (Vk _) hc d
  ·exact Vk _
theorem RX.aD.aJ (h:x.aD n):(x.aT m).aD (n+1):=by
 unfold RX.aT;simp only;refine RX.aD.aC (n:=n) ?_ _;split;·split<;>exact h
 ·exact h
theorem RX.aD.aR (h:x.aD n)(hc:x.r.aA.aD.aE=true):(x.aV m).aD (n+21):=by
 unfold RX.aV;split;·exact h.aA (by omega)
 ·simp only;split;·exact RX.aD.aG (x:={x with r:={x.r with aH:=x.r.aH++[m.aC]}}) h hc
  ·exact RX.aD.aA (n:=n) h (by omega)
theorem RX.aD.aL (h:x.aD n):(x.aO m).aD (n+1):=by
 unfold RX.aO;split;·exact h.aA (by omega)
 ·split;·exact h.aA (by omega)
  ·simp only;have key:∀(z:RX),z.o=x.o->∀(c:Prop) [Decidable c] (f:fV),RX.aD (n+1) (if c then z.to f else z):=λz e c _ f=>by
    have:z.aD n:=by show z.o.aD.length<=n;rw[e];exact h
    split;·exact this.aC _
    ·exact this.aA (by omega)
   refine key _ ?_ _ _;split<;>rfl
theorem RX.aD.aI (h:x.aD n):(x.aI m).aD (n+1):=by
 unfold RX.aI;split;·exact h.aC _
 ·split;·exact h.aC _
  ·simp only;split;·exact h.aA (by omega)
   ·refine RX.aD.aC (n:=n) ?_ _;show RX.aD n (if _ then _ else x);split<;>exact h
theorem RX.aD.aM (h:x.aD n):(x.aP m).aD (n+1):=by
 unfold RX.aP;split;·exact h.aC _
 ·simp only;split;·exact h.aA (by omega)
  ·exact RX.aD.aC (n:=n) (x:=⟨{(x.aQ m.aA m.aH (im (iL m.aF).1).1 (iL m.aF).2.1).r with aE:=m.aA,aF:=m.aA},{(x.aQ m.aA m.aH (im (iL m.aF).1).1 (iL m.aF).2.1).o with aA:=true}⟩) h _
theorem RX.aD.aP (r:fj)(hc:r.aA.aD.aE=true)(m:fJ):(r.bt m).aD 21:=by
 unfold fj.bt;refine RX.aD.aD ?_;have h0:r.aG.aD 0:=Vk _;unfold RX.aU;split;·exact h0.aA (by omega)
 ·simp only;have h1:RX.aD 0 (if r.aG.r.aA.aC<m.aG then (r.aG.aJ m.aG 0).aR 0 else r.aG)/\(if r.aG.r.aA.aC<m.aG then (r.aG.aJ m.aG 0).aR 0 else r.aG).r.aA.aD.aE=true:=by split<;>exact⟨h0,hc⟩
  generalize (if r.aG.r.aA.aC<m.aG then (r.aG.aJ m.aG 0).aR 0 else r.aG)=y at *;obtain⟨h1,h2⟩:=h1;split
  ·split;·exact (h1.aC _).aA (by omega)
   ·split;·exact (h1.aC _).aA (by omega)
    ·exact h1.aA (by omega)
  ·split;·exact h1.aJ.aA (by omega)
   ·split;·exact h1.aR h2
    ·split;·exact h1.aL.aA (by omega)
     ·split;·exact h1.aA (by omega)
      ·split;·exact (RX.aD.aI (x:=⟨{y.r.aU m.aC with aK:=0},y.o⟩) h1).aA (by omega)
       ·exact (RX.aD.aM (x:=⟨{y.r.aU m.aC with aK:=0},y.o⟩) h1).aA (by omega)
theorem RX.aD.aH (r:fj)(hc:r.aA.aD.aE=true)(hf:r.aC.length<=21)(k:Int)(d:List Int):(r.aP k d).2.1.aD 21:=by
 unfold fj.aP;split;·exact Vk _
 ·split;·exact Vk _
  ·split;·exact Vk _
   ·split;·exact Vk _
    ·refine RX.aD.aD ?_;exact (RX.aD.aE (RX.aD.aF (n:=0) (x:=r.aG) (Vk _) k d)).aA (by have:=GU (x:=r.aG) k d hc hf;omega)
theorem RX.aD.aK (r:fj)(i:Int)(s:List Int):(r.aT i s).1.aD 0:=by
 unfold fj.aT;split;·exact Vk _
 ·simp only;refine RX.aD.aD ?_;exact Vk _
end
end Glb
