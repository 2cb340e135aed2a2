/-
  A library of its own.
-/
import Derived.Test.YtdeiamnhnfmilaaGreatGlbNetA
set_option linter.unusedSimpArgs false
set_option linter.unusedVariables false
set_option maxRecDepth 10000
set_option maxHeartbeats 8000000
namespace Glb
open Go
def we (F:Nat->Prop)(h h':eX):Prop:=∀m,F m->∀x:e_,h[m]?=some (some x)->h'[m]?=some (some x)
mutual
theorem Rd.aN {F F':Nat->Prop}{h h':eX}(hF:∀m,F m->F' m)(hk:we F h h'):∀(d:D)(av:AV),Rd F h d av->Rd F' h' d av
 | .aA _ _,_,hh=>hh
 | .aE _,_,hh=>hh
 | .aF _,_,hh=>hh
 | .sl _ ds,_,hh=>by
  simp only[Rd]at hh ⊢;obtain⟨es,h1,h2⟩:=hh;refine⟨es,?_,fY.aC hF hk ds es h2⟩;rcases h1 with h1 | h1 | ⟨n,off,len,cap,row,g,e1,e2,e3,e4⟩
  ·exact .inl h1
  ·exact .inr (.inl h1)
  ·exact .inr (.inr ⟨n,off,len,cap,row,g,e1,hF n e2,hk n e2 _ e3,e4⟩)
theorem fu.aD {F F':Nat->Prop}{h h':eX}(hF:∀m,F m->F' m)(hk:we F h h'):∀(ds:List D)(l:List AV),fu F h ds l->fu F' h' ds l
 | [],_,hh=>hh
 | d :: ds,_,hh=>by simp only[fu]at hh ⊢;obtain⟨a,r,h1,h2,h3⟩:=hh;exact⟨a,r,h1,Rd.aN hF hk d a h2,fu.aD hF hk ds r h3⟩
theorem fY.aC {F F':Nat->Prop}{h h':eX}(hF:∀m,F m->F' m)(hk:we F h h'):∀(ds:List (List D)) (l:List (List AV)),fY F h ds l->fY F' h' ds l
 | [],_,hh=>hh
 | d :: ds,_,hh=>by simp only[fY]at hh ⊢;obtain⟨a,r,h1,h2,h3⟩:=hh;exact⟨a,r,h1,fu.aD hF hk d a h2,fY.aC hF hk ds r h3⟩
end
section
variable {Λ:Nat->Nat} {h:eX} {nb n:Nat} {w:f_} {v:i9}
theorem Ge (hn:h[n]?=some none) (y:e_):we (Zs Λ h) h (h.set n (some y)):=λm hm z hz=>by
 have:m≠n:=λe=>by rw[e,hn]at hz;cases hz
 rw[UZ (λe=>this e.symm)];exact hz
theorem Gf (y:Option e_):∀m,Zs Λ h m->Zs Λ (h.set n y) m:=λm hm=>⟨hm.1,by rw[U9];exact hm.2⟩
theorem Ci (hn:h[n]?=some none) (y:e_) {d:D} {a:AV} (hr:Rd (Zs Λ h) h d a):Rd (Zs Λ (h.set n (some y))) (h.set n (some y)) d a:=Rd.aN (Gf _) (Ge hn y) _ _ hr
theorem fW.bD (a:fW Λ h nb w v) (hn:h[n]?=some none) (hz:Λ n=0) (y:e_):fW Λ (h.set n (some y)) nb w v:=by have hs:∀m,Λ m≠0->(h.set n (some y))[m]?=h[m]?:=λm hm=>UZ (λe=>hm (by rw[<-e];exact hz));have cc:∀{j sz:Nat}{b:AV} {es:List (List AV)},j≠0->gC (λm=>Λ m=j) h sz b es->gC (λm=>Λ m=j) (h.set n (some y)) sz b es:=λhj c=>c.aA (λ_ hm _=>hm) (λm hm _=>hs m (by have u:Λ m=_:=hm;rw[u];exact hj));have kz:=Ge (Λ:=Λ) hn y;have zz:=Gf (Λ:=Λ) (h:=h) (n:=n) (some y);obtain⟨hr,h1,h2⟩:=a.aJ;obtain⟨pr,p1,p2⟩:=a.aH;obtain⟨dr,d1,d2⟩:=a.aI;refine⟨λm hm=>by rw[U9];exact a.lt m hm,a.aC,(hs nb (by rw[a.aC];decide)).trans a.aA,a.aE,cc (by decide) a.l,λk k1 k2=>?_,⟨hr,cc (by decide) h1,fY.aC zz kz _ _ h2⟩,cc (by decide) a.aL,⟨pr,cc (by decide) p1,fY.aC zz kz _ _ p2⟩,⟨dr,cc (by decide) d1,fY.aC zz kz _ _ d2⟩,cc (by decide) a.aN,cc (by decide) a.aK,cc (by decide) a.aM⟩;exact (a.aF k k1 k2).aC (by rw[U9];exact U8 _) (λm hm=>hs m (λe=>hm (by unfold gB;rw[e];split<;>omega)))
theorem fW.aU {H H0 h':eX}{k:Nat}{y:RX}{res:AV}(a:fW Λ H0 nb w v)(X:eW eZ H H0)(hn:H.length<=n) (hb:H0[n]?=some none) (hz:Λ n=0) (hk:k<w.rs.length) (E:k<v.l.length) (b:jU (gB k Λ) H0 w.rs[k] y res h'):
  ∃Λ' ma ca aa,res=.aF [ma,ca,aa,.aA .i64 y.o.aE,.aE y.o.aA]/\(ma.aH=true/\ca.aH=true/\aa.aH=true)/\h'[n]?=some none/\(∀m,m<H0.length->Λ m=0->h'[m]?=H0[m]?) /\
   ∀z:e_,gy Λ H Λ' (h'.set n (some z))/\fW Λ' (h'.set n (some z)) nb w {v with l:=v.l.set k y.r}/\Rd (Zs Λ' (h'.set n (some z))) (h'.set n (some z)) (td y.o.aD) ma/\Rd (Zs Λ' (h'.set n (some z))) (h'.set n (some z)) (nS y.o.aC) ca/\Rd (Zs Λ' (h'.set n (some z))) (h'.set n (some z)) (gK y.o.aF) aa:=by
 obtain⟨Λ',ma,ca,aa,e,s1,a1,r1,r2,r3⟩:=a.aZ hk E b;have nl:=(UY.1 hb).1;have u:h'[n]?=some none:=(s1.z n nl hz).trans hb;have C:Λ' n=0:=(s1.aC n nl).trans hz;refine⟨Λ',ma,ca,aa,e,⟨r1.aA,r2.aA,r3.aA⟩,u,s1.z,λz=>⟨⟨?_,λm hm=>s1.aC m (Vj hm X.1),λm hm h0=>?_,λm hm h0=>?_⟩,a1.bD u C z,Ci u z r1,Ci u z r2,Ci u z r3⟩⟩;·rw[U9];exact Vh X.1 s1.aD
 ·rw[UZ (by omega)];exact (s1.z m (Vj hm X.1) h0).trans (X.2 m hm (λy=>y))
 ·rw[UZ (by omega)];exact (s1.aG m (Vj hm X.1) h0).trans (X.2 m hm (λy=>y))
end
def gQ.aI (x:gQ)(k:Nat):fj:=(x.l[k]?).getD ⟨0,⟨0,0,0,⟨0,0,[]⟩,⟨[],[],[]⟩,[]⟩,0,0,0,0,0,0,[],[],0,0⟩
theorem gQ.aL {x:gQ}{k:Nat}(h:k<x.l.length):x.aI k=x.l[k]:=by unfold gQ.aI;rw[U0 h];rfl
theorem Tn {P:Program}{ft fn:FuncId}(ut:sF P ft)(un:lF P fn){Λ:Nat->Nat}{h:eX}{nb N k r:Nat}{w:f_}{x:gQ}{c0:fq}{B K:Nat}{d:Int}{KK:AV->eX->Prop}(a:fW Λ h nb w (iA x))(ok:ib c0 B K x)(bb:ju N x)(hK:K+200<130000)(hN:N<4000)(hk:k<x.l.length) (hr:w.rs[k]?=some r) (hm:iI (gB k Λ) h r x.l[k])
  (I:∀v h',jU (gB k Λ) h r (x.l[k].aR d) v h'->(∀m,m<h.length->Λ m=0->h'[m]?=h[m]?)->
   (∀{K2:AV->eX->Prop},(∀v2 Λ2 h2 w2,gy Λ h Λ2 h2->w2.rs=w.rs->fW Λ2 h2 nb w2 (iA (x.aD k (x.l[k].aR d)))->ib c0 (B+2) (K+200) (x.aD k (x.l[k].aR d))->ju (N+1) (x.aD k (x.l[k].aR d))->K2 v2 h2)->mI P fn [.aC nb 9 0 0,.aA .i64 k,v] h' K2)->KK v h'):mI P ft [.aC r 21 0 0,.aA .i64 d] h KK:=by
 have f:=ok.aC k hk;refine fy ⟨ut.1,ut.2 (gB k Λ) h r x.l[k] K d hm f (by omega)⟩ ?_;intro v h' ro;obtain⟨o1,o2⟩:=ok.aQ (by omega) hk d;obtain⟨C,er⟩:=UY.1 hr;refine I v h' ro (λm hm hz=>?_) (fun {K2} E=>?_);·obtain⟨_,_,_,_,_,_,_,_,_,_,_,hx⟩:=id ro;refine hx.2 m hm (λy=>y ?_);unfold gB;rw[hz];split<;>omega
 ·have u:jU (gB k Λ) h w.rs[k] (x.l[k].aR d) v h':=by rw[er];exact ro
  exact un.aC a ok o1 hk o2 (by omega) bb hN (RX.aE.aQ _ _) (RX.aD.aQ _ f.aE f.aG.1 _) C u (λv7 Λ7 h7 w7 s7 e a7 b7=>E v7 Λ7 h7 w7 s7 e a7 (o1.aA (by omega) (by omega)) b7)
theorem fW.bG {Λ:Nat->Nat}{H:eX}{nb i:Nat}{w:f_}{x:gQ}(a1:fW Λ H nb w (iA x))(hi:i<x.aA.length)(bp:x.aA.length<=2^30):∃v1 v2 v3 h3 v4 h4 Λ5,
  (ie 17 w.pv none (some (i:Int)) none=some v1/\v1.aH=true/\ie 17 w.pv (some ((i+1:Nat):Int)) none none=some v2/\v2.aH=true) /\
  (nR (H++[some (e_.aA 17 [] false)]) 17 168 (.aG H.length 17 0 0 (some 0)) v1=some (v3,h3)/\v3.aH=true/\nR h3 17 168 v3 v2=some (v4,h4)/\v4.aH=true)/\h3[nb]?=some (some (.aA 9 [w.aA] false))/\h4[nb]?=some (some (.aA 9 [w.aA] false))/\nb<h4.length /\
  gy Λ H Λ5 (h4.set nb (some (.aA 9 [({w with pv:=v4}:f_).aA] false)))/\fW Λ5 (h4.set nb (some (.aA 9 [({w with pv:=v4}:f_).aA] false))) nb {w with pv:=v4} (iA (x.aG i)):=by
 have u:=a1.aA;obtain⟨rows,p1,p2⟩:=a1.aH;have lrows:rows.length=x.aA.length:=by have:=kM p2;simpa [iA] using this
 obtain⟨H1,E⟩:∃H1,H1=H++[some (e_.aA 17 [] false)]:=⟨_,rfl⟩;have X2:eW eZ H H1:=by rw[E];exact eW.b1 _
 have hl2:H1.length=H.length+1:=by rw[E];simp
 have cz:gC (λm=>H.length<=m) H1 17 (.aG H.length 17 0 0 (some 0)) []:=.inr ⟨H.length,0,some 0,[],false,rfl,U8 _,by rw[E];exact gJ _ _,by simp,(λc hc=>by simp),(λhc=>by cases hc),(λc hc=>by cases hc;simp),rfl⟩;have M:gC (λm=>Λ m=105) H1 17 w.pv rows:=p1.aA (λ_ y _=>y) (λm _ hlt=>X2.2 m hlt (λy=>y));obtain⟨v1,q1,q2,q3⟩:=M.aH (i:=i) (by omega);obtain⟨v3,h3,g1,c3,x3⟩:=cz.aC (bytes:=168) (ys:=rows.take i) (eW.aC _ H1) (by simp only[Ve,Va];omega);rw[<-iv q2,E]at g1;have X3:eW eZ H h3:=X2.aJ x3 (λm hm C=>by have:H.length<=m:=C;omega);have p3:gC (λm=>Λ m=105) h3 17 w.pv rows:=p1.aA (λ_ y _=>y) (λm _ hlt=>X3.2 m hlt (λy=>y));obtain⟨v2,r1,r2,r3⟩:=p3.aI (i:=i+1) (by omega);obtain⟨v4,h4,g2,c4,x4⟩:=c3.aC (bytes:=168) (ys:=rows.drop (i+1)) (eW.aC _ h3) (by simp only[Wd,Va,Vo];omega);rw[<-iv r2]at g2;have X4:eW eZ H h4:=X3.aJ x4 (λm hm C=>by have hm'':(H.length<=m/\m<H1.length)\/H1.length<=m:=C;omega);have e:=X4.aA u;obtain⟨Λ5,t1,t2⟩:=a1.aY (ms:=x.aA.take i++x.aA.drop (i+1)) (rows:=[]++rows.take i++rows.drop (i+1)) X4 (c4.aA (λm hm _=>by have C:((H.length<=m/\m<H1.length)\/H1.length<=m)/\m<h3.length\/h3.length<=m:=hm;show H.length<=m;have:=X3.1;omega) (λ_ _ _=>rfl)) (by rw[Wd,VJ,Wv,W4];have I:fY (Zs Λ H) h4 (x.aA.map fJ.c) rows:=fY.aA (λ_ y=>y) (X4.aE _) _ _ p2;exact uB (za I i) (y_ I (i+1)));exact⟨v1,v2,v3,h3,v4,h4,Λ5,⟨q1,q3,r1,r3⟩,⟨g1,c3.aE,g2,c4.aE⟩,X3.aA u,e,(UY.1 e).1,t1,t2⟩
theorem ju.aG {N i:Nat}{x:gQ}(bb:ju N x):ju N (x.aG i):=⟨by have:=bb.aA;show (x.aA.take i++x.aA.drop (i+1)).length<=_;simp only[U1,Va,Vo];omega,bb.aE,bb.aD⟩
theorem ib.aO {c0:fq}{B K i:Nat}{x:gQ}(ok:ib c0 B K x):ib c0 B K (x.aG i):=ok.aF λy hy=>by
 rcases VK.1 hy with hy | hy;·exact VR hy
 ·exact VC hy
structure gQ.aM (x:gQ)(q:Int)(k i:Nat)(d:Int)(x':gQ):Prop where
 aG:q<=1->x'=x.aD k ((x.aI k).aR d)
 aC:2<=q/\q<=4->x'=if h:i<x.aA.length then x.aH i x.aA[i] else x
 aE:q=5->x'=x.aG i
 aH:q=6->x'=if h:i<x.aA.length/\x.aA.length<300 then {x with aA:=x.aA++[x.aA[i]'h.1]} else x
 aF:q=7->x'=if ((x.aI k).aP 1 [d % 256]).2.2=0 then x.aD k ((x.aI k).aP 1 [d % 256]).2.1 else x
 aA:q=8->x'={x with l:=x.l.set k (fj.aQ (k+1) (x.aI k).aA d)}
 aD:q=9->x'=if ((x.aI k).aT ((x.aI k).aF-jb d 5) [d % 256]).2=0 then x.aD k ((x.aI k).aT ((x.aI k).aF-jb d 5) [d % 256]).1 else x
def jQ (Λ:Nat->Nat)(h:eX)(nb N:Nat)(w:f_)(x:gQ)(c0:fq)(B K:Nat)(kd:Int)(k i:Nat)(d:Int)(h':eX):Prop:=∃Λ' w' x',gy Λ h Λ' h'/\w'.rs.length=w.rs.length/\fW Λ' h' nb w' (iA x')/\ib c0 (B+2) (K+200) x'/\ju (N+1) x'/\x.aM kd k i d x'
def wj (C:Int->Prop)(P:Program)(f:FuncId):Prop:=fK P f=true/\∀(Λ:Nat->Nat)(h:eX)(nb N:Nat)(w:f_)(x:gQ)(c0:fq)(B K:Nat)(q a d:Int),C (jb q 12)->fW Λ h nb w (iA x)->ib c0 B K x->ju N x->B<=2^29->K+200<130000->N<4000->
 fC P f [.aC nb 9 0 0,.aF [.aA .i64 q,.aA .i64 a,.aA .i64 d]] h λ_ h'=>jQ Λ h nb N w x c0 B K (jb q 12) (jb a 5).toNat (jb a x.aA.length).toNat d h'
structure nL (Λ:Nat->Nat)(h H:eX)(nb N:Nat)(w:f_)(x:gQ)(c0:fq)(B K:Nat)(q a d:Int)(kd:Int)(k i nq:Nat)(Le:fX):Prop where
 a1:fW Λ H nb w (iA x)
 ok:ib c0 B K x
 bb:ju N x
 hB:B<=2^29
 hK:K+200<130000
 hN:N<4000
 s1:gy Λ h Λ H
 B1:H[nq]?=some (some (e_.aA 3 [[.aA .i64 q,.aA .i64 a,.aA .i64 d]] false))
 z0:Λ nq=0
 k5:k<x.l.length
 aA:0<x.aA.length->i<x.aA.length
 l0:lk 0 Le=.aC nb 9 0 0
 l3:lk 3 Le=.aC nq 3 0 0
 l4:lk 4 Le=.aA .i64 k
 l5:lk 5 Le=.aA .i64 i
 l6:lk 6 Le=.aE (decide ((0:Int)<x.aA.length))
 aC:lk 31 Le=.aA .i64 kd
section
variable {P:Program} {f1 f2 f3 f4 f5 f6 f7 f8 f9:FuncId} {Λ:Nat->Nat} {h H:eX} {nb N:Nat} {w:f_} {x:gQ} {c0:fq} {B K:Nat} {q a d:Int} {kd:Int} {k i nq:Nat} {Le:fX}
theorem Pc (u2:sF P f2)(u3:lF P f3)(s:nL Λ h H nb N w x c0 B K q a d kd k i nq Le)(c1:kd<=1)(c0':0<=kd):vc P (iP f1 f2 f3 f4 f5 f6 f7 f8 f9).aA.tl.tl.tl.tl.tl ⟨Le,[],H⟩ (iE (iP f1 f2 f3 f4 f5 f6 f7 f8 f9).aC λ_ h'=>jQ Λ h nb N w x c0 B K kd k i d h'):=by
 obtain⟨a1,ok,bb,hB,hK,hN,s1,B1,z0,k5,hi2,l0,l3,l4,l5,l6,l31⟩:=s;have e:=a1.aA;simp only[f_.aA]at e;have pl:=a1.aO;have pl:ik w.pv=some (.aA .i64 x.aA.length):=pl;have bp:=bb.aA;have E:=gQ.aL k5;obtain⟨n1,j1,lrow,lg,r,v1,v2,v3,v4,v5,v6,v7,-,-⟩:=a1.aG (k:=k) k5;have vl:=(UY.1 v3).1;have:kd=0\/kd=1:=by omega
 rcases this with rfl | rfl <;>
 ·simp only[iP,AC.aC,jQ,l0,l3,l4,l31,go_sem,B1,e,v1,v2,v3,Int.reduceEq,Wq];refine Tn u2 u3 a1 ok bb hK hN k5 v4 v5 (λv h' ro hz go=>?_);simp only[go_sem];refine go (λv8 Λ8 h8 w8 s8 u a8 C b8=>?_);simp only[go_sem];exact⟨Λ8,w8,_,s1.aA s8,by rw[u],a8,C,b8,⟨λ_=>by rw[E],λz=>by omega,λz=>by omega,λz=>by omega,λz=>by omega,λz=>by omega,λz=>by omega⟩⟩
theorem Pf (u4:vT P f4)(s:nL Λ h H nb N w x c0 B K q a d kd k i nq Le)(c2:kd<=4)(c1:¬kd<=1):vc P (iP f1 f2 f3 f4 f5 f6 f7 f8 f9).aA.tl.tl.tl.tl.tl ⟨Le,[],H⟩ (iE (iP f1 f2 f3 f4 f5 f6 f7 f8 f9).aC λ_ h'=>jQ Λ h nb N w x c0 B K kd k i d h'):=by
 obtain⟨a1,ok,bb,hB,hK,hN,s1,B1,z0,k5,hi2,l0,l3,l4,l5,l6,l31⟩:=s;have e:=a1.aA;simp only[f_.aA]at e;have pl:=a1.aO;have pl:ik w.pv=some (.aA .i64 x.aA.length):=pl;have bp:=bb.aA;have ate:=gQ.aL k5;obtain⟨n1,j1,lrow,lg,r,v1,v2,v3,v4,v5,v6,v7,-,-⟩:=a1.aG (k:=k) k5;have vl:=(UY.1 v3).1;have:kd=2\/kd=3\/kd=4:=by omega
 rcases this with rfl | rfl | rfl <;>
 ·by_cases cp:0<x.aA.length
  ·have ip:=hi2 cp;have u:(0:Int)<x.aA.length:=by omega
   simp only[iP,AC.aC,jQ,l0,l5,l6,l31,go_sem,Int.reduceEq,Wq,U3 u];refine fy ⟨u4.1,u4.2 Λ H nb N w x c0 B K i ip a1 ok bb (by omega) hK hN⟩ ?_;rintro v8 h8 ⟨Λ8,w8,s8,C,a8,E,b8⟩;simp only[go_sem];exact⟨Λ8,w8,_,s1.aA s8,by rw[C],a8,E.aA (by omega) (by omega),b8,⟨λz=>by omega,λ_=>by rw[dif_pos ip],λz=>by omega,λz=>by omega,λz=>by omega,λz=>by omega,λz=>by omega⟩⟩
  ·have u:¬(0:Int)<x.aA.length:=by omega
   simp only[iP,AC.aC,jQ,l6,l31,go_sem,Int.reduceEq,Wq,U2 u];exact⟨Λ,w,_,s1,rfl,a1,ok.aA (by omega) (by omega),bb.aC (by omega),⟨λz=>by omega,λ_=>by rw[dif_neg (by omega)],λz=>by omega,λz=>by omega,λz=>by omega,λz=>by omega,λz=>by omega⟩⟩
theorem Pg (s:nL Λ h H nb N w x c0 B K q a d kd k i nq Le)(c3:kd=5):vc P (iP f1 f2 f3 f4 f5 f6 f7 f8 f9).aA.tl.tl.tl.tl.tl ⟨Le,[],H⟩ (iE (iP f1 f2 f3 f4 f5 f6 f7 f8 f9).aC λ_ h'=>jQ Λ h nb N w x c0 B K kd k i d h'):=by
 obtain⟨a1,ok,bb,hB,hK,hN,s1,B1,z0,k5,hi2,l0,l3,l4,l5,l6,l31⟩:=s;have e:=a1.aA;simp only[f_.aA]at e;have pl:=a1.aO;have pl:ik w.pv=some (.aA .i64 x.aA.length):=pl;have bp:=bb.aA;have ate:=gQ.aL k5;obtain⟨n1,j1,lrow,lg,r,v1,v2,v3,v4,v5,v6,v7,-,-⟩:=a1.aG (k:=k) k5;have vl:=(UY.1 v3).1;subst c3;by_cases cp:0<x.aA.length
 ·have ip:=hi2 cp;have u:(0:Int)<x.aA.length:=by omega
  obtain⟨y1,y2,y3,h3,y4,h4,Λ5,⟨q1,q2,q3,q4⟩,⟨g1,g2,g3,g4⟩,n3,n4,C,t1,t2⟩:=a1.bG ip (by omega);have nbl:=(UY.1 a1.aA).1;have R1:∀y,(H++[y])[nb]?=_:=λy=>(eW.b1 y).aA e;have N1:∀sz i o,gN H.length 1 (.aC nb sz i o)=true:=λsz i o=>ig nbl;have ew:IntKind.i64.wrap ((i:Int)+1)=((i+1:Nat):Int):=by rw[gj (by omega)];omega
  simp only[f_.aA]at n3 n4 t1 t2;simp only[iP,AC.aC,jQ,l0,l5,l6,l31,go_sem,jh,Int.reduceEq,Wq,U3 u,R1,N1,q1,q3,g1,g3,g4,gz g4,n3,n4,C,ew];exact⟨Λ5,{w with pv:=y4},_,s1.aA t1,rfl,t2,ok.aO.aA (by omega) (by omega),bb.aG.aC (by omega),⟨λz=>by omega,λz=>by omega,λz=>rfl,λz=>by omega,λz=>by omega,λz=>by omega,λz=>by omega⟩⟩
 ·have u:¬(0:Int)<x.aA.length:=by omega
  simp only[iP,AC.aC,jQ,l6,l31,go_sem,Int.reduceEq,Wq,U2 u];have e0:x.aA=[]:=U7 (by omega);exact⟨Λ,w,_,s1,rfl,a1,ok.aA (by omega) (by omega),bb.aC (by omega),⟨λz=>by omega,λz=>by omega,λ_=>by unfold gQ.aG;rw[e0];cases x;simp_all,λz=>by omega,λz=>by omega,λz=>by omega,λz=>by omega⟩⟩
theorem Ph (u5:yz P f5)(s:nL Λ h H nb N w x c0 B K q a d kd k i nq Le)(c4:kd=6):vc P (iP f1 f2 f3 f4 f5 f6 f7 f8 f9).aA.tl.tl.tl.tl.tl ⟨Le,[],H⟩ (iE (iP f1 f2 f3 f4 f5 f6 f7 f8 f9).aC λ_ h'=>jQ Λ h nb N w x c0 B K kd k i d h'):=by
 obtain⟨a1,ok,bb,hB,hK,hN,s1,B1,z0,k5,hi2,l0,l3,l4,l5,l6,l31⟩:=s;have u:=a1.aA;simp only[f_.aA]at u;have pl:=a1.aO;have pl:ik w.pv=some (.aA .i64 x.aA.length):=pl;have bp:=bb.aA;have ate:=gQ.aL k5;obtain⟨n1,j1,lrow,lg,r,v1,v2,v3,v4,v5,v6,v7,-,-⟩:=a1.aG (k:=k) k5;have vl:=(UY.1 v3).1;subst c4;by_cases cp:0<x.aA.length
 ·have ip:=hi2 cp;have M:(0:Int)<x.aA.length:=by omega
  by_cases c300:x.aA.length<300
  ·have C:(x.aA.length:Int)<300:=by omega
   obtain⟨n2,j2,prow,pg,e,dd,e1,e2,e3,he,hd,e6⟩:=a1.aX (i:=i) ip;have jl:=(UY.1 e3).1;have nbl:=(UY.1 a1.aA).1;have N1:∀sz i o,gN H.length 1 (.aC nb sz i o)=true:=λsz i o=>ig nbl;have a2:=(UY.1 e2).1;have N2:∀sz i o,gN H.length 1 (.aC n2 sz i o)=true:=λsz i o=>ig a2;have R1:∀y,(H++[y])[nb]?=_:=λy=>(eW.b1 y).aA u;have R2:∀y,(H++[y])[n2]?=_:=λy=>(eW.b1 y).aA e2;simp only[fJ.aD]at e3;simp only[iP,AC.aC,jQ,l0,l5,l6,l31,go_sem,u,pl,Int.reduceEq,Wq,U3 M,U3 C,R1,R2,N1,N2,e1,e3];have mf:=ok.aH (by omega) (Vx ip);refine fy ⟨u5.1,u5.2 (Zs Λ H) (H++[none]) x.aA[i] _ (CG (he.up (eW.b1 none)) (hd.up (eW.b1 none))) mf.aE (by have:=mf.aA.2;omega)⟩ ?_;rintro _ H6 ⟨e',d',rfl,oe,od,X6⟩;have E:H6[H.length]?=some none:=X6.aA (by simp);have hlt:=(UY.1 E).1;have U:eW eZ H H6:=(eW.b1 none).tr X6;have R6:=U.aA u;have a4:=U.aA e2;have se:=oe.aA;have sd:=od.aA;have rr:∀{ds:D}{av:AV},eY ds (λk=>(H++[none]).length<=k) H6 av->∀y,Rd (Zs Λ (H6.set H.length y)) (H6.set H.length y) ds av:=fun {ds av} ow y=>by
    refine Rd.aE (λm hm=>?_) (λm hm z hz=>?_) _ _ (eY.rd _ (λ_ y=>y) _ (eY.lt _ _ ow));·have O:(H++[none]).length<=m:=hm.1;have a3:m<H6.length:=hm.2;exact⟨a1.aD (by simp at O;omega),by rw[U9];exact a3⟩
    ·have O:(H++[none]).length<=m:=hm.1;rw[UZ (by simp at O;omega)];exact hz
   obtain⟨H7,I⟩:∃H7,H7=H6.set H.length (some (e_.aA 17 [x.aA[i].aD e' d'] false)):=⟨_,rfl⟩;have X7:eW eZ H H7:=by rw[I];exact U.aG (U8 _) _
   have ae:iU H7 17 (.aG H.length 17 0 1 (some 1))=some [x.aA[i].aD e' d']:=qX (g:=false) (by rw[I];exact U5 hlt) (some 1) (len:=1) rfl;have hy:fY (Zs Λ H7) H7 ([x.aA[i]].map fJ.c) [x.aA[i].aD e' d']:=by simp only[Vv,VO,fY];exact⟨_,_,rfl,by rw[I];exact CG (rr oe _) (rr od _),rfl⟩
   obtain⟨y4,h4,g1,g4,n4,Z,Λ5,t1,t2⟩:=a1.aV X7 hy (by show (x.aA.length+1)*200<=_;omega) (bytes:=168) (by decide);rw[<-iv ae]at g1;simp only[f_.aA]at n4 t1 t2;simp only[fJ.aD]at I;have R7:=X7.aA u;simp only[fJ.aD,go_sem,jh,E,R6,a4,se,sd,<-I,g1,g4,gz g4,n4,Z];have W:ib c0 B K {x with aA:=x.aA++[x.aA[i]]}:=ok.aF λy hy=>by
    rcases VK.1 hy with hy | hy;·exact hy
    ·rw[List.mem_singleton.1 hy];exact Vx ip
   refine⟨Λ5,{w with pv:=y4},{x with aA:=x.aA++[x.aA[i]]},s1.aA t1,rfl,t2,W.aA (by omega) (by omega),⟨?_,by have:=bb.aE;show x.aE.length<=_;omega,by have:=bb.aD;show x.aC.length<=_;omega⟩,⟨λz=>by omega,λz=>by omega,λz=>by omega,λ_=>by rw[dif_pos ⟨ip,c300⟩],λz=>by omega,λz=>by omega,λz=>by omega⟩⟩;show (x.aA++[x.aA[i]]).length<=_;simp only[U1,VW];omega
  ·have C:¬(x.aA.length:Int)<300:=by omega
   simp only[iP,AC.aC,jQ,l0,l6,l31,go_sem,u,pl,Int.reduceEq,Wq,U3 M,U2 C];exact⟨Λ,w,_,s1,rfl,a1,ok.aA (by omega) (by omega),bb.aC (by omega),⟨λz=>by omega,λz=>by omega,λz=>by omega,λ_=>by rw[dif_neg (λz=>c300 z.2)],λz=>by omega,λz=>by omega,λz=>by omega⟩⟩
 ·have M:¬(0:Int)<x.aA.length:=by omega
  simp only[iP,AC.aC,jQ,l6,l31,go_sem,Int.reduceEq,Wq,U2 M];exact⟨Λ,w,_,s1,rfl,a1,ok.aA (by omega) (by omega),bb.aC (by omega),⟨λz=>by omega,λz=>by omega,λz=>by omega,λ_=>by rw[dif_neg (λz=>by omega)],λz=>by omega,λz=>by omega,λz=>by omega⟩⟩
end
section
variable {c0:fq} {B K B' K' N k:Nat} {x:gQ} {y:RX}
theorem lF.aA {P:Program}{ft:FuncId}(ut:lF P ft){Λ:Nat->Nat}{h:eX}{nb:Nat}{w:f_}{ma ca aa:AV}{KK:AV->eX->Prop} (a:fW Λ h nb w {iA x with l:=x.l.set k y.r}) (r1:Rd (Zs Λ h) h (td y.o.aD) ma) (r2:Rd (Zs Λ h) h (nS y.o.aC) ca) (r3:Rd (Zs Λ h) h (gK y.o.aF) aa) (ok:ib c0 B K x) (e:ib c0 B' K' (x.aD k y)) (hk:k<x.l.length) (ti:ng x x.l[k].aA x.l[k].aF y) (hK:K'<=130000) (bb:ju N x) (hN:N<4000) (te:y.aE 2) (sa:y.aD 21)
  (hK':∀v Λ2 h2 w2,gy Λ h Λ2 h2->w2.rs=w.rs->fW Λ2 h2 nb w2 (iA (x.aD k y))->ju (N+1) (x.aD k y)->KK v h2):mI P ft [.aC nb 9 0 0,.aA .i64 k,.aF [ma,ca,aa,.aA .i64 y.o.aE,.aE y.o.aA]] h KK:=by
 have f:=e.aI hk;have b1:=bb.aA;have b2:=bb.aE;have b3:=bb.aD;have te':y.o.aC.length<=2:=te;have sa':y.o.aD.length<=21:=sa;have dl:=Cg (D:=x.aC) f.aL;obtain⟨n,t1,t2⟩:=uE.of ok e hk ti hK (by omega) (by omega) (by omega) (by omega);refine fy ⟨ut.1,ut.2 Λ h nb w _ k y.o y.r _ n ma ca aa a t1 r1 r2 r3⟩ ?_;rintro v h2 ⟨Λ2,w2,s2,e2,a2⟩;exact hK' v Λ2 h2 w2 s2 e2 (by rw[<-t2];exact a2) (bb.aF f hK sa)
theorem CM (hk:k<x.l.length){r:fj} (e:r=x.l[k]):({iA x with l:=x.l.set k r}:i9)=iA x:=by subst e;rw[WZ];rfl
end
theorem HE {r:fj}{k:Int}{d:List Int}(h:¬(r.aP k d).2.2=0):(r.aP k d).2.1.r=r:=by
 unfold fj.aP at h ⊢;split;·rfl
 ·split;·rfl
  ·split;·rfl
   ·split;·rfl
    ·rename_i c1 c2 c3 c4;rw[U6 c1,U6 c2,U6 c3,U6 c4]at h;exact absurd rfl h
theorem LS {r:fj}{i:Int}{s:List Int}(h:¬(r.aT i s).2=0):(r.aT i s).1.r=r:=by
 unfold fj.aT at h ⊢;split;·rfl
 ·simp_all
section
variable {P:Program} {f1 f2 f3 f4 f5 f6 f7 f8 f9:FuncId} {Λ:Nat->Nat} {h H:eX} {nb N:Nat} {w:f_} {x:gQ} {c0:fq} {B K:Nat} {q a d:Int} {kd:Int} {k i nq:Nat} {Le:fX}
theorem Pj (u3:lF P f3)(u6:qR P f6)(s:nL Λ h H nb N w x c0 B K q a d kd k i nq Le)(c5:kd=7):vc P (iP f1 f2 f3 f4 f5 f6 f7 f8 f9).aA.tl.tl.tl.tl.tl ⟨Le,[],H⟩ (iE (iP f1 f2 f3 f4 f5 f6 f7 f8 f9).aC λ_ h'=>jQ Λ h nb N w x c0 B K kd k i d h'):=by
 obtain⟨a1,ok,bb,hB,hK,hN,s1,B1,z0,k5,hi2,l0,l3,l4,l5,l6,l31⟩:=s;have row1:=a1.aA;simp only[f_.aA]at row1;have pl:=a1.aO;have pl:ik w.pv=some (.aA .i64 x.aA.length):=pl;have bp:=bb.aA;have ate:=gQ.aL k5;obtain⟨n1,j1,lrow,lg,r,v1,v2,v3,v4,v5,v6,v7,-,-⟩:=a1.aG (k:=k) k5;have vl:=(UY.1 v3).1;subst c5;have nbl:=(UY.1 a1.aA).1;have N1:∀sz i o,gN H.length 2 (.aC nb sz i o)=true:=λsz i o=>ig nbl;have hl1:=(UY.1 B1).1;have N3:∀sz i o,gN H.length 2 (.aC nq sz i o)=true:=λsz i o=>ig hl1;have N2:∀sz i o,gN H.length 2 (.aC n1 sz i o)=true:=λsz i o=>ig v7;have R1:∀y z,(H++[y]++[z])[nb]?=_:=λy z=>(eW.b2 y z).aA row1;have R2:∀y z,(H++[y]++[z])[n1]?=_:=λy z=>(eW.b2 y z).aA v2;have R3:∀y z,(H++[y]++[z])[nq]?=_:=λy z=>(eW.b2 y z).aA B1;simp only[iP,AC.aC,jQ,l0,l3,l4,l31,go_sem,jh,Int.reduceEq,Wq,R1,R2,R3,N1,N2,N3,v1,v3];obtain⟨H0,hH0⟩:∃H0,H0=H++[some (e_.aA 1 [[AV.aA IntKind.u8 (IntKind.u8.wrap d)]] false)]++[none]:=⟨_,rfl⟩;have X0:eW eZ H H0:=by rw[hH0];exact eW.b2 _ _
 have hb0:H0[H.length+1]?=some none:=by rw[hH0];simp
 have hd0:H0[H.length]?=some (some (e_.aA 1 [[AV.aA IntKind.u8 (IntKind.u8.wrap d)]] false)):=by rw[hH0];simp
 have hl0:H0.length=H.length+2:=by rw[hH0];simp
 have a0:=a1.up X0;obtain⟨hr1,er⟩:=UY.1 v4;have f:=ok.aC k k5;have m0:iI (gB k Λ) H0 r x.l[k]:=by rw[<-er];exact a0.aF k hr1 k5
 have ewd:IntKind.u8.wrap d=d % 256:=DB d;have pz:∀m,Λ m=0->gB k Λ m=0:=λm e=>by unfold gB;rw[e];split<;>omega
 have dat:um (gB k Λ) H0 (gq [d % 256]) (.aG H.length 1 0 1 (some 1)):=by refine⟨λm=>m=H.length,?_,λm hm=>⟨pz m (a1.aD (by omega)),by omega⟩⟩;simp only[gq,Vv,VO,Rd];exact⟨_,.inr (.inr ⟨H.length,0,1,some 1,_,false,rfl,rfl,hd0,by simp,(λc hc=>by cases hc;simp),rfl⟩),by simp[fY,fu,Rd,ewd]⟩
 rw[<-hH0];clear hH0;refine fy ⟨u6.1,u6.2 (gB k Λ) H0 r x.l[k] K 1 [d % 256] _ m0 f (by omega) dat ⟨by intro z hz;simp at hz;omega,by simp⟩ ⟨by decide,by decide⟩⟩ ?_;rintro _ h6 ⟨res,rfl,ro⟩;rw[<-er]at ro;obtain⟨Λ6,ma,ca,aa,rfl,⟨sm,sc,sa⟩,hn6,z6,go⟩:=a0.aU X0 (n:=H.length+1) (by omega) hb0 (a1.aD (by omega)) hr1 k5 ro;have R6:=(z6 nq (by omega) z0).trans (X0.aA B1);have nl6:=(UY.1 hn6).1;simp only[go_sem,jh,hn6,nl6,R6,sm,sc,sa];refine ij (λc=>?_) (λc=>?_);·simp at c;have bd:gF [d % 256]/\[d % 256].length<=256:=⟨by intro z hz;simp at hz;omega,by simp⟩;obtain⟨o1,o2⟩:=ok.aJ (by omega) k5 (kind:=1) bd ⟨by decide,by decide⟩ (λz=>by omega) c;have te:(x.l[k].aP 1 [d % 256]).2.1.aE 2:=(RX.aE.aH _ _ _).aA (by omega);have sa':(x.l[k].aP 1 [d % 256]).2.1.aD 21:=RX.aD.aH _ f.aE f.aG.1 _ _;obtain⟨t1,t2,q1,q2,q3⟩:=go (.aA 5 [[ma,ca,aa,.aA .i64 (x.l[k].aP 1 [d % 256]).2.1.o.aE,.aE (x.l[k].aP 1 [d % 256]).2.1.o.aA]] false);rw[VX];simp only[go_sem,l0,l4,U5 nl6];refine u3.aA t2 q1 q2 q3 ok o1 k5 o2 (by omega) bb hN te sa' (λv8 Λ8 h8 w8 s8 wr8 a8 b8=>?_);simp only[go_sem];exact⟨Λ8,w8,_,(s1.aA t1).aA s8,by rw[wr8],a8,o1.aA (by omega) (by omega),b8,⟨λz=>by omega,λz=>by omega,λz=>by omega,λz=>by omega,λ_=>by rw[ate,U4 c],λz=>by omega,λz=>by omega⟩⟩
 ·simp at c;obtain⟨t1,t2,-⟩:=go (.aA 5 [[ma,ca,aa,.aA .i64 (x.l[k].aP 1 [d % 256]).2.1.o.aE,.aE (x.l[k].aP 1 [d % 256]).2.1.o.aA]] false);rw[VX];simp only[go_sem];exact⟨Λ6,w,x,s1.aA t1,rfl,by have e:=CM k5 (HE c);rw[<-e];exact t2,ok.aA (by omega) (by omega),bb.aC (by omega),⟨λz=>by omega,λz=>by omega,λz=>by omega,λz=>by omega,λ_=>by rw[ate,U6 c],λz=>by omega,λz=>by omega⟩⟩
end
section
variable {P:Program} {f1 f2 f3 f4 f5 f6 f7 f8 f9:FuncId} {Λ:Nat->Nat} {h H:eX} {nb N:Nat} {w:f_} {x:gQ} {c0:fq} {B K:Nat} {q a d:Int} {kd:Int} {k i nq:Nat} {Le:fX}
theorem Pl (u1:pV P f1)(u3:lF P f3)(u8:wv P f8)(s:nL Λ h H nb N w x c0 B K q a d kd k i nq Le)(c5:kd=9):vc P (iP f1 f2 f3 f4 f5 f6 f7 f8 f9).aA.tl.tl.tl.tl.tl ⟨Le,[],H⟩ (iE (iP f1 f2 f3 f4 f5 f6 f7 f8 f9).aC λ_ h'=>jQ Λ h nb N w x c0 B K kd k i d h'):=by
 obtain⟨a1,ok,bb,hB,hK,hN,s1,B1,z0,k5,hi2,l0,l3,l4,l5,l6,l31⟩:=s
 have row1:=a1.aA
 simp only[f_.aA]at row1
 have pl:=a1.aO
 have pl:ik w.pv=some (.aA .i64 x.aA.length):=pl
 have bp:=bb.aA
 have ate:=gQ.aL k5
 obtain⟨n1,j1,lrow,lg,r,v1,v2,v3,v4,v5,v6,v7,-,-⟩:=a1.aG (k:=k) k5
 have vl:=(UY.1 v3).1
 subst c5
 have nbl:=(UY.1 a1.aA).1
 have N1:∀sz i o,gN H.length 2 (.aC nb sz i o)=true:=λsz i o=>ig nbl
 have hl1:=(UY.1 B1).1
 have N3:∀sz i o,gN H.length 2 (.aC nq sz i o)=true:=λsz i o=>ig hl1
 have N2:∀sz i o,gN H.length 2 (.aC n1 sz i o)=true:=λsz i o=>ig v7
 have R1:∀y z,(H++[y]++[z])[nb]?=_:=λy z=>(eW.b2 y z).aA row1
 have R2:∀y z,(H++[y]++[z])[n1]?=_:=λy z=>(eW.b2 y z).aA v2
 have R3:∀y z,(H++[y]++[z])[nq]?=_:=λy z=>(eW.b2 y z).aA B1
 obtain⟨n4,j4,arow,ag,y1,y2,y3,y4,y5,-,-⟩:=a1.aQ (k:=k) (by show k<(x.l.map fj.aF).length;simpa using k5)
 have yl:=(UY.1 y3).1
 have y6:(iA x).aC[k]'(by show k<(x.l.map fj.aF).length;simpa using k5)=x.l[k].aF:=List.getElem_map ..
 rw[y6]at y3
 have N4:∀sz i o,gN H.length 2 (.aC n4 sz i o)=true:=λsz i o=>ig y5
 have R4:∀y z,(H++[y]++[z])[n4]?=_:=λy z=>(eW.b2 y z).aA y2
 simp only[iP,AC.aC,jQ,l0,l3,l4,l31,go_sem,jh,Int.reduceEq,Wq,R1,R2,R3,R4,N1,N2,N3,N4,v1,v3,y1,y3]
 refine lT.aA u1.1 (u1.2 d 5 (by omega)) ?_
 have f:=ok.aC k k5
 have hx:IntKind.i64.wrap (x.l[k].aF-jb d 5)=x.l[k].aF-jb d 5:=gj (by
  have p5:=qu (k:=d) (n:=5) (by omega)
  have q1:=f.aM
  have q2:=f.aC
  have q3:=f.aL
  unfold fA.aC at q1
  omega)
 simp only[go_sem,jh,hx,R1,R2,R3,R4,v3,y3]
 try refine⟨by simp,?_⟩
 obtain⟨H0,hH0⟩:∃H0,H0=H++[some (e_.aA 1 [[AV.aA IntKind.u8 (IntKind.u8.wrap d)]] false)]++[none]:=⟨_,rfl⟩
 have X0:eW eZ H H0:=by rw[hH0];exact eW.b2 _ _
 have hb0:H0[H.length+1]?=some none:=by rw[hH0];simp
 have hd0:H0[H.length]?=some (some (e_.aA 1 [[AV.aA IntKind.u8 (IntKind.u8.wrap d)]] false)):=by rw[hH0];simp
 have hl0:H0.length=H.length+2:=by rw[hH0];simp
 have a0:=a1.up X0
 obtain⟨hr1,er⟩:=UY.1 v4
 have m0:iI (gB k Λ) H0 r x.l[k]:=by rw[<-er];exact a0.aF k hr1 k5
 have ewd:IntKind.u8.wrap d=d % 256:=DB d
 have pz:∀m,Λ m=0->gB k Λ m=0:=λm e=>by unfold gB;rw[e];split<;>omega
 have dat:um (gB k Λ) H0 (gq [d % 256]) (.aG H.length 1 0 1 (some 1)):=by
  refine⟨λm=>m=H.length,?_,λm hm=>⟨pz m (a1.aD (by omega)),by omega⟩⟩
  simp only[gq,Vv,VO,Rd]
  exact⟨_,.inr (.inr ⟨H.length,0,1,some 1,_,false,rfl,rfl,hd0,by simp,(λc hc=>by cases hc;simp),rfl⟩),by simp[fY,fu,Rd,ewd]⟩
 rw[<-hH0]
 clear hH0
 refine fy ⟨u8.1,u8.2 (gB k Λ) H0 r x.l[k] K _ [d % 256] _ m0 f (by omega) dat ⟨by intro z hz;simp at hz;omega,by simp⟩⟩ ?_
 rintro _ h6 ⟨res,rfl,ro⟩
 rw[<-er]at ro
 obtain⟨Λ6,ma,ca,aa,rfl,⟨sm,sc,sa⟩,hn6,z6,go⟩:=a0.aU X0 (n:=H.length+1) (by omega) hb0 (a1.aD (by omega)) hr1 k5 ro
 have R6:=(z6 nq (by omega) z0).trans (X0.aA B1)
 have nl6:=(UY.1 hn6).1
 simp only[go_sem,jh,hn6,nl6,R6,sm,sc,sa]
 refine ij (λc=>?_) (λc=>?_)
 ·simp at c
  have bd:gF [d % 256]/\[d % 256].length<=1:=⟨by intro z hz;simp at hz;omega,by simp⟩
  obtain⟨o1,o2⟩:=ok.aM (by omega) k5 bd c
  have te:(x.l[k].aT (x.l[k].aF-jb d 5) [d % 256]).1.aE 2:=(RX.aE.aK _ _ _).aA (by omega)
  have sa':(x.l[k].aT (x.l[k].aF-jb d 5) [d % 256]).1.aD 21:=(RX.aD.aK _ _ _).aA (by omega)
  obtain⟨t1,t2,q1,q2,q3⟩:=go (.aA 5 [[ma,ca,aa,.aA .i64 (x.l[k].aT (x.l[k].aF-jb d 5) [d % 256]).1.o.aE,.aE (x.l[k].aT (x.l[k].aF-jb d 5) [d % 256]).1.o.aA]] false)
  rw[VX]
  simp only[go_sem,l0,l4,U5 nl6]
  refine u3.aA t2 q1 q2 q3 ok o1 k5 o2 (by omega) bb hN te sa' (λv8 Λ8 h8 w8 s8 wr8 a8 b8=>?_)
  simp only[go_sem]
  exact⟨Λ8,w8,_,(s1.aA t1).aA s8,by rw[wr8],a8,o1.aA (by omega) (by omega),b8,⟨λz=>by omega,λz=>by omega,λz=>by omega,λz=>by omega,λz=>by omega,λz=>by omega,λ_=>by rw[ate,U4 c]⟩⟩
 ·simp at c
  obtain⟨t1,t2,-⟩:=go (.aA 5 [[ma,ca,aa,.aA .i64 (x.l[k].aT (x.l[k].aF-jb d 5) [d % 256]).1.o.aE,.aE (x.l[k].aT (x.l[k].aF-jb d 5) [d % 256]).1.o.aA]] false)
  rw[VX]
  simp only[go_sem]
  exact⟨Λ6,w,x,s1.aA t1,rfl,by have e:=CM k5 (LS c);rw[<-e];exact t2,ok.aA (by omega) (by omega),bb.aC (by omega),⟨λz=>by omega,λz=>by omega,λz=>by omega,λz=>by omega,λz=>by omega,λz=>by omega,λ_=>by rw[ate,U6 c]⟩⟩
end
section
variable {P:Program} {f1 f2 f3 f4 f5 f6 f7 f8 f9:FuncId} {Λ:Nat->Nat} {h H:eX} {nb N:Nat} {w:f_} {x:gQ} {c0:fq} {B K:Nat} {q a d:Int} {kd:Int} {k i nq:Nat} {Le:fX}
theorem Pk (u7:qQ P f7)(s:nL Λ h H nb N w x c0 B K q a d kd k i nq Le)(c5:kd=8):vc P (iP f1 f2 f3 f4 f5 f6 f7 f8 f9).aA.tl.tl.tl.tl.tl ⟨Le,[],H⟩ (iE (iP f1 f2 f3 f4 f5 f6 f7 f8 f9).aC λ_ h'=>jQ Λ h nb N w x c0 B K kd k i d h'):=by
 obtain⟨a1,ok,bb,hB,hK,hN,s1,B1,z0,k5,hi2,l0,l3,l4,l5,l6,l31⟩:=s;have row1:=a1.aA;simp only[f_.aA]at row1;have pl:=a1.aO;have pl:ik w.pv=some (.aA .i64 x.aA.length):=pl;have bp:=bb.aA;have ate:=gQ.aL k5;obtain⟨n1,j1,lrow,lg,r,v1,v2,v3,v4,v5,v6,v7,-,-⟩:=a1.aG (k:=k) k5;have vl:=(UY.1 v3).1;subst c5;have nbl:=(UY.1 a1.aA).1;have hkl:k<(iA x).aD.length:=by show k<(x.l.map fj.aA).length;simpa using k5
 have gh:(iA x).aD[k]'hkl=x.l[k].aA:=List.getElem_map ..;obtain⟨n4,j4,hrow,hg,ax,ay,y1,y2,y3,y4,y5,y6,-,-⟩:=a1.aR hkl;have yl:=(UY.1 y3).1;rw[gh]at y4;simp only[jf.c,iQ,fu]at y4;obtain⟨a',_,e1,ra,b',_,e2,rb,e3⟩:=y4;subst e3 e2;simp only[Wc,and_true]at e1;obtain⟨rfl,rfl⟩:=e1;have sx:=ra.aA;have sy:=rb.aA;obtain⟨ph,ch,i1,i2,i3⟩:=Rd.aD ra .i64 (i:=(0:Int)) (d:=x.l[k].aA.c) (by omega) rfl;obtain⟨he,ho',hn,hl,hs,rfl,-⟩:=lO i3;have ld:ir H true 10 ph=some (.aF (x.l[k].aA.aH he ho' hn hl hs)):=by rw[jr i2];rfl
 have f:=ok.aC k k5;have ew:IntKind.i64.wrap ((k:Int)+1)=k+1:=gj (by have:=ok.aE;omega);simp only[iP,AC.aC,jQ,l0,l3,l4,l31,go_sem,B1,row1,Int.reduceEq,Wq,y1,y2,y3,ew,i1,ld];have fl:=f.aL;have fb:=f.aC;have fs:=f.aU.2;refine fy ⟨u7.1,u7.2 (Zs Λ H) H _ x.l[k].aA _ d i3 (f.aD (by omega)) ((lA f.aE).le (by omega)) (by omega) ⟨by omega,fb.1,by omega⟩⟩ ?_;rintro _ H8 ⟨r8,rfl,hr8,row8,X8⟩;obtain⟨m0,mj,mrow,mg,w1,w2,⟨mr,w3⟩,w4,w5,w6,Λ8,s8,a8⟩:=a1.a_ (k:=k) k5 X8 hr8 (CI row8);have ml:=(UY.1 w2).1;have ejl:=(UY.1 w3).1;have rowN:=X8.aA row1;have row9:=a8.aA;simp only[f_.aA]at row9;obtain⟨n5,j5,hrow5,hg5,bx,b_y,u1,u2,u3,u4,-,-,-,-⟩:=a8.aR (k:=k) hkl;have u4:fu (Zs Λ8 (H8.set m0 (some (e_.aA 1 (mrow.set mj [.aC r8 21 0 0]) mg)))) (H8.set m0 (some (e_.aA 1 (mrow.set mj [.aC r8 21 0 0]) mg))) (iQ ((iA x).aD[k]'hkl)).c [bx,b_y]:=u4;rw[gh]at u4;simp only[jf.c,iQ,fu]at u4;obtain⟨a2,_,e1,rc,b2,_,e2,rd,e3⟩:=u4;subst e3 e2;simp only[Wc,and_true]at e1;obtain⟨rfl,rfl⟩:=e1;have ul:=(UY.1 u3).1;have sx:=rc.aA;have sy:=rd.aA;obtain⟨ph5,ch5,o1,o2,o3⟩:=Rd.aD rc .i64 (i:=(0:Int)) (d:=x.l[k].aA.c) (by omega) rfl;obtain⟨he5,ho5,hn5,hl5,hs5,rfl,-⟩:=lO o3;have hka:k<(iA x).aC.length:=by show k<(x.l.map fj.aF).length;simpa using k5
 obtain⟨n6,j6,arow,ag,t1,t2,t3,t4,t5,t6,t7⟩:=a8.aQ (k:=k) hka;have tl:=(UY.1 t3).1;simp only[go_sem,w1,w2,ml,ejl,xJ w3,rowN];generalize H8.set m0 (some (e_.aA 1 (mrow.set mj [.aC r8 21 0 0]) mg))=H9 at *;have B9:=(s8.z nq (UY.1 B1).1 z0).trans B1;have z1:=mN o2 3;have z2:=mN (vz o2 3) 0;have z3:ir H9 false 1 (oh 0 (oh 3 ph5))=some (.aA .i64 x.l[k].aA.aA.aA):=by rw[nh (vz o2 3) 0];rfl
 simp only[go_sem,l0,l4,row9,u1,u2,u3,o1,t1,t2,tl,xJ t3,z1,z2,z3];obtain⟨Λ10,s10,a10⟩:=t7 x.l[k].aA.aA.aA;have e:({iA x with l:=x.l.set k (fj.aQ (k+1) x.l[k].aA d),aC:=(iA x).aC.set k x.l[k].aA.aA.aA}:i9)=iA {x with l:=x.l.set k (fj.aQ (k+1) x.l[k].aA d)}:=by simp only[iA,Xi];congr 1;have:(x.l.map fj.aA)[k]'(by simpa using k5)=x.l[k].aA:=List.getElem_map ..;show _=(x.l.map fj.aA).set k x.l[k].aA;rw[<-this,WZ]
 exact⟨Λ10,_,_,(s1.aA s8).aA s10,by rw[U9],e▸a10,(ok.aL k5 d).aA (by omega) (by omega),⟨by have:=bb.aA;show x.aA.length<=_;omega,by have:=bb.aE;show x.aE.length<=_;omega,by have:=bb.aD;show x.aC.length<=_;omega⟩,⟨λz=>by omega,λz=>by omega,λz=>by omega,λz=>by omega,λz=>by omega,λ_=>by rw[ate],λz=>by omega⟩⟩
end
theorem gC.aG {F:Nat->Prop}{h:eX}{v:AV}{l:List Int}(c:gC F h 1 v (hU l)):Rd F h (fN l) v:=by
 have key:∀l:List Int,fY F h (l.map λn=>[D.aA .i64 n]) (hU l):=by
  intro l;induction l with
  | nil=>simp[hU,fY]
  | cons n l ih=>simp only[Vv,hU,fY];exact⟨_,_,rfl,by simp[fu,Rd],ih⟩
 simp only[fN,Rd];refine⟨hU l,?_,key l⟩;rcases c with⟨rfl,e⟩ | ⟨n,off,cap,row,g,rfl,h2,h3,h4,h5,h6,h7,h8⟩
 ·exact .inl ⟨rfl,e⟩
 ·exact .inr (.inr ⟨n,off,_,cap,row,g,rfl,h2,h3,h4,h5,h8.symm⟩)
theorem O5 {P:Program}{f1 f2 f3 f4 f5 f6 f7 f8 f9 a6 a5 a4:FuncId}{h:eX}{fa:AV}{l:List fV}{last:Int}{L:fX}{K:AX->St->Prop}{F:Nat->Prop}(hF:∀m,F m->m<h.length)(ra:Rd F h (jN l) fa)(hl:l.length<=21)
  (a3:lk 11 L=.aD) (a2:lk 12 L=.aA .i64 last) (a1:lk 14 L=fa) (Z:lk 15 L=.aA .i64 (0:Int))
  (hK:∀Lv h' u fv,(∀n,n≠11->n≠15->n≠73->n≠82->lk n Lv=lk n L)->lk 11 Lv=fv->gC (λm=>h.length<=m) h' 1 fv (hU u)->u.length<=21->eW eZ h h'->K (.aD 0) ⟨Lv,[],h'⟩):
  vc P (.aD (Am f1 f2 f3 f4 f5 f6 f7 f8 f9 a6 a5 a4)) ⟨L,[],h⟩ K:=by
 obtain⟨I,hI⟩:∃I:Nat->fX->eX->Prop,∀m Lv h',I m Lv h'↔∃(i:Nat)(u:List Int)(fv:AV),(∀n,n≠11->n≠15->n≠73->n≠82->lk n Lv=lk n L)/\lk 11 Lv=fv/\lk 15 Lv=.aA .i64 (i:Int)/\gC (λm=>h.length<=m) h' 1 fv (hU u)/\u.length<=i/\eW eZ h h'/\i<=l.length/\m=l.length-i:=⟨_,λ_ _ _=>WA⟩;refine iM I l.length ((hI _ _ _).2 ⟨0,[],.aD,λ_ _ _ _ _=>rfl,a3,Z,.inl ⟨rfl,rfl⟩,U8 _,eW.aC _ _,by omega,by omega⟩) ?_;intro m Lv h' hh;obtain⟨i,u,fv,ks,M,C,c,lf,X,hi,rfl⟩:=(hI _ _ _).1 hh;clear hh;have U:Rd F h' (jN l) fa:=ra.up X;have la:ik fa=some (.aA .i64 l.length):=by have:=U.aC;simpa [jN] using this
 have W:=(ks 12 (by decide) (by decide) (by decide) (by decide)).trans a2;have E:=(ks 14 (by decide) (by decide) (by decide) (by decide)).trans a1;simp only[Am,go_sem,E,C,la];have ew:IntKind.i64.wrap ((i:Int)+1)=((i+1:Nat):Int):=by rw[gj (by omega)];omega
 refine ij (λci=>?_) (λci=>?_)
 ·simp at ci;have ci:i<l.length:=by omega
  obtain⟨p,cs,i1,i2,i3⟩:=Rd.aD U .i64 (i:=(i:Int)) (d:=l[i].c) (by omega) (by rw[show ((i:Int)).toNat=i by omega,VE,U0 ci];rfl);obtain rfl:=tQ i3;simp only[go_sem,W,E,C,i1,mN i2,nh i2,fV.aA];refine ij (λcc=>?_) (λcc=>?_)
  ·simp only[go_sem,M,E,C,i1,mN i2,nh i2,fV.aA];have ae:iU (h'++[some (e_.aA 1 [[AV.aA IntKind.i64 l[i].aE]] false)]) 1 (.aG h'.length 1 0 1 (some 1))=some [[.aA .i64 l[i].aE]]:=qX (g:=false) (gJ _ _) (some 1) (len:=1) rfl;have c':gC (λm=>h.length<=m) (h'++[some (e_.aA 1 [[AV.aA IntKind.i64 l[i].aE]] false)]) 1 fv (hU u):=c.aA (λ_ y _=>y) (λm _ hlt=>(eW.b1 _).2 m hlt (λy=>y));obtain⟨v',h3,g1,c3,X3⟩:=c'.aC (bytes:=8) (ys:=[[.aA .i64 l[i].aE]]) (eW.aC _ _) (by simp only[hU,Vg,Vf,Ve];omega);rw[<-iv ae]at g1;simp only[go_sem,g1,C,ew];have X4:eW eZ h h3:=(X.tr (eW.b1 _)).aJ X3 (λm hm O=>by have:h.length<=m:=O;omega);exact⟨_,by omega,(hI _ _ _).2 ⟨i+1,u++[l[i].aE],v',λn h1 h2 h3 h4=>by simp only[fm];rw[U6 (λe=>h2 e),U6 (λe=>h1 e),U6 (λe=>h4 e),U6 (λe=>h3 e)];exact ks n h1 h2 h3 h4,by simp[fm],by simp[fm],by
    have e:hU (u++[l[i].aE])=hU u++[[.aA .i64 l[i].aE]]:=by simp[hU]
    rw[e];exact c3.aA (λm hm _=>by have O:(h.length<=m/\_)\/_<=m:=hm;have:=X.1;simp only[U1,VW]at O;omega) (λ_ _ _=>rfl),by simp;omega,X4,by omega,rfl⟩⟩
  ·simp only[go_sem,C,ew];exact⟨_,by omega,(hI _ _ _).2 ⟨i+1,u,fv,λn h1 h2 h3 h4=>by simp only[fm];rw[U6 (λe=>h2 e),U6 (λe=>h4 e),U6 (λe=>h3 e)];exact ks n h1 h2 h3 h4,by simp[fm,M],by simp[fm],c,by omega,X,by omega,rfl⟩⟩
 ·simp only[go_sem];exact hK _ _ u fv (λn h1 h2 h3 h4=>by rw[fm,U6 (λe=>h3 e)];exact ks n h1 h2 h3 h4) (by simp[fm,M]) c (by omega) X
def uw (P:Program)(f:FuncId):Prop:=fK P f=true/\∀(Λ:Nat->Nat)(h:eX)(nb N:Nat)(w:f_)(x:gQ)(c0:fq)(B K k:Nat)(node:Int)(drop:Bool),fW Λ h nb w (iA x)->ib c0 B K x->ju N x->B<=2^29->K+200<130000->N<4000->k<x.l.length->
 fC P f [.aC nb 9 0 0,.aA .i64 k,.aA .i64 node,.aE drop] h λ_ h'=>∃Λ' w' x',gy Λ h Λ' h'/\w'.rs.length=w.rs.length/\fW Λ' h' nb w' (iA x')/\ib c0 (B+2) (K+200) x'/\ju (N+1) x'
theorem CE {P:Program}{f1 f2 f3 f4 f5 f6 f7 f8 f9 f10 f11 f12:FuncId}(u10:vV P f10)(u11:qR P f11)(u12:lF P f12){Λ:Nat->Nat}{h H:eX}{nb N:Nat}{w:f_}{x:gQ}{c0:fq}{B K k nc:Nat}{c':fq}{Le:fX}(a:fW Λ H nb w (iA x))(s1:gy Λ h Λ H)(ok:ib c0 B K x)(bb:ju N x)(hB:B<=2^29)(hK:K+200<130000)(hN:N<4000)(k5:k<x.l.length)
  (hc:H[nc]?=some (some (.aA 3 [c'.v] false))) (hz:Λ nc=0) (l0:lk 0 Le=.aC nb 9 0 0) (l1:lk 1 Le=.aA .i64 k) (l16:lk 16 Le=.aC nc 3 0 0) (hn:pb x.l[k].aM c') (hr:c'.aE=true) (hat:x.l[k].aA.of.2<=x.l[k].aE):
  vc P (sV f1 f2 f3 f4 f5 f6 f7 f8 f9 f10 f11 f12).aA.tl.tl.tl.tl.tl.tl.tl.tl.tl ⟨Le,[],H⟩ (iE (sV f1 f2 f3 f4 f5 f6 f7 f8 f9 f10 f11 f12).aC λ_ h'=>∃Λ' w' x',gy Λ h Λ' h'/\w'.rs.length=w.rs.length/\fW Λ' h' nb w' (iA x')/\ib c0 (B+2) (K+200) x'/\ju (N+1) x'):=by
 have row:=a.aA;simp only[f_.aA]at row;have f:=ok.aC k k5;obtain⟨n1,j1,lrow,lg,r,v1,v2,v3,v4,v5,v6,v7,v8,-⟩:=a.aG (k:=k) k5;have vl:=(UY.1 v3).1;have nbl:=(UY.1 row).1;have ncl:=(UY.1 hc).1;have R1:∀y,(H++[y])[nb]?=_:=λy=>(eW.b1 y).aA row;have R2:∀y,(H++[y])[n1]?=_:=λy=>(eW.b1 y).aA v2;have R3:∀y,(H++[y])[nc]?=_:=λy=>(eW.b1 y).aA hc;have N1:∀sz i o,gN H.length 1 (.aC nb sz i o)=true:=λsz i o=>ig nbl;have N2:∀sz i o,gN H.length 1 (.aC n1 sz i o)=true:=λsz i o=>ig v7;have N3:∀sz i o,gN H.length 1 (.aC nc sz i o)=true:=λsz i o=>ig ncl;have cv:c'.v=[ga c'.aA,ga c'.aC,ga c'.aD]:=rfl;rw[cv]at R3 hc;simp only[sV,AC.aC,go_sem,jh,l0,l1,l16,R1,R2,R3,N1,N2,N3,v1,v3];rw[<-cv];refine lT.aA u10.1 (u10.2 c' ((lA hr).le (by omega))) ?_;simp only[go_sem,jh,R1,R2,R3,v3];obtain⟨H0,hH0⟩:∃H0,H0=H++[none]:=⟨_,rfl⟩;have X0:eW eZ H H0:=by rw[hH0];exact eW.b1 _
 have hb0:H0[H.length]?=some none:=by rw[hH0];simp
 have hl0:H0.length=H.length+1:=by rw[hH0];simp
 have a0:=a.up X0;obtain⟨hr1,er⟩:=UY.1 v4;have m0:iI (gB k Λ) H0 r x.l[k]:=by rw[<-er];exact a0.aF k hr1 k5
 have bd:gF c'.aF/\c'.aF.length<=256:=⟨zB hr,Cc hr⟩;rw[<-hH0];clear hH0;refine fy ⟨u11.1,u11.2 (gB k Λ) H0 r x.l[k] K 2 c'.aF _ m0 f (by omega) ⟨eZ,rS _ _ (gq _),λ_ y=>y.elim⟩ ⟨bd.1,by omega⟩ ⟨by decide,by decide⟩⟩ ?_;rintro _ h6 ⟨res,rfl,ro⟩;rw[<-er]at ro;obtain⟨Λ6,ma,ca,aa,rfl,⟨sm,sc,sa⟩,hn6,z6,go⟩:=a0.aU X0 (n:=H.length) (by omega) hb0 (a.aD (by omega)) hr1 k5 ro;have R6:=(z6 nc (by omega) hz).trans (X0.aA hc);have nl6:=(UY.1 hn6).1;obtain⟨y,hy⟩:∃y,y=x.l[k].aP 2 c'.aF:=⟨_,rfl⟩;simp only[go_sem,jh,hn6,nl6,R6,sm,sc,sa,<-hy];refine ij (λc=>?_) (λc=>?_);·simp at c;rw[hy]at c;obtain⟨o1,o2⟩:=ok.aJ (by omega) k5 (kind:=2) bd ⟨by decide,by decide⟩ (λ_=>⟨by rw[Gr hr];exact hn,hat⟩) c;have te:(x.l[k].aP 2 c'.aF).2.1.aE 2:=(RX.aE.aH _ _ _).aA (by omega);have sa':(x.l[k].aP 2 c'.aF).2.1.aD 21:=RX.aD.aH _ f.aE f.aG.1 _ _;rw[<-hy]at o1 o2 te sa' go;obtain⟨t1,t2,q1,q2,q3⟩:=go (.aA 5 [[ma,ca,aa,.aA .i64 y.2.1.o.aE,.aE y.2.1.o.aA]] false);rw[VX];simp only[go_sem,l0,l1,U5 nl6];refine u12.aA t2 q1 q2 q3 ok o1 k5 o2 (by omega) bb hN te sa' (λv8 Λ8 h8 w8 s8 wr8 a8 b8=>?_);simp only[go_sem];exact⟨Λ8,w8,_,(s1.aA t1).aA s8,by rw[wr8],a8,o1.aA (by omega) (by omega),b8⟩
 ·simp at c;rw[hy]at c;have e:=CM k5 (HE c);rw[<-hy]at e go;obtain⟨t1,t2,-⟩:=go (.aA 5 [[ma,ca,aa,.aA .i64 y.2.1.o.aE,.aE y.2.1.o.aA]] false);rw[VX];simp only[go_sem];exact⟨Λ6,w,x,s1.aA t1,rfl,by rw[<-e];exact t2,ok.aA (by omega) (by omega),bb.aC (by omega)⟩
theorem O6 {P:Program}{f f1 f2 f3 f4 f5 f6 f7 f8 f9 ag af ae:FuncId}(hf:Is P f (sV f1 f2 f3 f4 f5 f6 f7 f8 f9 ag af ae))(u1:wB P f1)(u2:qM P f2)(u3:pf P f3 fj.aI)(u4:pf P f4 fj.aE)(u5:oz P f5)(u6:yU P f6)(u7:Ei P f7)(u8:zk P f8 fq.aI)(u9:zk P f9 fq.aM)(a3:vV P ag)(a1:qR P af)(Z:lF P ae):uw P f:=by
 refine⟨hf.2,λΛ h nb N w x c0 B K k node drop a ok bb hB hK hN k5=>fS hf ?_⟩;have row:=a.aA;simp only[f_.aA]at row;have f:=ok.aC k k5;obtain⟨n1,j1,lrow,lg,r,v1,v2,v3,v4,v5,v6,v7,v8,-⟩:=a.aG (k:=k) k5;have vl:=(UY.1 v3).1;have m5:iI (gB k Λ) h r x.l[k]:=v5;have fl:=f.aL;have fb:=f.aC;have fs:=f.aU.2;have lo:=f.aD (by omega);have cf:x.l[k].aA.aD.aG (2^40):=(lA f.aE).le (by omega);have rR:mv h r x.l[k]:=let⟨g,ff,ra⟩:=m5.r;⟨g,ff,ra.aA⟩
 have hd:fC P f1 [.aC r 21 0 0] h λv h'=>v=.aF x.l[k].aA.v/\h'=h:=(u1.2 h r x.l[k] rR lo cf (by omega) ⟨by omega,fb.1,by omega⟩).aC λ_ _ ⟨b,e,o,X⟩=>⟨X,_,e▸gU.aA (ds:=x.l[k].aA.c) (fI.fz _ (λ_ x=>x) _ o),rfl⟩;simp only[sV,go_sem,row,v1,v2,v3];refine fZ u1.1 hd ?_;obtain⟨e,o,n,l,s,ev,he,ho,hn,hl,hs⟩:=lO (nG eZ h x.l[k].aA.c);have ev:x.l[k].aA.v=x.l[k].aA.aH e o n l s:=ev;have hv:=nG eZ h x.l[k].aA.c;have ha:∀H,fu eZ H x.l[k].aA.c (x.l[k].aA.aH e o n l s):=λH=>by rw[<-ev];exact nG eZ H _
 simp only[fF.aH]at ev ha;rw[ev];have se:=he.aA;have so:=ho.aA;have sn:=hn.aA;have sl:=hl.aA;have ss:=hs.aA;simp only[go_sem,se,so,sn,sl,ss];have ax:=(fF.aO (x:=x.l[k].aA) f.aE).1;generalize hH1:h++[some (e_.aA 10 [[AV.aA .i64 x.l[k].aA.aE,AV.aA .i64 x.l[k].aA.aC,AV.aA .i64 x.l[k].aA.aF,AV.aA .i64 x.l[k].aA.aA.aA,AV.aA .i64 x.l[k].aA.aA.aD,e,o,n,l,s]] false)]=H1;have X1:eW eZ h H1:=by rw[<-hH1];exact eW.b1 _
 have B1:=gJ h (some (e_.aA 10 [[AV.aA .i64 x.l[k].aA.aE,AV.aA .i64 x.l[k].aA.aC,AV.aA .i64 x.l[k].aA.aF,AV.aA .i64 x.l[k].aA.aA.aA,AV.aA .i64 x.l[k].aA.aA.aD,e,o,n,l,s]] false));rw[hH1]at B1;have l1:H1.length=h.length+1:=by rw[<-hH1];simp
 refine fZ u2.1 (u2.2 eZ H1 x.l[k].aA _ (ha H1) (f.aJ (by omega))) ?_;obtain⟨co,cn,cl,ec,ar,au,aw⟩:=kI (nG eZ H1 x.l[k].aA.of.1.c);have ec:x.l[k].aA.of.1.v=[co,cn,cl]:=ec;have ak:=ar.aA;have al:=au.aA;have am:=aw.aA;rw[ec];simp only[go_sem,ak,al,am];generalize hH2:H1++[some (e_.aA 3 [[co,cn,cl]] false)]=H2;have aj:eW eZ H1 H2:=by rw[<-hH2];exact eW.b1 _
 have X2:eW eZ h H2:=X1.tr aj;have B2:=gJ H1 (some (e_.aA 3 [[co,cn,cl]] false));rw[hH2]at B2;have l2:H2.length=h.length+2:=by rw[<-hH2];simp[l1]
 have b5:=aj.aA B1;have E:=X2.aA row;have W:=X2.aA v2;have a2:=a.up X2;have s2:gy Λ h Λ H2:=gy.up X2;have ad:=rR.up X2;have no:∃Λ' w' x',gy Λ h Λ' H2/\w'.rs.length=w.rs.length/\fW Λ' H2 nb w' (iA x')/\ib c0 (B+2) (K+200) x'/\ju (N+1) x':=⟨Λ,w,x,s2,rfl,a2,ok.aA (by omega) (by omega),bb.aC (by omega)⟩;simp only[go_sem,E,v1,W,v3];refine fZ u3.1 (u3.2 H2 r _ ad) ?_;by_cases c1:x.l[k].aI=2
 ·simp only[go_sem,E,v1,W,v3,U3 c1,VF];refine fZ u4.1 (u4.2 H2 r _ ad) ?_;by_cases c2:x.l[k].aE<x.l[k].aA.of.2;·simp only[go_sem,U3 c2];exact no
  ·have a8:x.l[k].aA.of.2<=x.l[k].aE:=by omega
   have aq:∀H,Rd eZ H (gK x.l[k].aA.aA.es) e:=λH=>Rd.aE (λ_ y=>y.elim) (λ_ y=>y.elim) _ _ he;have a7:∀H,fu eZ H x.l[k].aA.aA.c [.aA .i64 x.l[k].aA.aA.aA,.aA .i64 x.l[k].aA.aA.aD,e]:=λH=>by simp only[fA.c,fu];exact⟨_,_,rfl,by simp[Rd],_,_,rfl,by simp[Rd],_,_,rfl,aq H,rfl⟩
   simp only[go_sem,U2 c2,b5];refine fZ u5.1 (u5.2 eZ H2 x.l[k].aA.aA _ (a7 H2) lo) ?_;simp only[go_sem,E,v1,W,v3];have m2:iI (gB k Λ) H2 r x.l[k]:=by obtain⟨ao,er⟩:=UY.1 v4;rw[<-er];exact a2.aF k ao k5
   have ay:=f.aG.1;have ap:fC P f6 [.aC r 21 0 0] H2 λv h'=>v=(jN x.l[k].aC).av/\h'=H2:=(u6.2 (gB k Λ) H2 r x.l[k] m2 (by omega)).aC λ_ _ ⟨o,X⟩=>⟨X,_,gU.d (eY.fz (jN _) (λ_ x=>x) _ o),rfl⟩;refine fZ u6.1 ap ?_;simp only[go_sem];refine O5 (F:=eZ) (last:=x.l[k].aA.aA.aC) (λ_ y=>y.elim) (rS eZ H2 (jN x.l[k].aC)) ay (by simp[fm]) (by simp[fm]) (by simp[fm]) (by simp[fm]) (λLv H3 C fv ks an b0 lf ai=>?_);have p0:=(ks 0 (by decide) (by decide) (by decide) (by decide)).trans (show _=AV.aC nb 9 0 0 by simp[fm,g_]);have p1:=(ks 1 (by decide) (by decide) (by decide) (by decide)).trans (show _=AV.aA .i64 k by simp[fm,g_]);have p2:=(ks 2 (by decide) (by decide) (by decide) (by decide)).trans (show _=AV.aA .i64 node by simp[fm,g_]);have p3:=(ks 3 (by decide) (by decide) (by decide) (by decide)).trans (show _=AV.aE drop by simp[fm,g_]);have p9:=(ks 9 (by decide) (by decide) (by decide) (by decide)).trans (show _=AV.aC H1.length 3 0 0 by simp[fm]);clear ks;have B3:=ai.aA B2;have X3:eW eZ h H3:=X2.tr ai;have a6:∀H,fu eZ H x.l[k].aA.of.1.c [co,cn,cl]:=λH=>by rw[<-ec];exact nG eZ H _
   have a9:∀n,7<=n->x.l[k].aA.of.1.aG n:=λn hn=>(lA ax).le hn;simp only[go_sem,an,p9,B3];refine fZ u7.1 (u7.2 eZ _ H3 x.l[k].aA.of.1 C _ _ (a6 H3) b0.aG (a9 _ (by omega)) (by omega)) ?_;have aa:∀c':fq,c'.v=[ga c'.aA,ga c'.aC,ga c'.aD]:=λ_=>rfl;rw[aa];simp only[go_sem,nH];obtain⟨H4,U⟩:∃H4,H4=H3++[some (e_.aA 3 [[ga (x.l[k].aA.of.1.aJ C).1.aA,ga (x.l[k].aA.of.1.aJ C).1.aC,ga (x.l[k].aA.of.1.aJ C).1.aD]] false)]:=⟨_,rfl⟩;have O:eW eZ H3 H4:=by rw[U];exact eW.b1 _
   have X4:=X3.tr O;have B4:H4[H3.length]?=some (some (e_.aA 3 [[ga (x.l[k].aA.of.1.aJ C).1.aA,ga (x.l[k].aA.of.1.aJ C).1.aC,ga (x.l[k].aA.of.1.aJ C).1.aD]] false)):=by rw[U];exact gJ _ _
   have a4:=a.up X4;have s4:gy Λ h Λ H4:=gy.up X4;have z4:Λ H3.length=0:=a.aD X3.1;rw[<-U];clear U;refine ij (λc3=>?_) (λc3=>?_)
   ·clear c3;cases drop
    ·have ac:=O.aA B3;have ab:=(UY.1 B4).1;simp only[go_sem,p2,p3,p9,ac];refine fZ u9.1 (u9.2 eZ H4 x.l[k].aA.of.1 _ node (a6 H4) (a9 _ (by omega))) ?_;rw[aa];simp only[go_sem,nH,B4];obtain⟨H5,u⟩:∃H5,H5=H4.set H3.length (some (e_.aA 3 [[ga (x.l[k].aA.of.1.aM node).1.aA,ga (x.l[k].aA.of.1.aM node).1.aC,ga (x.l[k].aA.of.1.aM node).1.aD]] false)):=⟨_,rfl⟩;have M:eW eZ H3 H5:=by rw[u];exact O.aG (U8 _) _
     have B5:H5[H3.length]?=some (some (e_.aA 3 [[ga (x.l[k].aA.of.1.aM node).1.aA,ga (x.l[k].aA.of.1.aM node).1.aC,ga (x.l[k].aA.of.1.aM node).1.aD]] false)):=by rw[u];exact U5 ab
     have a5:=a.up (X3.tr M);have s5:gy Λ h Λ H5:=gy.up (X3.tr M);rw[<-u];clear u;refine ij (λc4=>?_) (λc4=>?_);·simp only[go_sem];exact⟨Λ,w,x,s5,rfl,a5,ok.aA (by omega) (by omega),bb.aC (by omega)⟩
     ·have I:(x.l[k].aA.of.1.aM node).2=0:=by simpa using c4
      exact CE (f1:=f1) (f2:=f2) (f3:=f3) (f4:=f4) (f5:=f5) (f6:=f6) (f7:=f7) (f8:=f8) (f9:=f9) a3 a1 Z a5 s5 ok bb hB hK hN k5 B5 z4 (by simp[fm,p0]) (by simp[fm,p1]) (by simp[fm]) (.inl ⟨node,Prod.ext rfl I⟩) (JS I).2.1 a8
    ·have ac:=O.aA B3;have ab:=(UY.1 B4).1;simp only[go_sem,p2,p3,p9,ac];refine fZ u8.1 (u8.2 eZ H4 x.l[k].aA.of.1 _ node (a6 H4) (a9 _ (by omega))) ?_;rw[aa];simp only[go_sem,nH,B4];obtain⟨H5,u⟩:∃H5,H5=H4.set H3.length (some (e_.aA 3 [[ga (x.l[k].aA.of.1.aI node).1.aA,ga (x.l[k].aA.of.1.aI node).1.aC,ga (x.l[k].aA.of.1.aI node).1.aD]] false)):=⟨_,rfl⟩;have M:eW eZ H3 H5:=by rw[u];exact O.aG (U8 _) _
     have B5:H5[H3.length]?=some (some (e_.aA 3 [[ga (x.l[k].aA.of.1.aI node).1.aA,ga (x.l[k].aA.of.1.aI node).1.aC,ga (x.l[k].aA.of.1.aI node).1.aD]] false)):=by rw[u];exact U5 ab
     have a5:=a.up (X3.tr M);have s5:gy Λ h Λ H5:=gy.up (X3.tr M);rw[<-u];clear u;refine ij (λc4=>?_) (λc4=>?_);·simp only[go_sem];exact⟨Λ,w,x,s5,rfl,a5,ok.aA (by omega) (by omega),bb.aC (by omega)⟩
     ·have I:(x.l[k].aA.of.1.aI node).2=0:=by simpa using c4
      exact CE (f1:=f1) (f2:=f2) (f3:=f3) (f4:=f4) (f5:=f5) (f6:=f6) (f7:=f7) (f8:=f8) (f9:=f9) a3 a1 Z a5 s5 ok bb hB hK hN k5 B5 z4 (by simp[fm,p0]) (by simp[fm,p1]) (by simp[fm]) (.inr <| .inl ⟨node,Prod.ext rfl I⟩) (Mi I).2.1 a8
   ·have ah:(x.l[k].aA.of.1.aJ C).2=true:=by simpa using c3
    exact CE (f1:=f1) (f2:=f2) (f3:=f3) (f4:=f4) (f5:=f5) (f6:=f6) (f7:=f7) (f8:=f8) (f9:=f9) a3 a1 Z a4 s4 ok bb hB hK hN k5 B4 z4 (by simp[fm,p0]) (by simp[fm,p1]) (by simp[fm]) (.inr (.inr ⟨C,Prod.ext rfl ah⟩)) (Pr ah).2.1 a8
 ·simp only[go_sem,U2 c1,VN];exact no
theorem Pm {P:Program}{f f1 f2 f3 f4 f5 f6 f7 f8 f9:FuncId}(hf:Is P f (iP f1 f2 f3 f4 f5 f6 f7 f8 f9))(u1:pV P f1){C:Int->Prop} (fin:∀{Λ h H nb N w x c0 B K q a d kd k i nq Le},nL Λ h H nb N w x c0 B K q a d kd k i nq Le->C kd->0<=kd->kd<12->vc P (iP f1 f2 f3 f4 f5 f6 f7 f8 f9).aA.tl.tl.tl.tl.tl ⟨Le,[],H⟩ (iE (iP f1 f2 f3 f4 f5 f6 f7 f8 f9).aC λ_ h'=>jQ Λ h nb N w x c0 B K kd k i d h')):wj C P f:=by
 refine⟨hf.2,λΛ h nb N w x c0 B K q a d hC A ok bb hB hK hN=>fS hf ?_⟩;obtain⟨H,hH⟩:∃H,H=h++[some (e_.aA 3 [[.aA .i64 q,.aA .i64 a,.aA .i64 d]] false)]:=⟨_,rfl⟩;have X1:eW eZ h H:=by rw[hH];exact eW.b1 _
 have B1:H[h.length]?=some (some (e_.aA 3 [[.aA .i64 q,.aA .i64 a,.aA .i64 d]] false)):=by rw[hH];exact gJ _ _
 have a1:=A.up X1;have s1:gy Λ h Λ H:=gy.up X1;have z0:Λ h.length=0:=A.aD (U8 _);have e:=a1.aA;simp only[f_.aA]at e;have pl:=a1.aO;have pl:ik w.pv=some (.aA .i64 x.aA.length):=pl;have bp:=bb.aA;have pk1:=qu (k:=a) (n:=5) (by omega);have pq:=qu (k:=q) (n:=12) (by omega);simp only[iP,go_sem];rw[<-hH];clear hH;have I:(x.aA.length:Int)<=2^40:=by have:x.aA.length<=21*N:=bp;omega
 refine lT.aA u1.1 (u1.2 a 5 (by omega)) ?_;simp only[go_sem,B1,e,pl];refine lT.aA u1.1 (u1.2 a x.aA.length I) ?_;simp only[go_sem,B1,e,pl];refine lT.aA u1.1 (u1.2 q 12 (by omega)) ?_;obtain⟨k,hk⟩:∃k:Nat,jb a 5=k:=⟨(jb a 5).toNat,by omega⟩;obtain⟨i,hi⟩:∃i:Nat,jb a x.aA.length=i:=⟨(jb a x.aA.length).toNat,by
  have:0<=jb a x.aA.length:=by
   by_cases c:(0:Int)<x.aA.length
   ·exact (qu c).1
   ·unfold jb;rw[U4 (by omega)];exact Vi _
  omega⟩
 have hi2:0<x.aA.length->i<x.aA.length:=λc=>by have:=(qu (k:=a) (n:=x.aA.length) (by omega)).2;omega
 rw[hk,hi];simp only[V4];have k5:k<x.l.length:=by have:=ok.aE;omega
 have ms:∀Le kd,lk 0 Le=.aC nb 9 0 0->lk 3 Le=.aC h.length 3 0 0->lk 4 Le=.aA .i64 k->lk 5 Le=.aA .i64 i->lk 6 Le=.aE (decide ((0:Int)<x.aA.length))->lk 31 Le=.aA .i64 kd->nL Λ h H nb N w x c0 B K q a d kd k i h.length Le:=λLe kd k0 k3 k4 u k6 E=>⟨a1,ok,bb,hB,hK,hN,s1,B1,z0,k5,hi2,k0,k3,k4,u,k6,E⟩;generalize jb q 12=kd at *;rw[GM,IP,GO,GP];refine fin (ms _ _ ?_ ?_ ?_ ?_ ?_ ?_) hC pq.1 pq.2<;>simp[fm,g_]
section
variable {P:Program} {f1 f2 f3 f4 f5 f6 f7 f8 f9:FuncId} {Λ:Nat->Nat} {h H:eX} {nb N:Nat} {w:f_} {x:gQ} {c0:fq} {B K:Nat} {q a d:Int} {kd:Int} {k i nq:Nat} {Le:fX}
theorem Pd (u1:pV P f1)(u9:uw P f9)(s:nL Λ h H nb N w x c0 B K q a d kd k i nq Le)(ck:kd=10):vc P (iP f1 f2 f3 f4 f5 f6 f7 f8 f9).aA.tl.tl.tl.tl.tl ⟨Le,[],H⟩ (iE (iP f1 f2 f3 f4 f5 f6 f7 f8 f9).aC λ_ h'=>jQ Λ h nb N w x c0 B K kd k i d h'):=by obtain⟨a1,ok,bb,hB,hK,hN,s1,B1,z0,k5,hi2,l0,l3,l4,l5,l6,l31⟩:=s;subst ck;have p5:=qu (k:=d) (n:=5) (by omega);have ew:IntKind.i64.wrap (1+jb d 5)=1+jb d 5:=gj (by omega);simp only[iP,AC.aC,jQ,l0,l3,l4,l31,go_sem,B1,Int.reduceEq,Wq];refine lT.aA u1.1 (u1.2 d 5 (by omega)) ?_;simp only[go_sem,ew];refine fy ⟨u9.1,u9.2 Λ H nb N w x c0 B K k _ false a1 ok bb hB hK hN k5⟩ ?_;rintro v8 h8 ⟨Λ8,w8,x8,s8,e,a8,u,b8⟩;simp only[go_sem];exact⟨Λ8,w8,x8,s1.aA s8,e,a8,u,b8,⟨λz=>by omega,λz=>by omega,λz=>by omega,λz=>by omega,λz=>by omega,λz=>by omega,λz=>by omega⟩⟩
theorem Pe (u1:pV P f1)(u9:uw P f9)(s:nL Λ h H nb N w x c0 B K q a d kd k i nq Le)(ck:kd=11):vc P (iP f1 f2 f3 f4 f5 f6 f7 f8 f9).aA.tl.tl.tl.tl.tl ⟨Le,[],H⟩ (iE (iP f1 f2 f3 f4 f5 f6 f7 f8 f9).aC λ_ h'=>jQ Λ h nb N w x c0 B K kd k i d h'):=by obtain⟨a1,ok,bb,hB,hK,hN,s1,B1,z0,k5,hi2,l0,l3,l4,l5,l6,l31⟩:=s;subst ck;have p5:=qu (k:=d) (n:=5) (by omega);have ew:IntKind.i64.wrap (1+jb d 5)=1+jb d 5:=gj (by omega);simp only[iP,AC.aC,jQ,l0,l3,l4,l31,go_sem,B1,Int.reduceEq,Wq];refine lT.aA u1.1 (u1.2 d 5 (by omega)) ?_;simp only[go_sem,ew];refine fy ⟨u9.1,u9.2 Λ H nb N w x c0 B K k _ true a1 ok bb hB hK hN k5⟩ ?_;rintro v8 h8 ⟨Λ8,w8,x8,s8,e,a8,u,b8⟩;simp only[go_sem];exact⟨Λ8,w8,x8,s1.aA s8,e,a8,u,b8,⟨λz=>by omega,λz=>by omega,λz=>by omega,λz=>by omega,λz=>by omega,λz=>by omega,λz=>by omega⟩⟩
end
theorem Pn {P:Program}{f f1 f2 f3 f4 f5 f6 f7 f8 f9:FuncId}(hf:Is P f (iP f1 f2 f3 f4 f5 f6 f7 f8 f9))(u1:pV P f1)(u2:sF P f2)(u3:lF P f3)(u4:vT P f4)(u5:yz P f5)(u6:qR P f6)(u7:qQ P f7)(u8:wv P f8)(u9:uw P f9):wj (λ_=>True) P f:=Pm hf u1 fun {_ _ _ _ _ _ _ _ _ _ _ _ _ kd _ _ _ _} s _ h0 _=>by
 by_cases c1:kd<=1
 ·exact Pc u2 u3 s c1 (by omega)
 by_cases c2:kd<=4
 ·exact Pf u4 s c2 c1
 by_cases c3:kd=5
 ·exact Pg s c3
 by_cases c4:kd=6
 ·exact Ph u5 s c4
 by_cases c5:kd=7
 ·exact Pj u3 u6 s c5
 by_cases c6:kd=8
 ·exact Pk u7 s c6
 by_cases c7:kd=9
 ·exact Pl u1 u3 u8 s c7
 by_cases c8:kd=10
 ·exact Pd u1 u9 s c8
 ·exact Pe u1 u9 s (by omega)
section
variable {Λ:Nat->Nat} {h h':eX} {nb:Nat} {w:f_} {v:i9}
theorem fW.bH (hn:h[nb]?=some (some (.aA 9 [[.aD,.aD,.aD,.aD,.aD,.aD,.aD,.aD,.aE false]] false))):fW (λm=>if m=nb then 101 else 0) h nb ⟨.aD,.aD,.aD,.aD,.aD,.aD,.aD,.aD,[]⟩ ⟨[],[],[],[],[],[],[],[]⟩:=
 ⟨λm hm=>by split at hm<;>simp_all[(UY.1 hn).1],U4 rfl,hn,⟨rfl,by decide⟩,.aD,λk k1=>by simp at k1,⟨[],.aD,rfl⟩,.aD,⟨[],.aD,rfl⟩,⟨[],.aD,rfl⟩,.aD,.aD,.aD⟩
theorem fW.bI (a:fW Λ h nb w v){Λ':Nat->Nat}(lt:∀m,Λ' m≠0->m<h.length)(e:∀m,Λ m / 10≠v.l.length+1->m<h.length->Λ m=0\/Λ' m=Λ m)(z:∀m,m<h.length->Λ m=0->Λ' m=0\/Λ' m / 10=v.l.length+1)(z2:∀m,Λ m / 10=v.l.length+1->Λ' m=0\/Λ' m / 10=v.l.length+1)(hz:∀m,m<h.length->Λ m=0->Λ' m=0):fW Λ' h nb w v:=by
 have nbl:=(UY.1 a.aA).1;have l5:=a.aE;have big:∀m,100<=Λ m->Λ' m=Λ m:=λm hm=>by have:=a.lt m (by omega);rcases e m (by omega) this with c | c<;>omega
 have cc:∀{j sz:Nat}{b:AV} {es:List (List AV)},100<=j->gC (λm=>Λ m=j) h sz b es->gC (λm=>Λ' m=j) h sz b es:=λhj c=>c.aA (λm hm _=>by have u:Λ m=_:=hm;show Λ' m=_;rw[big m (by omega)];exact u) (λ_ _ _=>rfl);have zz:∀m,Zs Λ h m->Zs Λ' h m:=λm hm=>⟨hz m hm.2 hm.1,hm.2⟩;have kz:gY (Zs Λ h) h h:=λ_ _ _ y=>y;obtain⟨hr,h1,h2⟩:=a.aJ;obtain⟨pr,p1,p2⟩:=a.aH;obtain⟨dr,d1,d2⟩:=a.aI;refine⟨lt,by rw[big nb (by rw[a.aC];decide)];exact a.aC,a.aA,a.aE,cc (by omega) a.l,λk k1 k2=>?_,⟨hr,cc (by omega) h1,fY.aA zz kz _ _ h2⟩,cc (by omega) a.aL,⟨pr,cc (by omega) p1,fY.aA zz kz _ _ p2⟩,⟨dr,cc (by omega) d1,fY.aA zz kz _ _ d2⟩,cc (by omega) a.aN,cc (by omega) a.aK,cc (by omega) a.aM⟩;have e2:gB k Λ'=gB k Λ:=by
  funext m
  unfold gB;by_cases c:Λ m / 10=k+1
  ·have hm:=a.lt m (by omega);rcases e m (by omega) hm with y | y;·omega
   ·rw[y]
  ·rw[U6 c];by_cases c2:Λ' m / 10=k+1
   ·have hm:=lt m (by omega);by_cases c3:Λ m / 10=v.l.length+1;·have:=z2 m c3;omega
    ·rcases e m c3 hm with y | y;·have:=z m hm y;omega
     ·rw[y]at c2;exact absurd c2 c
   ·rw[U6 c2]
 rw[e2];exact a.aF k k1 k2
theorem fW.bE (a:fW Λ h nb w v)(l5:v.l.length<5){h1 h2:eX}{r8:Nat}{id d:Int}{q:fF}(hx:eW eZ h h1)(h8:h.length<=r8) (hm:h1[r8]?=some (some (.aA 21 [(fj.aQ id q d).aJ .aD .aD] false))) (E:eW eZ h1 h2):
  ∃x' h3,iu h2 1 8 w.lv [[.aC r8 21 0 0]]=some (x',h3)/\x'.aH=true/\h3[nb]?=some (some (.aA 9 [w.aA] false))/\nb<h3.length/\∃Λ',(∀m,m<h.length->Λ m=0->Λ' m=0)/\(∀m,m<h.length->Λ m=0->(h3.set nb (some (.aA 9 [({w with lv:=x'}:f_).aA] false)))[m]?=h[m]?)/\h.length<=(h3.set nb (some (.aA 9 [({w with lv:=x'}:f_).aA] false))).length /\
   fW Λ' (h3.set nb (some (.aA 9 [({w with lv:=x'}:f_).aA] false))) nb {w with lv:=x',rs:=w.rs++[r8]} {v with l:=v.l++[fj.aQ id q d]}:=by
 have hl1:=hx.1;have hl2:=E.1;have r8l:=(UY.1 hm).1;obtain⟨Λw,hΛ⟩:∃Λw:Nat->Nat,Λw=λm=>if Λ m / 10=v.l.length+1 then 0 else Λ m:=⟨_,rfl⟩
 have wz:∀m,Λ m=0->Λw m=0:=λm e=>by rw[hΛ];show (if Λ m / 10=v.l.length+1 then 0 else Λ m)=0;rw[e];split<;>rfl
 have w0:fW Λw h nb w v:=a.bI (λm hm=>a.lt m (λe=>hm (wz m e))) (λm c _=>.inr (by rw[hΛ];exact U6 c)) (λm _ e=>.inl (wz m e)) (λm c=>.inl (by rw[hΛ];exact U4 c)) (λm _ e=>wz m e);have wn:∀m,Λw m / 10≠v.l.length+1:=λm=>by rw[hΛ];show (if Λ m / 10=v.l.length+1 then 0 else Λ m) / 10≠_;split<;>omega
 clear hΛ;have X2:=hx.tr E;have a2:=w0.up X2;have nbl:=(UY.1 w0.aA).1;obtain⟨x',h3,e1,c3,X3⟩:=a2.l.aC (bytes:=8) (ys:=[[.aC r8 21 0 0]]) (eW.aC _ _) (by simp only[Vg,VW];have:=w0.aE;omega);have hl3:=X3.1;have no:∀m,h.length<=m->Λw m=0:=λm hm=>w0.aD hm;have O:h3[nb]?=some (some (.aA 9 [w.aA] false)):=(X3.2 nb (by omega) (λy=>by have y':Λw nb=102:=y;rw[w0.aC]at y';omega)).trans a2.aA;refine⟨x',h3,e1,c3.aE,O,by omega,λm=>if m=r8 then 10*(v.l.length+1)+6 else if m<h2.length then Λw m else if m<h3.length then 102 else 0,?_⟩;obtain⟨Λ',u⟩:∃Λ':Nat->Nat,Λ'=λm=>if m=r8 then 10*(v.l.length+1)+6 else if m<h2.length then Λw m else if m<h3.length then 102 else 0:=⟨_,rfl⟩
 rw[<-u];have l8:Λ' r8=10*(v.l.length+1)+6:=by rw[u];exact U4 rfl
 have lo:∀m,m≠r8->m<h2.length->Λ' m=Λw m:=λm h1 h2=>by rw[u];show (if m=r8 then _ else if m<_ then _ else _)=_;rw[U6 h1,U4 h2]
 have lm:∀m,h2.length<=m->m<h3.length->Λ' m=102:=λm h1 h2=>by rw[u];show (if m=r8 then _ else if m<_ then _ else _)=_;rw[U6 (by omega),U6 (by omega),U4 h2]
 have lh:∀m,h3.length<=m->Λ' m=0:=λm h1=>by rw[u];show (if m=r8 then _ else if m<_ then _ else _)=_;rw[U6 (by omega),U6 (by omega),U6 (by omega)]
 clear u;generalize hH:h3.set nb (some (.aA 9 [({w with lv:=x'}:f_).aA] false))=H;have hHl:H.length=h3.length:=by rw[<-hH];simp
 have kk:∀m,m≠nb->m<h2.length->Λw m≠102->H[m]?=h2[m]?:=λm h1 h2 hn=>by rw[<-hH,UZ (λe=>h1 e.symm)];exact X3.2 m h2 (λy=>hn y)
 have ko:∀m,m≠nb->m<h.length->Λw m≠102->H[m]?=h[m]?:=λm h1 h2 hn=>(kk m h1 (by omega) hn).trans (X2.2 m h2 (λy=>y));have zz:∀m,Zs Λw h m->Zs Λ' H m:=λm hm=>⟨(lo m (by have:=hm.2;omega) (by have:=hm.2;omega)).trans hm.1,by have:=hm.2;omega⟩;have nz:∀m,Λw m=0->m≠nb:=λm e y=>by rw[y,w0.aC]at e;omega
 have kz:gY (Zs Λw h) h H:=λm hm y hy=>(ko m (nz m hm.1) hm.2 (by rw[hm.1];omega)).trans hy;have cc:∀{i sz:Nat}{b:AV} {es:List (List AV)},i≠102->i≠101->100<=i->gC (λm=>Λw m=i) h sz b es->gC (λm=>Λ' m=i) H sz b es:=λh1 h2 h3' c=>c.aA (λm hm hlt=>(lo m (by omega) (by omega)).trans hm) (λm hm hlt=>by have C:Λw m=_:=hm;exact ko m (λy=>by rw[y,w0.aC]at C;omega) hlt (by omega));obtain⟨hr,W,U⟩:=w0.aJ;obtain⟨pr,M,I⟩:=w0.aH;obtain⟨dr,a1,Z⟩:=w0.aI;refine⟨λm hm e=>(lo m (by omega) (by omega)).trans (wz m e),λm hm e=>ko m (nz m (wz m e)) hm (by rw[wz m e];omega),by omega,λm hm=>?_,(lo nb (by omega) (by omega)).trans w0.aC,by rw[<-hH];exact U5 (by omega),⟨by simp;exact w0.aE.1,by simp;omega⟩,?_,λk k1 k2=>?_,⟨hr,cc (by omega) (by omega) (by omega) W,fY.aA zz kz _ _ U⟩,cc (by omega) (by omega) (by omega) w0.aL,⟨pr,cc (by omega) (by omega) (by omega) M,fY.aA zz kz _ _ I⟩,⟨dr,cc (by omega) (by omega) (by omega) a1,fY.aA zz kz _ _ Z⟩,cc (by omega) (by omega) (by omega) w0.aN,cc (by omega) (by omega) (by omega) w0.aK,cc (by omega) (by omega) (by omega) w0.aM⟩;·exact Vb λc=>hm (lh m (by omega))
 ·show gC _ H 1 x' ((w.rs++[r8]).map λr=>[AV.aC r 21 0 0]);rw[VJ];refine c3.aA (λm hm hlt=>?_) (λm hm hlt=>?_)
  ·have C:(Λw m=102/\m<h2.length)\/h2.length<=m:=hm;rcases C with⟨y,y2⟩ | y;·exact (lo m (λe=>by rw[e,no r8 h8]at y;omega) y2).trans y
   ·exact lm m y hlt
  ·have C:(Λw m=102/\m<h2.length)\/h2.length<=m:=hm;rw[<-hH,UZ (λe=>?_)];rcases C with⟨y,y2⟩ | y;·rw[<-e,w0.aC]at y;omega
   ·omega
 ·have k1':k<w.rs.length+1:=by simpa using k1
  have rl:=w0.aE.1;by_cases c:k=v.l.length
  ·subst c;have g1:(w.rs++[r8])[v.l.length]'k1=r8:=by simp[<-rl]
   have g2:(v.l++[fj.aQ id q d])[v.l.length]'k2=fj.aQ id q d:=by simp
   have H8:H[r8]?=some (some (.aA 21 [(fj.aQ id q d).aJ .aD .aD] false)):=(kk r8 (by omega) (by omega) (by rw[no r8 h8];omega)).trans (E.aA hm);show iI _ H ((w.rs++[r8])[v.l.length]'k1) ((v.l++[fj.aQ id q d])[v.l.length]'k2);rw[g1,g2];have e:gB v.l.length Λ'=λm=>if m=r8 then 6 else 0:=by
    funext m
    unfold gB;by_cases c1:m=r8;·subst c1;rw[l8,U4 (by omega),U4 rfl];omega
    ·rw[U6 c1];by_cases c2:m<h2.length;·rw[lo m c1 c2,U6 (wn m)]
     ·by_cases c3:m<h3.length
      ·rw[lm m (by omega) c3,U6 (by omega)]
      ·rw[lh m (by omega),U6 (by omega)]
   rw[e];exact CI H8
  ·have g1:(w.rs++[r8])[k]'k1=w.rs[k]'(by omega):=Wn (by omega);have g2:(v.l++[fj.aQ id q d])[k]'k2=v.l[k]'(by omega):=Wn (by omega);show iI _ H ((w.rs++[r8])[k]'k1) ((v.l++[fj.aQ id q d])[k]'k2);rw[g1,g2];have m0:=w0.aF k (by omega) (by omega);have e:gB k Λ'=gB k Λw:=by
    funext m
    unfold gB;by_cases c1:m=r8;·subst c1;rw[l8,no m h8,U6 (by omega)];simp
    ·by_cases c2:m<h2.length
     ·rw[lo m c1 c2]
     ·by_cases c3:m<h3.length
      ·rw[lm m (by omega) c3,no m (by omega),U6 (by omega)];simp
      ·rw[lh m (by omega),no m (by omega)]
   rw[e];refine m0.aC (by omega) (λm hm=>ko m (λy=>?_) (m0.aA m hm).1 (λy=>?_));·unfold gB at hm;rw[y,w0.aC,U6 (by omega)]at hm;exact hm rfl
   ·unfold gB at hm;rw[y,U6 (by omega)]at hm;exact hm rfl
end
section
variable {Λ:Nat->Nat} {h h':eX} {nb:Nat} {w:f_} {v:i9}
theorem fW.bt (a:fW Λ h nb w v){h2:eX}(hx:eW eZ h h2)(n:Int)(hb:v.aC.length<=2^30):
  ∃x' h3,iu h2 1 8 w.av [[.aA .i64 n]]=some (x',h3)/\x'.aH=true/\h3[nb]?=some (some (.aA 9 [w.aA] false))/\nb<h3.length/\∃Λ',gy Λ h Λ' (h3.set nb (some (.aA 9 [({w with av:=x'}:f_).aA] false)))/\fW Λ' (h3.set nb (some (.aA 9 [({w with av:=x'}:f_).aA] false))) nb {w with av:=x'} {v with aC:=v.aC++[n]}:=by
 obtain⟨x',h3,e1,sc,n3,e,f⟩:=a.aP hx (bytes:=8) (ys:=[[.aA .i64 n]]) (j:=104) (by omega) a.aL (by simp only[hU,Vg,VW];omega);obtain⟨Λ',r1,s1,s2,c1,row⟩:=f ({w with av:=x'}:f_).aA;refine⟨x',h3,e1,sc,n3,e,Λ',s1,r1.lt,r1.aC,row,r1.aD,r1.l (by omega),r1.aA,r1.aJ (by omega),?_,r1.aK (by omega),r1.aE (by omega),r1.aH (by omega),r1.aG (by omega),r1.aF (by omega)⟩;show gC _ _ 1 x' (hU (v.aC++[n]));have:hU (v.aC++[n])=hU v.aC++[[.aA .i64 n]]:=by simp[hU]
 rw[this];exact c1
theorem fW.bw (a:fW Λ h nb w v){h2:eX}(hx:eW eZ h h2){q:fF}{cs:List AV}(hy:fu (Zs Λ h2) h2 (iQ q).c cs)(hb:v.aD.length<=2^30):
  ∃x' h3,iu h2 2 48 w.hv [cs]=some (x',h3)/\x'.aH=true/\h3[nb]?=some (some (.aA 9 [w.aA] false))/\nb<h3.length/\∃Λ',gy Λ h Λ' (h3.set nb (some (.aA 9 [({w with hv:=x'}:f_).aA] false)))/\fW Λ' (h3.set nb (some (.aA 9 [({w with hv:=x'}:f_).aA] false))) nb {w with hv:=x'} {v with aD:=v.aD++[q]}:=by
 obtain⟨rows,p1,p2⟩:=a.aJ;have l1:=kM p2;simp only[Vg]at l1;obtain⟨x',h3,e1,sc,n3,e,f⟩:=a.aP hx (bytes:=48) (ys:=[cs]) (j:=103) (by omega) p1 (by simp only[VW];omega);obtain⟨Λ',r1,s1,s2,c1,row⟩:=f ({w with hv:=x'}:f_).aA;refine⟨x',h3,e1,sc,n3,e,Λ',s1,r1.lt,r1.aC,row,r1.aD,r1.l (by omega),r1.aA,⟨_,c1,?_⟩,r1.aI (by omega),r1.aK (by omega),r1.aE (by omega),r1.aH (by omega),r1.aG (by omega),r1.aF (by omega)⟩;show fY _ _ ((v.aD++[q]).map λx=>(iQ x).c) _;rw[VJ];exact uB (fY.aA s1.zs s1.kz _ _ p2) (by simp only[Vv,VO,fY];exact⟨_,_,rfl,s2.aE hy,rfl⟩)
end
def kF (n:Nat):fq:=⟨(List.range n).map λi:Nat=>(i:Int)+1,[],[]⟩
def gZ (n:Nat):fF:=⟨1,0,0,⟨0,0,[]⟩,kF n,[]⟩
def j8 (n i:Nat):fj:=fj.aQ (i+1) (gZ n) (3*(i+1))
def n9 (n i:Nat):i9:=⟨(List.range i).map (j8 n),List.replicate i (gZ n),List.replicate i 0,[],[],[],[],[]⟩
def gQ.aK (n:Nat):gQ:=⟨(List.range 5).map (j8 n),[],[],[],[],[]⟩
def yr (P:Program)(f:FuncId):Prop:=fK P f=true/\∀(h:eX)(n:Nat),1<=n/\n<=5->
 fC P f [.aA .i64 n] h λr h'=>∃nb Λ w,r=.aC nb 9 0 0/\eW eZ h h'/\(∀m,m<h.length->Λ m=0)/\fW Λ h' nb w (iA (gQ.aK n))
theorem KI {P:Program}{f1 f2:FuncId}{h:eX}{n b:Nat}{L:fX}{K:AX->St->Prop}(hn:n<=5)(k0:lk 0 L=.aA .i64 n)(k3:lk 3 L=.aC b 3 0 0)(k4:lk 4 L=.aA .i64 (1:Int)) (hb:h[b]?=some (some (.aA 3 [[.aD,.aD,.aD]] false)))
  (hK:∀Lv h' ov,(∀m,m≠4->m≠11->lk m Lv=lk m L)->h.length<=h'.length->(∀m,m<h.length->m≠b->h'[m]?=h[m]?)->h'[b]?=some (some (.aA 3 [[ov,.aD,.aD]] false))->gC (λm=>h.length<=m) h' 1 ov (hU (kF n).aA)->K (.aD 0) ⟨Lv,[],h'⟩):
  vc P (.aD (Ae f1 f2)) ⟨L,[],h⟩ K:=by
 have bl:=(UY.1 hb).1;obtain⟨I,hI⟩:∃I:Nat->fX->eX->Prop,∀m Lv h',I m Lv h'↔∃(i:Nat)(ov:AV),(∀m,m≠4->m≠11->lk m Lv=lk m L)/\lk 4 Lv=.aA .i64 ((i:Int)+1)/\h.length<=h'.length/\(∀m,m<h.length->m≠b->h'[m]?=h[m]?)/\h'[b]?=some (some (.aA 3 [[ov,.aD,.aD]] false))/\gC (λm=>h.length<=m) h' 1 ov (hU (kF i).aA)/\i<=n/\m=n-i:=⟨_,λ_ _ _=>WA⟩;refine iM I n ((hI _ _ _).2 ⟨0,.aD,λ_ _ _=>rfl,by simpa using k4,U8 _,λ_ _ _=>rfl,hb,.inl ⟨rfl,rfl⟩,by omega,by omega⟩) ?_;intro m Lv h' hh;obtain⟨i,ov,ks,m4,hl,hk,C,c,hi,rfl⟩:=(hI _ _ _).1 hh;clear hh;have m0:=(ks 0 (by decide) (by decide)).trans k0;have m3:=(ks 3 (by decide) (by decide)).trans k3;have sv:=c.aE;have bl':b<h'.length:=by omega
 have R:∀y,(h'++[y])[b]?=_:=λy=>(eW.b1 y).aA C;have ew:IntKind.i64.wrap ((i:Int)+1+1)=((i+1:Nat):Int)+1:=by rw[gj (by omega)];omega
 simp only[Ae,go_sem,m0,m4];refine ij (λci=>?_) (λci=>?_)
 ·have ci:i+1<=n:=by simp at ci;omega
  simp only[go_sem,m3,m4,C];have ae:iU (h'++[some (e_.aA 1 [[AV.aA IntKind.i64 ((i:Int)+1)]] false)]) 1 (.aG h'.length 1 0 1 (some 1))=some [[.aA .i64 ((i:Int)+1)]]:=qX (g:=false) (gJ _ _) (some 1) (len:=1) rfl;have c':gC (λm=>h.length<=m) (h'++[some (e_.aA 1 [[AV.aA IntKind.i64 ((i:Int)+1)]] false)]) 1 ov (hU (kF i).aA):=c.aA (λ_ y _=>y) (λm _ hlt=>(eW.b1 _).2 m hlt (λy=>y));obtain⟨v',h3,g1,c3,X3⟩:=c'.aC (bytes:=8) (ys:=[[.aA .i64 ((i:Int)+1)]]) (eW.aC _ _) (by simp only[hU,kF,Vg,List.length_range,Vf,Ve];omega);rw[<-iv ae]at g1;have E:=c3.aE;have U:¬h.length<=b:=by omega
  have O:h3[b]?=some (some (.aA 3 [[ov,.aD,.aD]] false)):=(X3.2 b (by simp;omega) U).trans (R _);have W:=(UY.1 O).1;simp only[go_sem,m3,g1,O,E,gz E,m4,ew];have xl:=X3.1;simp only[U1,VW]at xl;refine⟨_,by omega,(hI _ _ _).2 ⟨i+1,v',λm h1 h2=>by simp only[fm];rw[U6 (λe=>h1 e),U6 (λe=>h2 e)];exact ks m h1 h2,by simp[fm],by rw[U9];omega,λm hm M=>?_,U5 W,?_,by omega,rfl⟩⟩;·rw[UZ (λe=>M e.symm)];exact (X3.2 m (by simp;omega) (by show ¬h.length<=m;omega)).trans (((eW.b1 _).2 m (by omega) (λy=>y)).trans (hk m hm M))
  ·have e:hU (kF (i+1)).aA=hU (kF i).aA++[[.aA .i64 ((i:Int)+1)]]:=by simp[hU,kF,List.range_succ]
   rw[e];refine c3.aA (λm hm _=>?_) (λm hm hlt=>UZ (λy=>?_));·have u:(h.length<=m/\_)\/_<=m:=hm;simp only[U1,VW]at u;omega
   ·have u:(h.length<=m/\_)\/_<=m:=hm;simp only[U1,VW]at u;omega
 ·have ci:¬i+1<=n:=by simp at ci;omega
  have:i=n:=by omega
  subst this;simp only[go_sem];exact hK _ _ ov (λm h1 h2=>by rw[fm,U6 (λe=>h2 e)];exact ks m h1 h2) hl hk C c
theorem KJ {P:Program}{f1 f2:FuncId}(u1:qQ P f1)(u2:vW P f2){h:eX}{n nb b3:Nat}{ov:AV}{F:Nat->Prop}{L:fX}{K:AX->St->Prop}(hn:1<=n/\n<=5)(k3:lk 3 L=.aC b3 3 0 0)(k5:lk 5 L=.aC nb 9 0 0)(k6:lk 6 L=.aA .i64 (1:Int)) (hb:h[b3]?=some (some (.aA 3 [[ov,.aD,.aD]] false))) (hF:∀m,F m->m<nb) (b3n:b3<nb) (ro:Rd F h (fN (kF n).aA) ov)
  (hnb:h[nb]?=some (some (.aA 9 [[.aD,.aD,.aD,.aD,.aD,.aD,.aD,.aD,.aE false]] false)))
  (hK:∀Lv h' Λ w,lk 5 Lv=.aC nb 9 0 0->(∀m,m<nb->Λ m=0)->nb<h'.length->(∀m,m<nb->h'[m]?=h[m]?)->fW Λ h' nb w (n9 n 5)->K (.aD 2) ⟨Lv,[],h'⟩):
  vc P (.aD (Af f1 f2)) ⟨L,[],h⟩ K:=by
 have nbl:=(UY.1 hnb).1
 obtain⟨I,hI⟩:∃I:Nat->fX->eX->Prop,∀m Lv h',I m Lv h'↔∃(i:Nat)(Λ:Nat->Nat)(w:f_),(lk 3 Lv=.aC b3 3 0 0/\lk 5 Lv=.aC nb 9 0 0/\lk 6 Lv=.aA .i64 ((i:Int)+1))/\(∀m,m<nb->Λ m=0)/\nb<h'.length/\(∀m,m<nb->h'[m]?=h[m]?)/\fW Λ h' nb w (n9 n i)/\i<=5/\m=5-i:=⟨_,λ_ _ _=>WA⟩
 refine iM I 5 ((hI _ _ _).2 ⟨0,_,_,⟨k3,k5,by simpa using k6⟩,λm hm=>U6 (by omega),nbl,λ_ _=>rfl,fW.bH hnb,by omega,by omega⟩) ?_
 intro m Lv h' hh
 obtain⟨i,Λ,w,⟨m3,m5,m6⟩,hz,nbl',hk,a,hi,rfl⟩:=(hI _ _ _).1 hh
 clear hh
 have row:=a.aA
 simp only[f_.aA]at row
 have hb':=(hk b3 b3n).trans hb
 have ro':Rd F h' (fN (kF n).aA) ov:=Rd.aE (λ_ y=>y) (λm hm y hy=>(hk m (hF m hm)).trans hy) _ _ ro
 have so:=ro'.aA
 simp only[Af,go_sem,m6]
 refine ij (λci=>?_) (λci=>?_)
 ·have ci:i<5:=by simp at ci;omega
  obtain⟨H1,hH1⟩:∃H1,H1=h'++[some (e_.aA 10 [[.aA .i64 1,.aA .i64 0,.aA .i64 0,.aA .i64 0,.aA .i64 0,.aD,ov,.aD,.aD,.aD]] false)]:=⟨_,rfl⟩
  have X1:eW eZ h' H1:=by rw[hH1];exact eW.b1 _
  have C1:H1[h'.length]?=some (some (e_.aA 10 [[.aA .i64 1,.aA .i64 0,.aA .i64 0,.aA .i64 0,.aA .i64 0,.aD,ov,.aD,.aD,.aD]] false)):=by rw[hH1];exact gJ _ _
  have l1:H1.length=h'.length+1:=by rw[hH1];simp
  have N1:∀sz i o,gN H1.length 1 (.aC nb sz i o)=true:=λsz i o=>ig (by omega)
  have N2:∀sz i o,gN H1.length 1 (.aC h'.length sz i o)=true:=λsz i o=>ig (by omega)
  have R1:∀y,(H1++[y])[nb]?=_:=λy=>(X1.tr (eW.b1 y)).aA row
  have R2:∀y,(H1++[y])[h'.length]?=_:=λy=>(eW.b1 y).aA C1
  simp only[go_sem,m3,m5,hb',so]
  rw[<-hH1]
  clear hH1
  simp only[go_sem,m6,R1,R2]
  rw[<-l1]
  refine⟨N1 _ _ _,?_⟩
  have hc:fu F (H1++[none]) (gZ n).c [.aA .i64 1,.aA .i64 0,.aA .i64 0,.aA .i64 0,.aA .i64 0,.aD,ov,.aD,.aD,.aD]:=by
   have ro2:Rd F (H1++[none]) (fN (kF n).aA) ov:=ro'.up (X1.tr (eW.b1 none))
   simp only[fF.c,gZ,fu]
   exact⟨_,_,rfl,rfl,_,_,rfl,rfl,_,_,rfl,rfl,_,_,rfl,rfl,_,_,rfl,rfl,_,_,rfl,vF _ _ 3,_,_,rfl,ro2,_,_,rfl,vF _ _ 1,_,_,rfl,vF _ _ 1,_,_,rfl,vF _ _ 1,rfl⟩
  have fc:(gZ n).aD.aG (2^40):=⟨by simp[gZ,kF];omega,by simp[gZ,kF],by simp[gZ,kF]⟩
  have lo:jL (gZ n).aA:=⟨Vi _,by show (0:Int)<=2^41;decide,by show (0:Nat)<=_;omega,λe he=>by cases he⟩
  refine fy ⟨u1.1,u1.2 F (H1++[none]) _ (gZ n) _ _ hc lo fc (by simp[gZ]) ⟨by simp[gZ],by simp[gZ],by simp[gZ]⟩⟩ ?_
  rintro _ H8 ⟨r8,rfl,hr8,row8,X8⟩
  have hfree:H8[H1.length]?=some none:=X8.aA (by simp)
  have hlt:=(UY.1 hfree).1
  have hr8':H1.length+1<=r8:=by simpa using hr8
  obtain⟨H9,hH9⟩:∃H9,H9=H8.set H1.length (some (.aA 1 [[.aC r8 21 0 0]] false)):=⟨_,rfl⟩
  have X9:eW eZ H1 H9:=by rw[hH9];exact ((eW.b1 none).tr X8).aG (U8 _) _
  have row9:H9[r8]?=some (some (.aA 21 [(fj.aQ ((i:Int)+1) (gZ n) (IntKind.i64.wrap (3*((i:Int)+1)))).aJ .aD .aD] false)):=by rw[hH9,UZ (by omega)];exact row8
  have ae:iU H9 1 (.aG H1.length 1 0 1 (some 1))=some [[.aC r8 21 0 0]]:=qX (g:=false) (by rw[hH9];exact U5 hlt) (some 1) (len:=1) rfl
  obtain⟨y1,h3,g1,g2,g3,g4,Λ3,j1,j2,j3,a3⟩:=(a.up X1).bE (by simpa [n9] using ci) X9 (by omega) row9 (eW.aC _ _)
  rw[<-iv ae]at g1
  have row1:=X1.aA row
  have R9:=X9.aA row1
  have R8:=((eW.b1 none).tr X8).aA row1
  simp only[f_.aA]at g3 j2 j3 a3
  simp only[go_sem,jh,hfree,R8,<-hH9,g1,g2,g3,g4,gz g2]
  generalize h3.set nb (some (e_.aA 9 [[y1,w.hv,w.av,w.pv,w.dv,w.tv,w.ev,w.qv,AV.aE false]] false))=H10 at *
  have row10:=a3.aA
  simp only[f_.aA]at row10
  have z10:Λ h'.length=0:=a.aD (U8 _)
  have C10:=(j2 h'.length (by omega) z10).trans C1
  have nl10:=(UY.1 row10).1
  have cl10:=(UY.1 C10).1
  have N1':∀sz i o,gN H10.length 2 (.aC nb sz i o)=true:=λsz i o=>ig nl10
  have N2':∀sz i o,gN H10.length 2 (.aC h'.length sz i o)=true:=λsz i o=>ig cl10
  have R1':∀y z,(H10++[y]++[z])[nb]?=_:=λy z=>(eW.b2 y z).aA row10
  have R2':∀y z,(H10++[y]++[z])[h'.length]?=_:=λy z=>(eW.b2 y z).aA C10
  have hc10:fu F (H10++[none]++[none]) (gZ n).c [.aA .i64 1,.aA .i64 0,.aA .i64 0,.aA .i64 0,.aA .i64 0,.aD,ov,.aD,.aD,.aD]:=fu.aA (λ_ y=>y) (λm hm y hy=>by
   have mb:=hF m hm
   have hy':H1[m]?=some y:=by
    have:=(Vy (l₁:=H1) (l₂:=[none]) (i:=m) (by omega)).symm.trans hy
    exact this
   exact (eW.b2 _ _).aA ((j2 m (by omega) (hz m mb)).trans hy')) _ _ hc
  simp only[go_sem,m5,R1',R2',N1',N2']
  refine fZ u2.1 (u2.2 F _ (gZ n) _ hc10 ⟨lo.2.2,fc,by simp[gZ]⟩) ?_
  simp only[go_sem,jh,R1',R2',fF.aM,qA,nH,tX]
  obtain⟨H11,hH11⟩:∃H11,H11=H10++[some (e_.aA 10 [[.aA .i64 (gZ n).aE,.aA .i64 (gZ n).aC,.aA .i64 (gZ n).aF,.aA .i64 (gZ n).aA.aA,.aA .i64 (gZ n).aA.aD,jv (gZ n).aA.es,ga (gZ n).aD.aA,ga (gZ n).aD.aC,ga (gZ n).aD.aD,iS (gZ n).aG]] false)]++[some (e_.aA 2 [[AV.aG H10.length 10 0 1 (some 1),AV.aD]] false)]:=⟨_,rfl⟩
  have X11:eW eZ H10 H11:=by rw[hH11];exact eW.b2 _ _
  have C11:=jx H10 (some (e_.aA 10 [[.aA .i64 (gZ n).aE,.aA .i64 (gZ n).aC,.aA .i64 (gZ n).aF,.aA .i64 (gZ n).aA.aA,.aA .i64 (gZ n).aA.aD,jv (gZ n).aA.es,ga (gZ n).aD.aA,ga (gZ n).aD.aC,ga (gZ n).aD.aD,iS (gZ n).aG]] false)) (some (e_.aA 2 [[AV.aG H10.length 10 0 1 (some 1),AV.aD]] false))
  have D11:=iF H10 (some (e_.aA 10 [[.aA .i64 (gZ n).aE,.aA .i64 (gZ n).aC,.aA .i64 (gZ n).aF,.aA .i64 (gZ n).aA.aA,.aA .i64 (gZ n).aA.aD,jv (gZ n).aA.es,ga (gZ n).aD.aA,ga (gZ n).aD.aC,ga (gZ n).aD.aD,iS (gZ n).aG]] false)) (some (e_.aA 2 [[AV.aG H10.length 10 0 1 (some 1),AV.aD]] false))
  rw[<-hH11]at C11 D11 ⊢
  have l11:H11.length=H10.length+2:=by rw[hH11];simp
  clear hH11
  have hy:fu (Zs Λ3 H11) H11 (iQ (gZ n)).c [.aG H10.length 10 0 1 (some 1),.aD]:=by
   have z:Zs Λ3 H11 H10.length:=⟨a3.aD (U8 _),by omega⟩
   have e:=nG (Zs Λ3 H11) H11 (gZ n).c
   rw[show D.aC (gZ n).c=_ from fF.aM _]at e
   simp only[jf.c,iQ,fu]
   refine⟨_,_,rfl,?_,_,_,rfl,vF _ _ _,rfl⟩
   simp only[rv,Rd]
   exact⟨_,.inr (.inr ⟨H10.length,0,1,some 1,_,false,rfl,z,C11,by simp,(λc hc=>by cases hc;simp),rfl⟩),by
    simp only[Vv,VO,fY]
    exact⟨_,_,rfl,e,rfl⟩⟩
  have ae2:iU H11 2 (.aG (H10.length+1) 2 0 1 (some 1))=some [[.aG H10.length 10 0 1 (some 1),.aD]]:=qX (g:=false) D11 (some 1) (len:=1) rfl
  obtain⟨y2,h4,o1,o2,o3,o4,Λ4,s4,a4⟩:=a3.bw X11 hy (by simp[n9];omega)
  rw[<-iv ae2]at o1
  have R11:=X11.aA row10
  simp only[f_.aA]at o3 s4 a4
  simp only[go_sem,jh,o1,o2,o3,o4,gz o2]
  generalize h4.set nb (some (e_.aA 9 [[y1,y2,w.av,w.pv,w.dv,w.tv,w.ev,w.qv,AV.aE false]] false))=H12 at *
  have row12:=a4.aA
  simp only[f_.aA]at row12
  have R12:∀y,(H12++[y])[nb]?=_:=λy=>(eW.b1 y).aA row12
  simp only[go_sem,m5,row12]
  try refine⟨by simp,by simp,?_⟩
  obtain⟨H13,hH13⟩:∃H13,H13=H12++[some (e_.aA 1 [[AV.aA IntKind.i64 0]] false)]:=⟨_,rfl⟩
  have X13:eW eZ H12 H13:=by rw[hH13];exact eW.b1 _
  have ae3:iU H13 1 (.aG H12.length 1 0 1 (some 1))=some [[.aA .i64 0]]:=qX (g:=false) (by rw[hH13];exact gJ _ _) (some 1) (len:=1) rfl
  obtain⟨y3,h5,p1,p2,p3,p4,Λ5,s5,a5⟩:=a4.bt X13 0 (by simp[n9];omega)
  rw[<-iv ae3]at p1
  have R13:=X13.aA row12
  have ew:IntKind.i64.wrap ((i:Int)+1+1)=((i+1:Nat):Int)+1:=by rw[gj (by omega)];omega
  simp only[f_.aA]at p3 s5 a5
  rw[<-hH13]
  simp only[go_sem,p1,p2,p3,gz p2,m6,ew]
  have e3:IntKind.i64.wrap (3*((i:Int)+1))=3*(i+1):=gj (by omega)
  have en:({n9 n i with l:=(n9 n i).l++[fj.aQ ((i:Int)+1) (gZ n) (IntKind.i64.wrap (3*((i:Int)+1)))],aD:=(n9 n i).aD++[gZ n],aC:=(n9 n i).aC++[0]}:i9)=n9 n (i+1):=by
   rw[e3]
   simp only[n9,j8,List.range_succ,VJ,Vv,VO,List.replicate_succ']
  have zz:∀m,m<nb->Λ3 m=0/\H10[m]?=h[m]?:=λm hm=>by
   have h1l:m<H1.length:=by omega
   have m1:m<h'.length:=by omega
   exact⟨j1 m h1l (hz m hm),(j2 m h1l (hz m hm)).trans ((X1.2 m m1 (λy=>y)).trans (hk m hm))⟩
  have q4:=s4.aD
  have q5:=s5.aD
  exact⟨_,by omega,(hI _ _ _).2 ⟨i+1,Λ5,_,⟨by simp[fm,m3],by simp[fm,m5],by simp[fm]⟩,λm hm=>(s5.aC m (by omega)).trans ((s4.aC m (by omega)).trans (zz m hm).1),by omega,λm hm=>(s5.z m (by omega) ((s4.aC m (by omega)).trans (zz m hm).1)).trans ((s4.z m (by omega) (zz m hm).1).trans (zz m hm).2),en▸a5,by omega,rfl⟩⟩
 ·have:i=5:=by simp at ci;omega
  subst this
  simp only[go_sem]
  exact hK _ _ Λ w (by simp[fm,m5]) hz nbl' hk a
theorem KL {P:Program}{f f1 f2:FuncId}(hf:Is P f (Ad f1 f2))(u1:qQ P f1)(u2:vW P f2):yr P f:=by
 refine⟨hf.2,λh n hn=>fS hf ?_⟩;obtain⟨H,hH⟩:∃H,H=h++[some (e_.aA 3 [[.aD,.aD,.aD]] false)]:=⟨_,rfl⟩;have X1:eW eZ h H:=by rw[hH];exact eW.b1 _
 have B1:H[h.length]?=some (some (e_.aA 3 [[.aD,.aD,.aD]] false)):=by rw[hH];exact gJ _ _
 have l1:H.length=h.length+1:=by rw[hH];simp
 simp only[Ad,go_sem];rw[<-hH];clear hH;refine KI (n:=n) (b:=h.length) hn.2 (by simp[fm,g_]) (by simp[fm]) (by simp[fm]) B1 (λLv h' ov ks hl hk hb c=>?_);have k3:=(ks 3 (by decide) (by decide)).trans (show _=AV.aC h.length 3 0 0 by simp[fm]);clear ks;simp only[go_sem];have ro:=Rd.aE (F:=λm=>H.length<=m/\m<h'.length) (λ_ y=>y) (λm hm y hy=>(eW.b1 (some (e_.aA 9 [[.aD,.aD,.aD,.aD,.aD,.aD,.aD,.aD,.aE false]] false))).aA hy) _ _ (Rd.lt _ _ c.aG);have u:=(eW.b1 (some (e_.aA 9 [[.aD,.aD,.aD,.aD,.aD,.aD,.aD,.aD,.aE false]] false))).aA hb;refine KJ u1 u2 (n:=n) (nb:=h'.length) (b3:=h.length) hn (by simp[fm,k3]) (by simp[fm]) (by simp[fm]) u (λm hm=>hm.2) (by omega) ro (gJ _ _) (λLw H3 Λ w k5 hz hn3 e a=>?_);simp only[go_sem,k5];refine⟨h'.length,Λ,w,rfl,⟨by omega,λm hm _=>?_⟩,λm hm=>hz m (by omega),a⟩;rw[e m (by omega),(eW.b1 _).2 m (by omega) (λy=>y),hk m (by omega) (by omega)];exact X1.2 m hm (λy=>y)
theorem FV:∀n,1<=n/\n<=5->(kF n).aE=true
 | 1,_=>by decide
 | 2,_=>by decide
 | 3,_=>by decide
 | 4,_=>by decide
 | 5,_=>by decide
 | 0,h=>by omega
 | n+6,h=>by omega
def tw (n:Nat):gx:=⟨kF n,λ_=>none,λ_ _=>none,λ_ _=>none,λ_ _ _=>False,[],0⟩
theorem NF {n:Nat}(hn:1<=n/\n<=5):(tw n).ok:=
 ⟨FV n hn,nofun,nofun,nofun,nofun,nofun,nofun,nofun,nofun,nofun,nofun,λa c b e=>by simp[tw]at e,nofun⟩
theorem O1 {n i:Nat}(hn:1<=n/\n<=5)(hi:i<5):gE (tw n) [] (j8 n i):=by
 have ef:gn [] (j8 n i)=[]:=rfl;have b0:(j8 n i).aA.aA.aA=0:=rfl;refine⟨⟨?_,Vi _⟩,⟨⟨Vi _,Vi _⟩,rfl⟩,?_,?_,?_,rfl,⟨λz hz=>(by cases hz),Vk _⟩,⟨Vi _,Vi _,Vi _⟩,⟨rfl,Vi _⟩,.inl (Vi _),Vi _,?_,?_,?_,?_,?_,.inl rfl,?_,?_,?_⟩;·show (1:Int)<=(i:Int)+1/\(i:Int)+1<=7;omega
 ·rw[ef];intro j hj;cases hj
 ·rw[ef];exact List.Pairwise.nil
 ·rw[ef];intro e he;cases he
 ·intro t w e;cases e
 ·intro z;exact absurd rfl z
 ·intro t L e;cases e
 ·intro t x e;cases e
 ·intro t n e;cases e
 ·intro z;cases z
 ·intro z;cases z
 ·intro f hf;cases hf
theorem O0 {n i:Nat}(hn:1<=n/\n<=5)(hi:i<5):(j8 n i).aD 0:=
 ⟨by simp[j8,fj.aQ,gZ],by simp[j8,fj.aQ,gZ],by simp[j8,fj.aQ,gZ,fA.aC],by simp[j8,fj.aQ,gZ],FV n hn,⟨by simp[j8,fj.aQ,gZ,gF],by simp[j8,fj.aQ,gZ]⟩,by simp[j8,fj.aQ,gZ],by simp[j8,fj.aQ,gZ,ia],by simp[j8,fj.aQ,gZ,fA.aC],by simp[j8,fj.aQ],by simp[j8,fj.aQ],by simp[j8,fj.aQ],by simp[j8,fj.aQ],by simp[j8,fj.aQ],by simp[j8,fj.aQ];omega⟩
theorem zy {n k:Nat}(h:k<(gQ.aK n).l.length):(gQ.aK n).l[k]=j8 n k/\k<5:=by
 have:k<5:=by simpa [gQ.aK] using h
 exact⟨by simp[gQ.aK],this⟩
theorem KN {n:Nat}(hn:1<=n/\n<=5):ib (kF n) 0 0 (gQ.aK n):=by
 have l5:(gQ.aK n).l.length=5:=by simp[gQ.aK]
 have sm:(tw n).aJ 0:=⟨λ_ _ e=>(by cases e),Vi _⟩;have dn:(tw n).aL []:=⟨0,.inl (Vi _)⟩;refine⟨⟨tw n,rfl,NF hn,sm,dn,?_,?_,?_,?_⟩,l5,?_,?_,rfl,rfl⟩;·intro k h;obtain⟨e,h5⟩:=zy h;rw[e];exact O1 hn h5
 ·intro m hm;cases hm
 ·intro i hi;cases hi
 ·intro i t j e;cases e
 ·intro k h;obtain⟨e,h5⟩:=zy h;rw[e];exact⟨rfl,rfl,rfl⟩
 ·intro k h;obtain⟨e,h5⟩:=zy h;rw[e];exact O0 hn h5
theorem KM (n:Nat):ju 0 (gQ.aK n):=⟨U8 _,U8 _,U8 _⟩
structure oE where
 aA:Int
 a:Int
 b:Int
def oE.c (m:oE):List D:=[.aA .i64 m.aA,.aA .i64 m.a,.aA .i64 m.b]
def rB (l:List oE):D:=.sl 3 (l.map oE.c)
theorem QV {F:Nat->Prop}{h:eX}{m:oE}{cs:List AV}(hh:fu F h m.c cs):cs=[.aA .i64 m.aA,.aA .i64 m.a,.aA .i64 m.b]:=by simp only[oE.c,fu,Rd]at hh;obtain⟨_,_,rfl,rfl,_,_,rfl,rfl,_,_,rfl,rfl,rfl⟩:=hh;rfl
def CF:List Ty:=[.aA .i64,.aA .i64,.aA .i64]
theorem MJ {d:List D}(h:iZ d CF):∃m:oE,d=m.c/\True:=by obtain⟨_,_,rfl,g1,h⟩:=uq h;obtain⟨_,_,rfl,g2,h⟩:=uq h;obtain⟨_,_,rfl,g3,h⟩:=uq h;cases yE h;obtain⟨a1,rfl,w1⟩:=vY g1;obtain⟨a2,rfl,w2⟩:=vY g2;obtain⟨a3,rfl,w3⟩:=vY g3;exact⟨⟨a1,a2,a3⟩,rfl,Vd⟩
theorem MK {d:List D} (h:iZ d [.sl 3 CF]):∃l:List oE,d=[rB l]:=by obtain⟨_,_,rfl,g1,h⟩:=uq h;cases yE h;obtain⟨es,rfl,h'⟩:=Jn g1;obtain⟨l,rfl,hl⟩:=Jk (f:=oE.c) (R:=λ_=>True) (λd hd=>MJ hd) h';exact⟨l,rfl⟩
theorem QI {P:Program}{f f1 f2 f3 f4:FuncId}(hf:Is P f (Ab f1 f2 f3 f4))(u1:pV P f1)(u2:yr P f2)(u3:wj (λ_=>True) P f3)(u4:yW P f4)(m:Int)(l:List oE)(h:eX):fC P f [.aA .i64 m,(rB l).av] h λv h'=>v=.aE true/\h'=h:=by
 refine fC.aC (K:=λv h'=>v=.aE true/\eW eZ h h') (fS hf ?_) (λr _ ⟨e,hx⟩=>⟨hx,r,by rw[e];exact gU.aE _,e⟩);have al:∀H,Rd eZ H (rB l) (rB l).av:=λH=>rS _ _ _;have ll:ik (rB l).av=some (.aA .i64 l.length):=by have:=(al h).aC;simpa [rB] using this
 generalize (rB l).av=la at *;have p5:=qu (k:=m) (n:=5) (by omega);obtain⟨n,en⟩:∃n:Nat,IntKind.i64.wrap (1+jb m 5)=n:=⟨(1+jb m 5).toNat,by rw[gj (by omega)];omega⟩;have hn:1<=n/\n<=5:=by rw[gj (by omega)]at en;omega
 simp only[Ab,go_sem];refine lT.aA u1.1 (u1.2 m 5 (by omega)) ?_;simp only[go_sem,en];refine fy ⟨u2.1,u2.2 h n hn⟩ ?_;rintro _ H ⟨nb,Λ,w,rfl,X,hz,a⟩;simp only[go_sem];obtain⟨I,hI⟩:∃I:Nat->fX->eX->Prop,∀m Lv h',I m Lv h'↔∃(i:Nat)(Λ:Nat->Nat)(w:f_)(x:gQ),(lk 1 Lv=la/\lk 5 Lv=.aC nb 9 0 0/\lk 6 Lv=.aA .i64 (i:Int))/\(∀m,m<h.length->Λ m=0)/\eW eZ h h'/\fW Λ h' nb w (iA x)/\ib (kF n) (2*i) (200*i) x/\ju i x/\i<=l.length/\i<=400/\m=400-i:=⟨_,λ_ _ _=>WA⟩;refine iM I 400 ((hI _ _ _).2 ⟨0,Λ,w,_,⟨by simp[fm,g_],by simp[fm],by simp[fm]⟩,hz,X,a,KN hn,KM n,by omega,by omega,by omega⟩) ?_;clear a hz X;intro q Lv h1 hh;obtain⟨i,Λ1,w1,x,⟨k1,k5,k6⟩,hz,X,a,ok,bb,hi,hi4,rfl⟩:=(hI _ _ _).1 hh;clear hh;have ew:IntKind.i64.wrap ((i:Int)+1)=((i+1:Nat):Int):=by rw[gj (by omega)];omega
 by_cases c1:i<l.length
 ·have c1':(i:Int)<l.length:=by omega
  by_cases c2:i<400
  ·have c2':(i:Int)<400:=by omega
   obtain⟨p,cs,i1,i2,i3⟩:=Rd.aD (al h1) .i64 (i:=(i:Int)) (d:=l[i].c) (by omega) (by rw[show ((i:Int)).toNat=i by omega,VE,U0 c1];rfl);obtain rfl:=QV i3;have ld:ir h1 true 3 p=some (.aF [.aA .i64 l[i].aA,.aA .i64 l[i].a,.aA .i64 l[i].b]):=by rw[jr i2];rfl
   simp only[wX,go_sem,k1,k5,k6,ll,U3 c1',U3 c2',i1,ld];refine fy ⟨u3.1,u3.2 Λ1 h1 nb i w1 x (kF n) (2*i) (200*i) _ _ _ Vd a ok bb (by omega) (by omega) (by omega)⟩ ?_;rintro v8 h8 ⟨Λ8,w8,x8,s8,wr8,a8,ok8,b8,-⟩;have row:=a8.aA;simp only[f_.aA]at row;simp only[go_sem,k5,k6,row,ew];exact⟨_,by omega,(hI _ _ _).2 ⟨i+1,Λ8,w8,x8,⟨by simp[fm,k1],by simp[fm,k5],by simp[fm]⟩,λm hm=>(s8.aC m (by have:=X.1;omega)).trans (hz m hm),⟨by have:=s8.aD;have:=X.1;omega,λm hm _=>(s8.z m (by have:=X.1;omega) (hz m hm)).trans (X.2 m hm (λy=>y))⟩,a8,ok8.aA (by omega) (by omega),b8,by omega,by omega,rfl⟩⟩
  ·have c2':¬(i:Int)<400:=by omega
   simp only[wX,go_sem,k1,k6,ll,U3 c1',U2 c2'];refine fZ u4.1 (u4.2 _) ?_;simp only[go_sem];exact X
 ·have c1':¬(i:Int)<l.length:=by omega
  simp only[wX,go_sem,k1,k6,ll,U2 c1'];refine fZ u4.1 (u4.2 _) ?_;simp only[go_sem];exact X
end Glb
