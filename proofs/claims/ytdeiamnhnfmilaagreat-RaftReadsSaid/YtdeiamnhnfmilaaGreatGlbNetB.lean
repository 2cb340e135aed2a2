/-
  A library of its own.
-/
import Derived.Test.YtdeiamnhnfmilaaGreatGlbNetA
set_option linter.unusedSimpArgs false
set_option linter.unusedVariables false
set_option maxRecDepth 10000
set_option maxHeartbeats 8000000
namespace Glb
open Go
def vY (F:Nat->Prop)(h h':eW):Prop:=∀m,F m->∀x:e_,h[m]?=some (some x)->h'[m]?=some (some x)
mutual
theorem Rd.aN {F F':Nat->Prop}{h h':eW}(hF:∀m,F m->F' m)(hk:vY F h h'):∀(d:D)(av:AV),Rd F h d av->Rd F' h' d av
 | .aA _ _,_,hh=>hh
 | .aE _,_,hh=>hh
 | .aF _,_,hh=>hh
 | .sl _ ds,_,hh=>by
  simp only[Rd]at hh ⊢;obtain⟨es,h1,h2⟩:=hh;refine⟨es,?_,fY.aC hF hk ds es h2⟩;rcases h1 with h1 | h1 | ⟨n,off,len,cap,row,g,e1,e2,e3,e4⟩
  ·exact .inl h1
  ·exact .inr (.inl h1)
  ·exact .inr (.inr ⟨n,off,len,cap,row,g,e1,hF n e2,hk n e2 _ e3,e4⟩)
theorem fm.aD {F F':Nat->Prop}{h h':eW}(hF:∀m,F m->F' m)(hk:vY F h h'):∀(ds:List D)(l:List AV),fm F h ds l->fm F' h' ds l
 | [],_,hh=>hh
 | d :: ds,_,hh=>by simp only[fm]at hh ⊢;obtain⟨a,r,h1,h2,h3⟩:=hh;exact⟨a,r,h1,Rd.aN hF hk d a h2,fm.aD hF hk ds r h3⟩
theorem fY.aC {F F':Nat->Prop}{h h':eW}(hF:∀m,F m->F' m)(hk:vY F h h'):∀(ds:List (List D)) (l:List (List AV)),fY F h ds l->fY F' h' ds l
 | [],_,hh=>hh
 | d :: ds,_,hh=>by simp only[fY]at hh ⊢;obtain⟨a,r,h1,h2,h3⟩:=hh;exact⟨a,r,h1,fm.aD hF hk d a h2,fY.aC hF hk ds r h3⟩
end
section
variable {Λ:Nat->Nat} {h:eW} {nb n:Nat} {w:fX} {v:iZ}
theorem Ft (hn:h[n]?=some none) (y:e_):vY (Zs Λ h) h (h.set n (some y)):=λm hm z hz=>by
 have:m≠n:=λe=>by rw[e,hn]at hz;cases hz
 rw[Uq (λe=>this e.symm)];exact hz
theorem Fu (y:Option e_):∀m,Zs Λ h m->Zs Λ (h.set n y) m:=λm hm=>⟨hm.1,by rw[UA];exact hm.2⟩
theorem BM (hn:h[n]?=some none) (y:e_) {d:D} {a:AV} (hr:Rd (Zs Λ h) h d a):Rd (Zs Λ (h.set n (some y))) (h.set n (some y)) d a:=Rd.aN (Fu _) (Ft hn y) _ _ hr
theorem fW.bD (a:fW Λ h nb w v) (hn:h[n]?=some none) (hz:Λ n=0) (y:e_):fW Λ (h.set n (some y)) nb w v:=by have hs:∀m,Λ m≠0->(h.set n (some y))[m]?=h[m]?:=λm hm=>Uq (λe=>hm (by rw[<-e];exact hz));have cc:∀{j sz:Nat}{b:AV} {es:List (List AV)},j≠0->gE (λm=>Λ m=j) h sz b es->gE (λm=>Λ m=j) (h.set n (some y)) sz b es:=λhj c=>c.aA (λ_ hm _=>hm) (λm hm _=>hs m (by have u:Λ m=_:=hm;rw[u];exact hj));have kz:=Ft (Λ:=Λ) hn y;have zz:=Fu (Λ:=Λ) (h:=h) (n:=n) (some y);obtain⟨hr,h1,h2⟩:=a.aL;obtain⟨pr,p1,p2⟩:=a.aG;obtain⟨dr,d1,d2⟩:=a.aH;refine⟨λm hm=>by rw[UA];exact a.lt m hm,a.aC,(hs nb (by rw[a.aC];decide)).trans a.aA,a.aD,cc (by decide) a.l,λk k1 k2=>?_,⟨hr,cc (by decide) h1,fY.aC zz kz _ _ h2⟩,cc (by decide) a.aK,⟨pr,cc (by decide) p1,fY.aC zz kz _ _ p2⟩,⟨dr,cc (by decide) d1,fY.aC zz kz _ _ d2⟩,cc (by decide) a.aO,cc (by decide) a.aJ,cc (by decide) a.aM⟩;exact (a.aF k k1 k2).aC (by rw[UA];exact Uy _) (λm hm=>hs m (λe=>hm (by unfold gR;rw[e];split<;>omega)))
theorem fW.bH {H H0 h':eW}{k:Nat}{y:RX}{res:AV}(a:fW Λ H0 nb w v)(X:eV eY H H0)(hn:H.length<=n) (hb:H0[n]?=some none) (hz:Λ n=0) (hk:k<w.rs.length) (I:k<v.l.length) (b:jT (gR k Λ) H0 w.rs[k] y res h'):
  ∃Λ' ma ca aa,res=.aF [ma,ca,aa,.aA .i64 y.o.aE,.aE y.o.aC]/\(ma.aH=true/\ca.aH=true/\aa.aH=true)/\h'[n]?=some none/\(∀m,m<H0.length->Λ m=0->h'[m]?=H0[m]?) /\
   ∀z:e_,gA Λ H Λ' (h'.set n (some z))/\fW Λ' (h'.set n (some z)) nb w {v with l:=v.l.set k y.r}/\Rd (Zs Λ' (h'.set n (some z))) (h'.set n (some z)) (td y.o.aD) ma/\Rd (Zs Λ' (h'.set n (some z))) (h'.set n (some z)) (nV y.o.aA) ca/\Rd (Zs Λ' (h'.set n (some z))) (h'.set n (some z)) (gN y.o.aF) aa:=by
 obtain⟨Λ',ma,ca,aa,e,s1,a1,r1,r2,r3⟩:=a.aV hk I b;have nl:=(Up.1 hb).1;have u:h'[n]?=some none:=(s1.z n nl hz).trans hb;have E:Λ' n=0:=(s1.aC n nl).trans hz;refine⟨Λ',ma,ca,aa,e,⟨r1.aA,r2.aA,r3.aA⟩,u,s1.z,λz=>⟨⟨?_,λm hm=>s1.aC m (UM hm X.1),λm hm h0=>?_,λm hm h0=>?_⟩,a1.bD u E z,BM u z r1,BM u z r2,BM u z r3⟩⟩;·rw[UA];exact UH X.1 s1.aD
 ·rw[Uq (by omega)];exact (s1.z m (UM hm X.1) h0).trans (X.2 m hm (λy=>y))
 ·rw[Uq (by omega)];exact (s1.aF m (UM hm X.1) h0).trans (X.2 m hm (λy=>y))
end
def gw.aJ (x:gw)(k:Nat):eZ:=(x.l[k]?).getD ⟨0,⟨0,0,0,⟨0,0,[]⟩,⟨[],[],[]⟩,[]⟩,0,0,0,0,0,0,[],[],0,0⟩
theorem gw.aL {x:gw}{k:Nat}(h:k<x.l.length):x.aJ k=x.l[k]:=by unfold gw.aJ;rw[Ur h];rfl
theorem SJ {P:Program}{ft fn:FuncId}(ut:sG P ft)(un:lQ P fn){Λ:Nat->Nat}{h:eW}{nb N k r:Nat}{w:fX}{x:gw}{c0:fq}{B K:Nat}{d:Int}{KK:AV->eW->Prop}(a:fW Λ h nb w (iF x))(ok:ic c0 B K x)(bb:jL N x)(hK:K+200<130000)(hN:N<4000)(hk:k<x.l.length) (hr:w.rs[k]?=some r) (hm:iN (gR k Λ) h r x.l[k])
  (M:∀v h',jT (gR k Λ) h r (x.l[k].aQ d) v h'->(∀m,m<h.length->Λ m=0->h'[m]?=h[m]?)->
   (∀{K2:AV->eW->Prop},(∀v2 Λ2 h2 w2,gA Λ h Λ2 h2->w2.rs=w.rs->fW Λ2 h2 nb w2 (iF (x.aD k (x.l[k].aQ d)))->ic c0 (B+2) (K+200) (x.aD k (x.l[k].aQ d))->jL (N+1) (x.aD k (x.l[k].aQ d))->K2 v2 h2)->mN P fn [.aC nb 9 0 0,.aA .i64 k,v] h' K2)->KK v h'):mN P ft [.aC r 21 0 0,.aA .i64 d] h KK:=by
 have f:=ok.aC k hk;refine fA ⟨ut.1,ut.2 (gR k Λ) h r x.l[k] K d hm f (by omega)⟩ ?_;intro v h' ro;obtain⟨o1,o2⟩:=ok.aP (by omega) hk d;obtain⟨E,er⟩:=Up.1 hr;refine M v h' ro (λm hm hz=>?_) (fun {K2} I=>?_);·obtain⟨_,_,_,_,_,_,_,_,_,_,_,hx⟩:=id ro;refine hx.2 m hm (λy=>y ?_);unfold gR;rw[hz];split<;>omega
 ·have u:jT (gR k Λ) h w.rs[k] (x.l[k].aQ d) v h':=by rw[er];exact ro
  exact un.aC a ok o1 hk o2 (by omega) bb hN (RX.aE.aQ _ _) (RX.aD.aQ _ f.aH f.aE.1 _) E u (λv7 Λ7 h7 w7 s7 e a7 b7=>I v7 Λ7 h7 w7 s7 e a7 (o1.aA (by omega) (by omega)) b7)
theorem fW.bF {Λ:Nat->Nat}{H:eW}{nb i:Nat}{w:fX}{x:gw}(a1:fW Λ H nb w (iF x))(hi:i<x.aA.length)(bp:x.aA.length<=2^30):∃v1 v2 v3 h3 v4 h4 Λ5,
  (iB 17 w.pv none (some (i:Int)) none=some v1/\v1.aH=true/\iB 17 w.pv (some ((i+1:Nat):Int)) none none=some v2/\v2.aH=true) /\
  (oG (H++[some (e_.aA 17 [] false)]) 17 168 (.aG H.length 17 0 0 (some 0)) v1=some (v3,h3)/\v3.aH=true/\oG h3 17 168 v3 v2=some (v4,h4)/\v4.aH=true)/\h3[nb]?=some (some (.aA 9 [w.aA] false))/\h4[nb]?=some (some (.aA 9 [w.aA] false))/\nb<h4.length /\
  gA Λ H Λ5 (h4.set nb (some (.aA 9 [({w with pv:=v4}:fX).aA] false)))/\fW Λ5 (h4.set nb (some (.aA 9 [({w with pv:=v4}:fX).aA] false))) nb {w with pv:=v4} (iF (x.aH i)):=by
 have u:=a1.aA;obtain⟨rows,p1,p2⟩:=a1.aG;have lrows:rows.length=x.aA.length:=by have:=lF p2;simpa [iF] using this
 obtain⟨H1,I⟩:∃H1,H1=H++[some (e_.aA 17 [] false)]:=⟨_,rfl⟩;have X2:eV eY H H1:=by rw[I];exact eV.b1 _
 have hl2:H1.length=H.length+1:=by rw[I];simp
 have cz:gE (λm=>H.length<=m) H1 17 (.aG H.length 17 0 0 (some 0)) []:=.inr ⟨H.length,0,some 0,[],false,rfl,Uy _,by rw[I];exact gH _ _,by simp,(λc hc=>by simp),(λhc=>by cases hc),(λc hc=>by cases hc;simp),rfl⟩;have O:gE (λm=>Λ m=105) H1 17 w.pv rows:=p1.aA (λ_ y _=>y) (λm _ hlt=>X2.2 m hlt (λy=>y));obtain⟨v1,q1,q2,q3⟩:=O.aH (i:=i) (by omega);obtain⟨v3,h3,g1,c3,x3⟩:=cz.aC (bytes:=168) (ys:=rows.take i) (eV.aC _ H1) (by simp only[UJ,UD];omega);rw[<-iq q2,I]at g1;have X3:eV eY H h3:=X2.aJ x3 (λm hm E=>by have:H.length<=m:=E;omega);have p3:gE (λm=>Λ m=105) h3 17 w.pv rows:=p1.aA (λ_ y _=>y) (λm _ hlt=>X3.2 m hlt (λy=>y));obtain⟨v2,r1,r2,r3⟩:=p3.aI (i:=i+1) (by omega);obtain⟨v4,h4,g2,c4,x4⟩:=c3.aC (bytes:=168) (ys:=rows.drop (i+1)) (eV.aC _ h3) (by simp only[VH,UD,UP];omega);rw[<-iq r2]at g2;have X4:eV eY H h4:=X3.aJ x4 (λm hm E=>by have hm'':(H.length<=m/\m<H1.length)\/H1.length<=m:=E;omega);have e:=X4.aA u;obtain⟨Λ5,t1,t2⟩:=a1.aZ (ms:=x.aA.take i++x.aA.drop (i+1)) (rows:=[]++rows.take i++rows.drop (i+1)) X4 (c4.aA (λm hm _=>by have E:((H.length<=m/\m<H1.length)\/H1.length<=m)/\m<h3.length\/h3.length<=m:=hm;show H.length<=m;have:=X3.1;omega) (λ_ _ _=>rfl)) (by rw[VH,Ve,V6,Wy];have M:fY (Zs Λ H) h4 (x.aA.map fE.c) rows:=fY.aA (λ_ y=>y) (X4.aE _) _ _ p2;exact uy (yT M i) (yS M (i+1)));exact⟨v1,v2,v3,h3,v4,h4,Λ5,⟨q1,q3,r1,r3⟩,⟨g1,c3.aE,g2,c4.aE⟩,X3.aA u,e,(Up.1 e).1,t1,t2⟩
theorem jL.aG {N i:Nat}{x:gw}(bb:jL N x):jL N (x.aH i):=⟨by have:=bb.aA;show (x.aA.take i++x.aA.drop (i+1)).length<=_;simp only[Ut,UD,UP];omega,bb.aE,bb.aC⟩
theorem ic.aL {c0:fq}{B K i:Nat}{x:gw}(ok:ic c0 B K x):ic c0 B K (x.aH i):=ok.aF λy hy=>by
 rcases U4.1 hy with hy | hy;·exact U9 hy
 ·exact UX hy
structure gw.aM (x:gw)(q:Int)(k i:Nat)(d:Int)(x':gw):Prop where
 aE:q<=1->x'=x.aD k ((x.aJ k).aQ d)
 aA:2<=q/\q<=4->x'=if h:i<x.aA.length then x.aF i x.aA[i] else x
 aC:q=5->x'=x.aH i
 aF:q=6->x'=if h:i<x.aA.length/\x.aA.length<300 then {x with aA:=x.aA++[x.aA[i]'h.1]} else x
 aD:q=7->x'=if ((x.aJ k).aP 1 [d % 256]).2.2=0 then x.aD k ((x.aJ k).aP 1 [d % 256]).2.1 else x
 aG:q=8->x'={x with l:=x.l.set k (eZ.aU (k+1) (x.aJ k).aA d)}
 aH:q=9->x'=if ((x.aJ k).bE ((x.aJ k).aH-jk d 5) [d % 256]).2=0 then x.aD k ((x.aJ k).bE ((x.aJ k).aH-jk d 5) [d % 256]).1 else x
def lP (Λ:Nat->Nat)(h:eW)(nb N:Nat)(w:fX)(x:gw)(c0:fq)(B K:Nat)(kd:Int)(k i:Nat)(d:Int)(h':eW):Prop:=∃Λ' w' x',gA Λ h Λ' h'/\w'.rs.length=w.rs.length/\fW Λ' h' nb w' (iF x')/\ic c0 (B+2) (K+200) x'/\jL (N+1) x'/\x.aM kd k i d x'
def ug (C:Int->Prop)(P:Program)(f:FuncId):Prop:=fP P f=true/\∀(Λ:Nat->Nat)(h:eW)(nb N:Nat)(w:fX)(x:gw)(c0:fq)(B K:Nat)(q a d:Int),C (jk q 12)->fW Λ h nb w (iF x)->ic c0 B K x->jL N x->B<=2^29->K+200<130000->N<4000->
 fC P f [.aC nb 9 0 0,.aF [.aA .i64 q,.aA .i64 a,.aA .i64 d]] h λ_ h'=>lP Λ h nb N w x c0 B K (jk q 12) (jk a 5).toNat (jk a x.aA.length).toNat d h'
structure qQ (Λ:Nat->Nat)(h H:eW)(nb N:Nat)(w:fX)(x:gw)(c0:fq)(B K:Nat)(q a d:Int)(kd:Int)(k i nq:Nat)(Le:fV):Prop where
 a1:fW Λ H nb w (iF x)
 ok:ic c0 B K x
 bb:jL N x
 hB:B<=2^29
 hK:K+200<130000
 hN:N<4000
 s1:gA Λ h Λ H
 B1:H[nq]?=some (some (e_.aA 3 [[.aA .i64 q,.aA .i64 a,.aA .i64 d]] false))
 z0:Λ nq=0
 k5:k<x.l.length
 aA:0<x.aA.length->i<x.aA.length
 l0:lk 0 Le=.aC nb 9 0 0
 l3:lk 3 Le=.aC nq 3 0 0
 l4:lk 4 Le=.aA .i64 k
 l5:lk 5 Le=.aA .i64 i
 l6:lk 6 Le=.aE (decide ((0:Int)<x.aA.length))
 aC:lk 31 Le=.aA .i64 kd
section
variable {P:Program} {f1 f2 f3 f4 f5 f6 f7 f8 f9:FuncId} {Λ:Nat->Nat} {h H:eW} {nb N:Nat} {w:fX} {x:gw} {c0:fq} {B K:Nat} {q a d:Int} {kd:Int} {k i nq:Nat} {Le:fV}
theorem Ow (u2:sG P f2)(u3:lQ P f3)(s:qQ Λ h H nb N w x c0 B K q a d kd k i nq Le)(c1:kd<=1)(c0':0<=kd):vc P (jM f1 f2 f3 f4 f5 f6 f7 f8 f9).aA.tl.tl.tl.tl.tl ⟨Le,[],H⟩ (i_ (jM f1 f2 f3 f4 f5 f6 f7 f8 f9).aC λ_ h'=>lP Λ h nb N w x c0 B K kd k i d h'):=by
 obtain⟨a1,ok,bb,hB,hK,hN,s1,B1,z0,k5,hi2,l0,l3,l4,l5,l6,l31⟩:=s;have e:=a1.aA;simp only[fX.aA]at e;have pl:=a1.aN;have pl:ik w.pv=some (.aA .i64 x.aA.length):=pl;have bp:=bb.aA;have I:=gw.aL k5;obtain⟨n1,j1,lrow,lg,r,v1,v2,v3,v4,v5,v6,v7,-,-⟩:=a1.aI (k:=k) k5;have vl:=(Up.1 v3).1;have:kd=0\/kd=1:=by omega
 rcases this with rfl | rfl <;>
 ·simp only[jM,AC.aD,lP,l0,l3,l4,l31,go_sem,B1,e,v1,v2,v3,Int.reduceEq,V9];refine SJ u2 u3 a1 ok bb hK hN k5 v4 v5 (λv h' ro hz go=>?_);simp only[go_sem];refine go (λv8 Λ8 h8 w8 s8 u a8 E b8=>?_);simp only[go_sem];exact⟨Λ8,w8,_,s1.aA s8,by rw[u],a8,E,b8,⟨λ_=>by rw[I],λz=>by omega,λz=>by omega,λz=>by omega,λz=>by omega,λz=>by omega,λz=>by omega⟩⟩
theorem Ox (u4:vQ P f4)(s:qQ Λ h H nb N w x c0 B K q a d kd k i nq Le)(c2:kd<=4)(c1:¬kd<=1):vc P (jM f1 f2 f3 f4 f5 f6 f7 f8 f9).aA.tl.tl.tl.tl.tl ⟨Le,[],H⟩ (i_ (jM f1 f2 f3 f4 f5 f6 f7 f8 f9).aC λ_ h'=>lP Λ h nb N w x c0 B K kd k i d h'):=by
 obtain⟨a1,ok,bb,hB,hK,hN,s1,B1,z0,k5,hi2,l0,l3,l4,l5,l6,l31⟩:=s;have e:=a1.aA;simp only[fX.aA]at e;have pl:=a1.aN;have pl:ik w.pv=some (.aA .i64 x.aA.length):=pl;have bp:=bb.aA;have ate:=gw.aL k5;obtain⟨n1,j1,lrow,lg,r,v1,v2,v3,v4,v5,v6,v7,-,-⟩:=a1.aI (k:=k) k5;have vl:=(Up.1 v3).1;have:kd=2\/kd=3\/kd=4:=by omega
 rcases this with rfl | rfl | rfl <;>
 ·by_cases cp:0<x.aA.length
  ·have ip:=hi2 cp;have u:(0:Int)<x.aA.length:=by omega
   simp only[jM,AC.aD,lP,l0,l5,l6,l31,go_sem,Int.reduceEq,V9,Uu u];refine fA ⟨u4.1,u4.2 Λ H nb N w x c0 B K i ip a1 ok bb (by omega) hK hN⟩ ?_;rintro v8 h8 ⟨Λ8,w8,s8,E,a8,I,b8⟩;simp only[go_sem];exact⟨Λ8,w8,_,s1.aA s8,by rw[E],a8,I.aA (by omega) (by omega),b8,⟨λz=>by omega,λ_=>by rw[dif_pos ip],λz=>by omega,λz=>by omega,λz=>by omega,λz=>by omega,λz=>by omega⟩⟩
  ·have u:¬(0:Int)<x.aA.length:=by omega
   simp only[jM,AC.aD,lP,l6,l31,go_sem,Int.reduceEq,V9,Us u];exact⟨Λ,w,_,s1,rfl,a1,ok.aA (by omega) (by omega),bb.aD (by omega),⟨λz=>by omega,λ_=>by rw[dif_neg (by omega)],λz=>by omega,λz=>by omega,λz=>by omega,λz=>by omega,λz=>by omega⟩⟩
theorem Oy (s:qQ Λ h H nb N w x c0 B K q a d kd k i nq Le)(c3:kd=5):vc P (jM f1 f2 f3 f4 f5 f6 f7 f8 f9).aA.tl.tl.tl.tl.tl ⟨Le,[],H⟩ (i_ (jM f1 f2 f3 f4 f5 f6 f7 f8 f9).aC λ_ h'=>lP Λ h nb N w x c0 B K kd k i d h'):=by
 obtain⟨a1,ok,bb,hB,hK,hN,s1,B1,z0,k5,hi2,l0,l3,l4,l5,l6,l31⟩:=s;have e:=a1.aA;simp only[fX.aA]at e;have pl:=a1.aN;have pl:ik w.pv=some (.aA .i64 x.aA.length):=pl;have bp:=bb.aA;have ate:=gw.aL k5;obtain⟨n1,j1,lrow,lg,r,v1,v2,v3,v4,v5,v6,v7,-,-⟩:=a1.aI (k:=k) k5;have vl:=(Up.1 v3).1;subst c3;by_cases cp:0<x.aA.length
 ·have ip:=hi2 cp;have u:(0:Int)<x.aA.length:=by omega
  obtain⟨y1,y2,y3,h3,y4,h4,Λ5,⟨q1,q2,q3,q4⟩,⟨g1,g2,g3,g4⟩,n3,n4,E,t1,t2⟩:=a1.bF ip (by omega);have nbl:=(Up.1 a1.aA).1;have R1:∀y,(H++[y])[nb]?=_:=λy=>(eV.b1 y).aA e;have N1:∀sz i o,gW H.length 1 (.aC nb sz i o)=true:=λsz i o=>iu nbl;have ew:IntKind.i64.wrap ((i:Int)+1)=((i+1:Nat):Int):=by rw[gi (by omega)];omega
  simp only[fX.aA]at n3 n4 t1 t2;simp only[jM,AC.aD,lP,l0,l5,l6,l31,go_sem,jK,Int.reduceEq,V9,Uu u,R1,N1,q1,q3,g1,g3,g4,gC g4,n3,n4,E,ew];exact⟨Λ5,{w with pv:=y4},_,s1.aA t1,rfl,t2,ok.aL.aA (by omega) (by omega),bb.aG.aD (by omega),⟨λz=>by omega,λz=>by omega,λz=>rfl,λz=>by omega,λz=>by omega,λz=>by omega,λz=>by omega⟩⟩
 ·have u:¬(0:Int)<x.aA.length:=by omega
  simp only[jM,AC.aD,lP,l6,l31,go_sem,Int.reduceEq,V9,Us u];have e0:x.aA=[]:=Uz (by omega);exact⟨Λ,w,_,s1,rfl,a1,ok.aA (by omega) (by omega),bb.aD (by omega),⟨λz=>by omega,λz=>by omega,λ_=>by unfold gw.aH;rw[e0];cases x;simp_all,λz=>by omega,λz=>by omega,λz=>by omega,λz=>by omega⟩⟩
theorem Oz (u5:yk P f5)(s:qQ Λ h H nb N w x c0 B K q a d kd k i nq Le)(c4:kd=6):vc P (jM f1 f2 f3 f4 f5 f6 f7 f8 f9).aA.tl.tl.tl.tl.tl ⟨Le,[],H⟩ (i_ (jM f1 f2 f3 f4 f5 f6 f7 f8 f9).aC λ_ h'=>lP Λ h nb N w x c0 B K kd k i d h'):=by
 obtain⟨a1,ok,bb,hB,hK,hN,s1,B1,z0,k5,hi2,l0,l3,l4,l5,l6,l31⟩:=s;have u:=a1.aA;simp only[fX.aA]at u;have pl:=a1.aN;have pl:ik w.pv=some (.aA .i64 x.aA.length):=pl;have bp:=bb.aA;have ate:=gw.aL k5;obtain⟨n1,j1,lrow,lg,r,v1,v2,v3,v4,v5,v6,v7,-,-⟩:=a1.aI (k:=k) k5;have vl:=(Up.1 v3).1;subst c4;by_cases cp:0<x.aA.length
 ·have ip:=hi2 cp;have O:(0:Int)<x.aA.length:=by omega
  by_cases c300:x.aA.length<300
  ·have E:(x.aA.length:Int)<300:=by omega
   obtain⟨n2,j2,prow,pg,e,dd,e1,e2,e3,he,hd,e6⟩:=a1.aU (i:=i) ip;have jl:=(Up.1 e3).1;have nbl:=(Up.1 a1.aA).1;have N1:∀sz i o,gW H.length 1 (.aC nb sz i o)=true:=λsz i o=>iu nbl;have a3:=(Up.1 e2).1;have N2:∀sz i o,gW H.length 1 (.aC n2 sz i o)=true:=λsz i o=>iu a3;have R1:∀y,(H++[y])[nb]?=_:=λy=>(eV.b1 y).aA u;have R2:∀y,(H++[y])[n2]?=_:=λy=>(eV.b1 y).aA e2;simp only[fE.aE]at e3;simp only[jM,AC.aD,lP,l0,l5,l6,l31,go_sem,u,pl,Int.reduceEq,V9,Uu O,Uu E,R1,R2,N1,N2,e1,e3];have mf:=ok.aH (by omega) (UT ip);refine fA ⟨u5.1,u5.2 (Zs Λ H) (H++[none]) x.aA[i] _ (Cf (he.up (eV.b1 none)) (hd.up (eV.b1 none))) mf.aE (by have:=mf.aA.2;omega)⟩ ?_;rintro _ H6 ⟨e',d',rfl,oe,od,X6⟩;have I:H6[H.length]?=some none:=X6.aA (by simp);have hlt:=(Up.1 I).1;have W:eV eY H H6:=(eV.b1 none).tr X6;have R6:=W.aA u;have a5:=W.aA e2;have se:=oe.aA;have sd:=od.aA;have rr:∀{ds:D}{av:AV},eX ds (λk=>(H++[none]).length<=k) H6 av->∀y,Rd (Zs Λ (H6.set H.length y)) (H6.set H.length y) ds av:=fun {ds av} ow y=>by
    refine Rd.aD (λm hm=>?_) (λm hm z hz=>?_) _ _ (eX.rd _ (λ_ y=>y) _ (eX.lt _ _ ow));·have U:(H++[none]).length<=m:=hm.1;have a4:m<H6.length:=hm.2;exact⟨a1.aE (by simp at U;omega),by rw[UA];exact a4⟩
    ·have U:(H++[none]).length<=m:=hm.1;rw[Uq (by simp at U;omega)];exact hz
   obtain⟨H7,M⟩:∃H7,H7=H6.set H.length (some (e_.aA 17 [x.aA[i].aE e' d'] false)):=⟨_,rfl⟩;have X7:eV eY H H7:=by rw[M];exact W.aH (Uy _) _
   have ae:iK H7 17 (.aG H.length 17 0 1 (some 1))=some [x.aA[i].aE e' d']:=qc (g:=false) (by rw[M];exact Ux hlt) (some 1) (len:=1) rfl;have hy:fY (Zs Λ H7) H7 ([x.aA[i]].map fE.c) [x.aA[i].aE e' d']:=by simp only[U5,Vl,fY];exact⟨_,_,rfl,by rw[M];exact Cf (rr oe _) (rr od _),rfl⟩
   obtain⟨y4,h4,g1,g4,n4,a2,Λ5,t1,t2⟩:=a1.aW X7 hy (by show (x.aA.length+1)*200<=_;omega) (bytes:=168) (by decide);rw[<-iq ae]at g1;simp only[fX.aA]at n4 t1 t2;simp only[fE.aE]at M;have R7:=X7.aA u;simp only[fE.aE,go_sem,jK,I,R6,a5,se,sd,<-M,g1,g4,gC g4,n4,a2];have Z:ic c0 B K {x with aA:=x.aA++[x.aA[i]]}:=ok.aF λy hy=>by
    rcases U4.1 hy with hy | hy;·exact hy
    ·rw[Wc.1 hy];exact UT ip
   refine⟨Λ5,{w with pv:=y4},{x with aA:=x.aA++[x.aA[i]]},s1.aA t1,rfl,t2,Z.aA (by omega) (by omega),⟨?_,by have:=bb.aE;show x.aE.length<=_;omega,by have:=bb.aC;show x.aC.length<=_;omega⟩,⟨λz=>by omega,λz=>by omega,λz=>by omega,λ_=>by rw[dif_pos ⟨ip,c300⟩],λz=>by omega,λz=>by omega,λz=>by omega⟩⟩;show (x.aA++[x.aA[i]]).length<=_;simp only[Ut,Vn];omega
  ·have E:¬(x.aA.length:Int)<300:=by omega
   simp only[jM,AC.aD,lP,l0,l6,l31,go_sem,u,pl,Int.reduceEq,V9,Uu O,Us E];exact⟨Λ,w,_,s1,rfl,a1,ok.aA (by omega) (by omega),bb.aD (by omega),⟨λz=>by omega,λz=>by omega,λz=>by omega,λ_=>by rw[dif_neg (λz=>c300 z.2)],λz=>by omega,λz=>by omega,λz=>by omega⟩⟩
 ·have O:¬(0:Int)<x.aA.length:=by omega
  simp only[jM,AC.aD,lP,l6,l31,go_sem,Int.reduceEq,V9,Us O];exact⟨Λ,w,_,s1,rfl,a1,ok.aA (by omega) (by omega),bb.aD (by omega),⟨λz=>by omega,λz=>by omega,λz=>by omega,λ_=>by rw[dif_neg (λz=>by omega)],λz=>by omega,λz=>by omega,λz=>by omega⟩⟩
end
section
variable {c0:fq} {B K B' K' N k:Nat} {x:gw} {y:RX}
theorem lQ.aA {P:Program}{ft:FuncId}(ut:lQ P ft){Λ:Nat->Nat}{h:eW}{nb:Nat}{w:fX}{ma ca aa:AV}{KK:AV->eW->Prop} (a:fW Λ h nb w {iF x with l:=x.l.set k y.r}) (r1:Rd (Zs Λ h) h (td y.o.aD) ma) (r2:Rd (Zs Λ h) h (nV y.o.aA) ca) (r3:Rd (Zs Λ h) h (gN y.o.aF) aa) (ok:ic c0 B K x) (e:ic c0 B' K' (x.aD k y)) (hk:k<x.l.length) (ti:nu x x.l[k].aA x.l[k].aH y) (hK:K'<=130000) (bb:jL N x) (hN:N<4000) (te:y.aE 2) (sa:y.aD 21)
  (hK':∀v Λ2 h2 w2,gA Λ h Λ2 h2->w2.rs=w.rs->fW Λ2 h2 nb w2 (iF (x.aD k y))->jL (N+1) (x.aD k y)->KK v h2):mN P ft [.aC nb 9 0 0,.aA .i64 k,.aF [ma,ca,aa,.aA .i64 y.o.aE,.aE y.o.aC]] h KK:=by
 have f:=e.aI hk;have b1:=bb.aA;have b2:=bb.aE;have b3:=bb.aC;have te':y.o.aA.length<=2:=te;have sa':y.o.aD.length<=21:=sa;have dl:=BL (D:=x.aC) f.aL;obtain⟨n,t1,t2⟩:=uB.of ok e hk ti hK (by omega) (by omega) (by omega) (by omega);refine fA ⟨ut.1,ut.2 Λ h nb w _ k y.o y.r _ n ma ca aa a t1 r1 r2 r3⟩ ?_;rintro v h2 ⟨Λ2,w2,s2,e2,a2⟩;exact hK' v Λ2 h2 w2 s2 e2 (by rw[<-t2];exact a2) (bb.aF f hK sa)
theorem Gw (hk:k<x.l.length){r:eZ} (e:r=x.l[k]):({iF x with l:=x.l.set k r}:iZ)=iF x:=by subst e;rw[WB];rfl
end
theorem Pn {r:eZ}{k:Int}{d:List Int}(h:¬(r.aP k d).2.2=0):(r.aP k d).2.1.r=r:=by
 unfold eZ.aP at h ⊢;split;·rfl
 ·split;·rfl
  ·split;·rfl
   ·split;·rfl
    ·rename_i c1 c2 c3 c4;rw[Uw c1,Uw c2,Uw c3,Uw c4]at h;exact absurd rfl h
section
variable {P:Program} {f1 f2 f3 f4 f5 f6 f7 f8 f9:FuncId} {Λ:Nat->Nat} {h H:eW} {nb N:Nat} {w:fX} {x:gw} {c0:fq} {B K:Nat} {q a d:Int} {kd:Int} {k i nq:Nat} {Le:fV}
theorem OA (u3:lQ P f3)(u6:uq P f6)(s:qQ Λ h H nb N w x c0 B K q a d kd k i nq Le)(c5:kd=7):vc P (jM f1 f2 f3 f4 f5 f6 f7 f8 f9).aA.tl.tl.tl.tl.tl ⟨Le,[],H⟩ (i_ (jM f1 f2 f3 f4 f5 f6 f7 f8 f9).aC λ_ h'=>lP Λ h nb N w x c0 B K kd k i d h'):=by
 obtain⟨a1,ok,bb,hB,hK,hN,s1,B1,z0,k5,hi2,l0,l3,l4,l5,l6,l31⟩:=s;have row1:=a1.aA;simp only[fX.aA]at row1;have pl:=a1.aN;have pl:ik w.pv=some (.aA .i64 x.aA.length):=pl;have bp:=bb.aA;have ate:=gw.aL k5;obtain⟨n1,j1,lrow,lg,r,v1,v2,v3,v4,v5,v6,v7,-,-⟩:=a1.aI (k:=k) k5;have vl:=(Up.1 v3).1;subst c5;have nbl:=(Up.1 a1.aA).1;have N1:∀sz i o,gW H.length 2 (.aC nb sz i o)=true:=λsz i o=>iu nbl;have hl1:=(Up.1 B1).1;have N3:∀sz i o,gW H.length 2 (.aC nq sz i o)=true:=λsz i o=>iu hl1;have N2:∀sz i o,gW H.length 2 (.aC n1 sz i o)=true:=λsz i o=>iu v7;have R1:∀y z,(H++[y]++[z])[nb]?=_:=λy z=>(eV.b2 y z).aA row1;have R2:∀y z,(H++[y]++[z])[n1]?=_:=λy z=>(eV.b2 y z).aA v2;have R3:∀y z,(H++[y]++[z])[nq]?=_:=λy z=>(eV.b2 y z).aA B1;simp only[jM,AC.aD,lP,l0,l3,l4,l31,go_sem,jK,Int.reduceEq,V9,R1,R2,R3,N1,N2,N3,v1,v3];obtain⟨H0,hH0⟩:∃H0,H0=H++[some (e_.aA 1 [[AV.aA IntKind.u8 (IntKind.u8.wrap d)]] false)]++[none]:=⟨_,rfl⟩;have X0:eV eY H H0:=by rw[hH0];exact eV.b2 _ _
 have hb0:H0[H.length+1]?=some none:=by rw[hH0];simp
 have hd0:H0[H.length]?=some (some (e_.aA 1 [[AV.aA IntKind.u8 (IntKind.u8.wrap d)]] false)):=by rw[hH0];simp
 have hl0:H0.length=H.length+2:=by rw[hH0];simp
 have a0:=a1.up X0;obtain⟨hr1,er⟩:=Up.1 v4;have f:=ok.aC k k5;have m0:iN (gR k Λ) H0 r x.l[k]:=by rw[<-er];exact a0.aF k hr1 k5
 have ewd:IntKind.u8.wrap d=d % 256:=HY d;have pz:∀m,Λ m=0->gR k Λ m=0:=λm e=>by unfold gR;rw[e];split<;>omega
 have dat:yn (gR k Λ) H0 (gj [d % 256]) (.aG H.length 1 0 1 (some 1)):=by refine⟨λm=>m=H.length,?_,λm hm=>⟨pz m (a1.aE (by omega)),by omega⟩⟩;simp only[gj,U5,Vl,Rd];exact⟨_,.inr (.inr ⟨H.length,0,1,some 1,_,false,rfl,rfl,hd0,by simp,(λc hc=>by cases hc;simp),rfl⟩),by simp[fY,fm,Rd,ewd]⟩
 rw[<-hH0];clear hH0;refine fA ⟨u6.1,u6.2 (gR k Λ) H0 r x.l[k] K 1 [d % 256] _ m0 f (by omega) dat ⟨by intro z hz;simp at hz;omega,by simp⟩ ⟨by decide,by decide⟩⟩ ?_;rintro _ h6 ⟨res,rfl,ro⟩;rw[<-er]at ro;obtain⟨Λ6,ma,ca,aa,rfl,⟨sm,sc,sa⟩,hn6,z6,go⟩:=a0.bH X0 (n:=H.length+1) (by omega) hb0 (a1.aE (by omega)) hr1 k5 ro;have R6:=(z6 nq (by omega) z0).trans (X0.aA B1);have nl6:=(Up.1 hn6).1;simp only[go_sem,jK,hn6,nl6,R6,sm,sc,sa];refine iw (λc=>?_) (λc=>?_);·simp at c;have bd:gI [d % 256]/\[d % 256].length<=256:=⟨by intro z hz;simp at hz;omega,by simp⟩;obtain⟨o1,o2⟩:=ok.aM (by omega) k5 (kind:=1) bd ⟨by decide,by decide⟩ (λz=>by omega) c;have te:(x.l[k].aP 1 [d % 256]).2.1.aE 2:=(RX.aE.aK _ _ _).aA (by omega);have sa':(x.l[k].aP 1 [d % 256]).2.1.aD 21:=RX.aD.aK _ f.aH f.aE.1 _ _;obtain⟨t1,t2,q1,q2,q3⟩:=go (.aA 5 [[ma,ca,aa,.aA .i64 (x.l[k].aP 1 [d % 256]).2.1.o.aE,.aE (x.l[k].aP 1 [d % 256]).2.1.o.aC]] false);rw[Vs];simp only[go_sem,l0,l4,Ux nl6];refine u3.aA t2 q1 q2 q3 ok o1 k5 o2 (by omega) bb hN te sa' (λv8 Λ8 h8 w8 s8 wr8 a8 b8=>?_);simp only[go_sem];exact⟨Λ8,w8,_,(s1.aA t1).aA s8,by rw[wr8],a8,o1.aA (by omega) (by omega),b8,⟨λz=>by omega,λz=>by omega,λz=>by omega,λz=>by omega,λ_=>by rw[ate,Uv c],λz=>by omega,λz=>by omega⟩⟩
 ·simp at c;obtain⟨t1,t2,-⟩:=go (.aA 5 [[ma,ca,aa,.aA .i64 (x.l[k].aP 1 [d % 256]).2.1.o.aE,.aE (x.l[k].aP 1 [d % 256]).2.1.o.aC]] false);rw[Vs];simp only[go_sem];exact⟨Λ6,w,x,s1.aA t1,rfl,by have e:=Gw k5 (Pn c);rw[<-e];exact t2,ok.aA (by omega) (by omega),bb.aD (by omega),⟨λz=>by omega,λz=>by omega,λz=>by omega,λz=>by omega,λ_=>by rw[ate,Uw c],λz=>by omega,λz=>by omega⟩⟩
end
theorem gE.aG {F:Nat->Prop}{h:eW}{v:AV}{l:List Int}(c:gE F h 1 v (hP l)):Rd F h (fM l) v:=by
 have key:∀l:List Int,fY F h (l.map λn=>[D.aA .i64 n]) (hP l):=by
  intro l;induction l with
  | nil=>simp[hP,fY]
  | cons n l ih=>simp only[U5,hP,fY];exact⟨_,_,rfl,by simp[fm,Rd],ih⟩
 simp only[fM,Rd];refine⟨hP l,?_,key l⟩;rcases c with⟨rfl,e⟩ | ⟨n,off,cap,row,g,rfl,h2,h3,h4,h5,h6,h7,h8⟩
 ·exact .inl ⟨rfl,e⟩
 ·exact .inr (.inr ⟨n,off,_,cap,row,g,rfl,h2,h3,h4,h5,h8.symm⟩)
theorem OB {P:Program}{f f1 f2 f3 f4 f5 f6 f7 f8 f9:FuncId}(hf:Is P f (jM f1 f2 f3 f4 f5 f6 f7 f8 f9))(u1:sE P f1){C:Int->Prop} (fin:∀{Λ h H nb N w x c0 B K q a d kd k i nq Le},qQ Λ h H nb N w x c0 B K q a d kd k i nq Le->C kd->0<=kd->kd<12->vc P (jM f1 f2 f3 f4 f5 f6 f7 f8 f9).aA.tl.tl.tl.tl.tl ⟨Le,[],H⟩ (i_ (jM f1 f2 f3 f4 f5 f6 f7 f8 f9).aC λ_ h'=>lP Λ h nb N w x c0 B K kd k i d h')):ug C P f:=by
 refine⟨hf.2,λΛ h nb N w x c0 B K q a d hC A ok bb hB hK hN=>fU hf ?_⟩;obtain⟨H,hH⟩:∃H,H=h++[some (e_.aA 3 [[.aA .i64 q,.aA .i64 a,.aA .i64 d]] false)]:=⟨_,rfl⟩;have X1:eV eY h H:=by rw[hH];exact eV.b1 _
 have B1:H[h.length]?=some (some (e_.aA 3 [[.aA .i64 q,.aA .i64 a,.aA .i64 d]] false)):=by rw[hH];exact gH _ _
 have a1:=A.up X1;have s1:gA Λ h Λ H:=gA.up X1;have z0:Λ h.length=0:=A.aE (Uy _);have e:=a1.aA;simp only[fX.aA]at e;have pl:=a1.aN;have pl:ik w.pv=some (.aA .i64 x.aA.length):=pl;have bp:=bb.aA;have pk1:=qC (k:=a) (n:=5) (by omega);have pq:=qC (k:=q) (n:=12) (by omega);simp only[jM,go_sem];rw[<-hH];clear hH;have I:(x.aA.length:Int)<=2^40:=by have:x.aA.length<=21*N:=bp;omega
 refine nk.aA u1.1 (u1.2 a 5 (by omega)) ?_;simp only[go_sem,B1,e,pl];refine nk.aA u1.1 (u1.2 a x.aA.length I) ?_;simp only[go_sem,B1,e,pl];refine nk.aA u1.1 (u1.2 q 12 (by omega)) ?_;obtain⟨k,hk⟩:∃k:Nat,jk a 5=k:=⟨(jk a 5).toNat,by omega⟩;obtain⟨i,hi⟩:∃i:Nat,jk a x.aA.length=i:=⟨(jk a x.aA.length).toNat,by
  have:0<=jk a x.aA.length:=by
   by_cases c:(0:Int)<x.aA.length
   ·exact (qC c).1
   ·unfold jk;rw[Uv (by omega)];exact UL _
  omega⟩
 have hi2:0<x.aA.length->i<x.aA.length:=λc=>by have:=(qC (k:=a) (n:=x.aA.length) (by omega)).2;omega
 rw[hk,hi];simp only[Vt];have k5:k<x.l.length:=by have:=ok.aD;omega
 have ms:∀Le kd,lk 0 Le=.aC nb 9 0 0->lk 3 Le=.aC h.length 3 0 0->lk 4 Le=.aA .i64 k->lk 5 Le=.aA .i64 i->lk 6 Le=.aE (decide ((0:Int)<x.aA.length))->lk 31 Le=.aA .i64 kd->qQ Λ h H nb N w x c0 B K q a d kd k i h.length Le:=λLe kd k0 k3 k4 u k6 E=>⟨a1,ok,bb,hB,hK,hN,s1,B1,z0,k5,hi2,k0,k3,k4,u,k6,E⟩;generalize jk q 12=kd at *;rw[FT,CV,BY,qz];refine fin (ms _ _ ?_ ?_ ?_ ?_ ?_ ?_) hC pq.1 pq.2<;>simp[fj,h_]
theorem Ov {P:Program}{f f1 f2 f3 f4 f5 f6 f7 f8 f9:FuncId}(hf:Is P f (jM f1 f2 f3 f4 f5 f6 f7 f8 f9))(u1:sE P f1)(u2:sG P f2)(u3:lQ P f3)(u4:vQ P f4)(u5:yk P f5)(u6:uq P f6):ug (λq=>q<=7) P f:=OB hf u1 fun {_ _ _ _ _ _ _ _ _ _ _ _ _ kd _ _ _ _} s h7 h0 _=>by
 by_cases c1:kd<=1
 ·exact Ow u2 u3 s c1 (by omega)
 by_cases c2:kd<=4
 ·exact Ox u4 s c2 c1
 by_cases c3:kd=5
 ·exact Oy s c3
 by_cases c4:kd=6
 ·exact Oz u5 s c4
 ·exact OA u3 u6 s (by omega)
section
variable {Λ:Nat->Nat} {h h':eW} {nb:Nat} {w:fX} {v:iZ}
theorem fW.bG (hn:h[nb]?=some (some (.aA 9 [[.aD,.aD,.aD,.aD,.aD,.aD,.aD,.aD,.aE false]] false))):fW (λm=>if m=nb then 101 else 0) h nb ⟨.aD,.aD,.aD,.aD,.aD,.aD,.aD,.aD,[]⟩ ⟨[],[],[],[],[],[],[],[]⟩:=
 ⟨λm hm=>by split at hm<;>simp_all[(Up.1 hn).1],Uv rfl,hn,⟨rfl,by decide⟩,.aD,λk k1=>by simp at k1,⟨[],.aD,rfl⟩,.aD,⟨[],.aD,rfl⟩,⟨[],.aD,rfl⟩,.aD,.aD,.aD⟩
theorem fW.bI (a:fW Λ h nb w v){Λ':Nat->Nat}(lt:∀m,Λ' m≠0->m<h.length)(e:∀m,Λ m / 10≠v.l.length+1->m<h.length->Λ m=0\/Λ' m=Λ m)(z:∀m,m<h.length->Λ m=0->Λ' m=0\/Λ' m / 10=v.l.length+1)(z2:∀m,Λ m / 10=v.l.length+1->Λ' m=0\/Λ' m / 10=v.l.length+1)(hz:∀m,m<h.length->Λ m=0->Λ' m=0):fW Λ' h nb w v:=by
 have nbl:=(Up.1 a.aA).1;have l5:=a.aD;have big:∀m,100<=Λ m->Λ' m=Λ m:=λm hm=>by have:=a.lt m (by omega);rcases e m (by omega) this with c | c<;>omega
 have cc:∀{j sz:Nat}{b:AV} {es:List (List AV)},100<=j->gE (λm=>Λ m=j) h sz b es->gE (λm=>Λ' m=j) h sz b es:=λhj c=>c.aA (λm hm _=>by have u:Λ m=_:=hm;show Λ' m=_;rw[big m (by omega)];exact u) (λ_ _ _=>rfl);have zz:∀m,Zs Λ h m->Zs Λ' h m:=λm hm=>⟨hz m hm.2 hm.1,hm.2⟩;have kz:gS (Zs Λ h) h h:=λ_ _ _ y=>y;obtain⟨hr,h1,h2⟩:=a.aL;obtain⟨pr,p1,p2⟩:=a.aG;obtain⟨dr,d1,d2⟩:=a.aH;refine⟨lt,by rw[big nb (by rw[a.aC];decide)];exact a.aC,a.aA,a.aD,cc (by omega) a.l,λk k1 k2=>?_,⟨hr,cc (by omega) h1,fY.aA zz kz _ _ h2⟩,cc (by omega) a.aK,⟨pr,cc (by omega) p1,fY.aA zz kz _ _ p2⟩,⟨dr,cc (by omega) d1,fY.aA zz kz _ _ d2⟩,cc (by omega) a.aO,cc (by omega) a.aJ,cc (by omega) a.aM⟩;have e2:gR k Λ'=gR k Λ:=by
  funext m
  unfold gR;by_cases c:Λ m / 10=k+1
  ·have hm:=a.lt m (by omega);rcases e m (by omega) hm with y | y;·omega
   ·rw[y]
  ·rw[Uw c];by_cases c2:Λ' m / 10=k+1
   ·have hm:=lt m (by omega);by_cases c3:Λ m / 10=v.l.length+1;·have:=z2 m c3;omega
    ·rcases e m c3 hm with y | y;·have:=z m hm y;omega
     ·rw[y]at c2;exact absurd c2 c
   ·rw[Uw c2]
 rw[e2];exact a.aF k k1 k2
theorem fW.bE (a:fW Λ h nb w v)(l5:v.l.length<5){h1 h2:eW}{r8:Nat}{id d:Int}{q:fF}(hx:eV eY h h1)(h8:h.length<=r8) (hm:h1[r8]?=some (some (.aA 21 [(eZ.aU id q d).aJ .aD .aD] false))) (I:eV eY h1 h2):
  ∃x' h3,ij h2 1 8 w.lv [[.aC r8 21 0 0]]=some (x',h3)/\x'.aH=true/\h3[nb]?=some (some (.aA 9 [w.aA] false))/\nb<h3.length/\∃Λ',(∀m,m<h.length->Λ m=0->Λ' m=0)/\(∀m,m<h.length->Λ m=0->(h3.set nb (some (.aA 9 [({w with lv:=x'}:fX).aA] false)))[m]?=h[m]?)/\h.length<=(h3.set nb (some (.aA 9 [({w with lv:=x'}:fX).aA] false))).length /\
   fW Λ' (h3.set nb (some (.aA 9 [({w with lv:=x'}:fX).aA] false))) nb {w with lv:=x',rs:=w.rs++[r8]} {v with l:=v.l++[eZ.aU id q d]}:=by
 have hl1:=hx.1;have hl2:=I.1;have r8l:=(Up.1 hm).1;obtain⟨Λw,hΛ⟩:∃Λw:Nat->Nat,Λw=λm=>if Λ m / 10=v.l.length+1 then 0 else Λ m:=⟨_,rfl⟩
 have wz:∀m,Λ m=0->Λw m=0:=λm e=>by rw[hΛ];show (if Λ m / 10=v.l.length+1 then 0 else Λ m)=0;rw[e];split<;>rfl
 have w0:fW Λw h nb w v:=a.bI (λm hm=>a.lt m (λe=>hm (wz m e))) (λm c _=>.inr (by rw[hΛ];exact Uw c)) (λm _ e=>.inl (wz m e)) (λm c=>.inl (by rw[hΛ];exact Uv c)) (λm _ e=>wz m e);have wn:∀m,Λw m / 10≠v.l.length+1:=λm=>by rw[hΛ];show (if Λ m / 10=v.l.length+1 then 0 else Λ m) / 10≠_;split<;>omega
 clear hΛ;have X2:=hx.tr I;have a2:=w0.up X2;have nbl:=(Up.1 w0.aA).1;obtain⟨x',h3,e1,c3,X3⟩:=a2.l.aC (bytes:=8) (ys:=[[.aC r8 21 0 0]]) (eV.aC _ _) (by simp only[UI,Vn];have:=w0.aD;omega);have hl3:=X3.1;have no:∀m,h.length<=m->Λw m=0:=λm hm=>w0.aE hm;have U:h3[nb]?=some (some (.aA 9 [w.aA] false)):=(X3.2 nb (by omega) (λy=>by have y':Λw nb=102:=y;rw[w0.aC]at y';omega)).trans a2.aA;refine⟨x',h3,e1,c3.aE,U,by omega,λm=>if m=r8 then 10*(v.l.length+1)+6 else if m<h2.length then Λw m else if m<h3.length then 102 else 0,?_⟩;obtain⟨Λ',u⟩:∃Λ':Nat->Nat,Λ'=λm=>if m=r8 then 10*(v.l.length+1)+6 else if m<h2.length then Λw m else if m<h3.length then 102 else 0:=⟨_,rfl⟩
 rw[<-u];have l8:Λ' r8=10*(v.l.length+1)+6:=by rw[u];exact Uv rfl
 have lo:∀m,m≠r8->m<h2.length->Λ' m=Λw m:=λm h1 h2=>by rw[u];show (if m=r8 then _ else if m<_ then _ else _)=_;rw[Uw h1,Uv h2]
 have lm:∀m,h2.length<=m->m<h3.length->Λ' m=102:=λm h1 h2=>by rw[u];show (if m=r8 then _ else if m<_ then _ else _)=_;rw[Uw (by omega),Uw (by omega),Uv h2]
 have lh:∀m,h3.length<=m->Λ' m=0:=λm h1=>by rw[u];show (if m=r8 then _ else if m<_ then _ else _)=_;rw[Uw (by omega),Uw (by omega),Uw (by omega)]
 clear u;generalize hH:h3.set nb (some (.aA 9 [({w with lv:=x'}:fX).aA] false))=H;have hHl:H.length=h3.length:=by rw[<-hH];simp
 have kk:∀m,m≠nb->m<h2.length->Λw m≠102->H[m]?=h2[m]?:=λm h1 h2 hn=>by rw[<-hH,Uq (λe=>h1 e.symm)];exact X3.2 m h2 (λy=>hn y)
 have ko:∀m,m≠nb->m<h.length->Λw m≠102->H[m]?=h[m]?:=λm h1 h2 hn=>(kk m h1 (by omega) hn).trans (X2.2 m h2 (λy=>y));have zz:∀m,Zs Λw h m->Zs Λ' H m:=λm hm=>⟨(lo m (by have:=hm.2;omega) (by have:=hm.2;omega)).trans hm.1,by have:=hm.2;omega⟩;have nz:∀m,Λw m=0->m≠nb:=λm e y=>by rw[y,w0.aC]at e;omega
 have kz:gS (Zs Λw h) h H:=λm hm y hy=>(ko m (nz m hm.1) hm.2 (by rw[hm.1];omega)).trans hy;have cc:∀{i sz:Nat}{b:AV} {es:List (List AV)},i≠102->i≠101->100<=i->gE (λm=>Λw m=i) h sz b es->gE (λm=>Λ' m=i) H sz b es:=λh1 h2 h3' c=>c.aA (λm hm hlt=>(lo m (by omega) (by omega)).trans hm) (λm hm hlt=>by have E:Λw m=_:=hm;exact ko m (λy=>by rw[y,w0.aC]at E;omega) hlt (by omega));obtain⟨hr,Z,W⟩:=w0.aL;obtain⟨pr,O,M⟩:=w0.aG;obtain⟨dr,a3,a1⟩:=w0.aH;refine⟨λm hm e=>(lo m (by omega) (by omega)).trans (wz m e),λm hm e=>ko m (nz m (wz m e)) hm (by rw[wz m e];omega),by omega,λm hm=>?_,(lo nb (by omega) (by omega)).trans w0.aC,by rw[<-hH];exact Ux (by omega),⟨by simp;exact w0.aD.1,by simp;omega⟩,?_,λk k1 k2=>?_,⟨hr,cc (by omega) (by omega) (by omega) Z,fY.aA zz kz _ _ W⟩,cc (by omega) (by omega) (by omega) w0.aK,⟨pr,cc (by omega) (by omega) (by omega) O,fY.aA zz kz _ _ M⟩,⟨dr,cc (by omega) (by omega) (by omega) a3,fY.aA zz kz _ _ a1⟩,cc (by omega) (by omega) (by omega) w0.aO,cc (by omega) (by omega) (by omega) w0.aJ,cc (by omega) (by omega) (by omega) w0.aM⟩;·exact UC λc=>hm (lh m (by omega))
 ·show gE _ H 1 x' ((w.rs++[r8]).map λr=>[AV.aC r 21 0 0]);rw[Ve];refine c3.aA (λm hm hlt=>?_) (λm hm hlt=>?_)
  ·have E:(Λw m=102/\m<h2.length)\/h2.length<=m:=hm;rcases E with⟨y,y2⟩ | y;·exact (lo m (λe=>by rw[e,no r8 h8]at y;omega) y2).trans y
   ·exact lm m y hlt
  ·have E:(Λw m=102/\m<h2.length)\/h2.length<=m:=hm;rw[<-hH,Uq (λe=>?_)];rcases E with⟨y,y2⟩ | y;·rw[<-e,w0.aC]at y;omega
   ·omega
 ·have k1':k<w.rs.length+1:=by simpa using k1
  have rl:=w0.aD.1;by_cases c:k=v.l.length
  ·subst c;have g1:(w.rs++[r8])[v.l.length]'k1=r8:=by simp[<-rl]
   have g2:(v.l++[eZ.aU id q d])[v.l.length]'k2=eZ.aU id q d:=by simp
   have H8:H[r8]?=some (some (.aA 21 [(eZ.aU id q d).aJ .aD .aD] false)):=(kk r8 (by omega) (by omega) (by rw[no r8 h8];omega)).trans (I.aA hm);show iN _ H ((w.rs++[r8])[v.l.length]'k1) ((v.l++[eZ.aU id q d])[v.l.length]'k2);rw[g1,g2];have e:gR v.l.length Λ'=λm=>if m=r8 then 6 else 0:=by
    funext m
    unfold gR;by_cases c1:m=r8;·subst c1;rw[l8,Uv (by omega),Uv rfl];omega
    ·rw[Uw c1];by_cases c2:m<h2.length;·rw[lo m c1 c2,Uw (wn m)]
     ·by_cases c3:m<h3.length
      ·rw[lm m (by omega) c3,Uw (by omega)]
      ·rw[lh m (by omega),Uw (by omega)]
   rw[e];exact Gn H8
  ·have g1:(w.rs++[r8])[k]'k1=w.rs[k]'(by omega):=VM (by omega);have g2:(v.l++[eZ.aU id q d])[k]'k2=v.l[k]'(by omega):=VM (by omega);show iN _ H ((w.rs++[r8])[k]'k1) ((v.l++[eZ.aU id q d])[k]'k2);rw[g1,g2];have m0:=w0.aF k (by omega) (by omega);have e:gR k Λ'=gR k Λw:=by
    funext m
    unfold gR;by_cases c1:m=r8;·subst c1;rw[l8,no m h8,Uw (by omega)];simp
    ·by_cases c2:m<h2.length
     ·rw[lo m c1 c2]
     ·by_cases c3:m<h3.length
      ·rw[lm m (by omega) c3,no m (by omega),Uw (by omega)];simp
      ·rw[lh m (by omega),no m (by omega)]
   rw[e];refine m0.aC (by omega) (λm hm=>ko m (λy=>?_) (m0.aA m hm).1 (λy=>?_));·unfold gR at hm;rw[y,w0.aC,Uw (by omega)]at hm;exact hm rfl
   ·unfold gR at hm;rw[y,Uw (by omega)]at hm;exact hm rfl
end
section
variable {Λ:Nat->Nat} {h h':eW} {nb:Nat} {w:fX} {v:iZ}
theorem fW.a_ (a:fW Λ h nb w v){h2:eW}(hx:eV eY h h2)(n:Int)(hb:v.aC.length<=2^30):
  ∃x' h3,ij h2 1 8 w.av [[.aA .i64 n]]=some (x',h3)/\x'.aH=true/\h3[nb]?=some (some (.aA 9 [w.aA] false))/\nb<h3.length/\∃Λ',gA Λ h Λ' (h3.set nb (some (.aA 9 [({w with av:=x'}:fX).aA] false)))/\fW Λ' (h3.set nb (some (.aA 9 [({w with av:=x'}:fX).aA] false))) nb {w with av:=x'} {v with aC:=v.aC++[n]}:=by
 obtain⟨x',h3,e1,sc,n3,e,f⟩:=a.aP hx (bytes:=8) (ys:=[[.aA .i64 n]]) (j:=104) (by omega) a.aK (by simp only[hP,UI,Vn];omega);obtain⟨Λ',r1,s1,s2,c1,row⟩:=f ({w with av:=x'}:fX).aA;refine⟨x',h3,e1,sc,n3,e,Λ',s1,r1.lt,r1.aC,row,r1.aD,r1.l (by omega),r1.aA,r1.aJ (by omega),?_,r1.aK (by omega),r1.aE (by omega),r1.aH (by omega),r1.aG (by omega),r1.aF (by omega)⟩;show gE _ _ 1 x' (hP (v.aC++[n]));have:hP (v.aC++[n])=hP v.aC++[[.aA .i64 n]]:=by simp[hP]
 rw[this];exact c1
theorem fW.bx (a:fW Λ h nb w v){h2:eW}(hx:eV eY h h2){q:fF}{cs:List AV}(hy:fm (Zs Λ h2) h2 (iW q).c cs)(hb:v.aE.length<=2^30):
  ∃x' h3,ij h2 2 48 w.hv [cs]=some (x',h3)/\x'.aH=true/\h3[nb]?=some (some (.aA 9 [w.aA] false))/\nb<h3.length/\∃Λ',gA Λ h Λ' (h3.set nb (some (.aA 9 [({w with hv:=x'}:fX).aA] false)))/\fW Λ' (h3.set nb (some (.aA 9 [({w with hv:=x'}:fX).aA] false))) nb {w with hv:=x'} {v with aE:=v.aE++[q]}:=by
 obtain⟨rows,p1,p2⟩:=a.aL;have l1:=lF p2;simp only[UI]at l1;obtain⟨x',h3,e1,sc,n3,e,f⟩:=a.aP hx (bytes:=48) (ys:=[cs]) (j:=103) (by omega) p1 (by simp only[Vn];omega);obtain⟨Λ',r1,s1,s2,c1,row⟩:=f ({w with hv:=x'}:fX).aA;refine⟨x',h3,e1,sc,n3,e,Λ',s1,r1.lt,r1.aC,row,r1.aD,r1.l (by omega),r1.aA,⟨_,c1,?_⟩,r1.aI (by omega),r1.aK (by omega),r1.aE (by omega),r1.aH (by omega),r1.aG (by omega),r1.aF (by omega)⟩;show fY _ _ ((v.aE++[q]).map λx=>(iW x).c) _;rw[Ve];exact uy (fY.aA s1.zs s1.kz _ _ p2) (by simp only[U5,Vl,fY];exact⟨_,_,rfl,s2.aE hy,rfl⟩)
end
def jh (n:Nat):fq:=⟨(List.range n).map λi:Nat=>(i:Int)+1,[],[]⟩
def gV (n:Nat):fF:=⟨1,0,0,⟨0,0,[]⟩,jh n,[]⟩
def jZ (n i:Nat):eZ:=eZ.aU (i+1) (gV n) (3*(i+1))
def n9 (n i:Nat):iZ:=⟨(List.range i).map (jZ n),List.replicate i (gV n),List.replicate i 0,[],[],[],[],[]⟩
def gw.aI (n:Nat):gw:=⟨(List.range 5).map (jZ n),[],[],[],[],[]⟩
def yc (P:Program)(f:FuncId):Prop:=fP P f=true/\∀(h:eW)(n:Nat),1<=n/\n<=5->
 fC P f [.aA .i64 n] h λr h'=>∃nb Λ w,r=.aC nb 9 0 0/\eV eY h h'/\(∀m,m<h.length->Λ m=0)/\fW Λ h' nb w (iF (gw.aI n))
theorem JS {P:Program}{f1 f2:FuncId}{h:eW}{n b:Nat}{L:fV}{K:AX->St->Prop}(hn:n<=5)(k0:lk 0 L=.aA .i64 n)(k3:lk 3 L=.aC b 3 0 0)(k4:lk 4 L=.aA .i64 (1:Int)) (hb:h[b]?=some (some (.aA 3 [[.aD,.aD,.aD]] false)))
  (hK:∀Lv h' ov,(∀m,m≠4->m≠11->lk m Lv=lk m L)->h.length<=h'.length->(∀m,m<h.length->m≠b->h'[m]?=h[m]?)->h'[b]?=some (some (.aA 3 [[ov,.aD,.aD]] false))->gE (λm=>h.length<=m) h' 1 ov (hP (jh n).aA)->K (.aD 0) ⟨Lv,[],h'⟩):
  vc P (.aE (zM f1 f2)) ⟨L,[],h⟩ K:=by
 have bl:=(Up.1 hb).1;obtain⟨I,hI⟩:∃I:Nat->fV->eW->Prop,∀m Lv h',I m Lv h'↔∃(i:Nat)(ov:AV),(∀m,m≠4->m≠11->lk m Lv=lk m L)/\lk 4 Lv=.aA .i64 ((i:Int)+1)/\h.length<=h'.length/\(∀m,m<h.length->m≠b->h'[m]?=h[m]?)/\h'[b]?=some (some (.aA 3 [[ov,.aD,.aD]] false))/\gE (λm=>h.length<=m) h' 1 ov (hP (jh i).aA)/\i<=n/\m=n-i:=⟨_,λ_ _ _=>VW⟩;refine iM I n ((hI _ _ _).2 ⟨0,.aD,λ_ _ _=>rfl,by simpa using k4,Uy _,λ_ _ _=>rfl,hb,.inl ⟨rfl,rfl⟩,by omega,by omega⟩) ?_;intro m Lv h' hh;obtain⟨i,ov,ks,m4,hl,hk,E,c,hi,rfl⟩:=(hI _ _ _).1 hh;clear hh;have m0:=(ks 0 (by decide) (by decide)).trans k0;have m3:=(ks 3 (by decide) (by decide)).trans k3;have sv:=c.aE;have bl':b<h'.length:=by omega
 have R:∀y,(h'++[y])[b]?=_:=λy=>(eV.b1 y).aA E;have ew:IntKind.i64.wrap ((i:Int)+1+1)=((i+1:Nat):Int)+1:=by rw[gi (by omega)];omega
 simp only[zM,go_sem,m0,m4];refine iw (λci=>?_) (λci=>?_)
 ·have ci:i+1<=n:=by simp at ci;omega
  simp only[go_sem,m3,m4,E];have ae:iK (h'++[some (e_.aA 1 [[AV.aA IntKind.i64 ((i:Int)+1)]] false)]) 1 (.aG h'.length 1 0 1 (some 1))=some [[.aA .i64 ((i:Int)+1)]]:=qc (g:=false) (gH _ _) (some 1) (len:=1) rfl;have c':gE (λm=>h.length<=m) (h'++[some (e_.aA 1 [[AV.aA IntKind.i64 ((i:Int)+1)]] false)]) 1 ov (hP (jh i).aA):=c.aA (λ_ y _=>y) (λm _ hlt=>(eV.b1 _).2 m hlt (λy=>y));obtain⟨v',h3,g1,c3,X3⟩:=c'.aC (bytes:=8) (ys:=[[.aA .i64 ((i:Int)+1)]]) (eV.aC _ _) (by simp only[hP,jh,UI,List.length_range,UG,UJ];omega);rw[<-iq ae]at g1;have M:=c3.aE;have W:¬h.length<=b:=by omega
  have U:h3[b]?=some (some (.aA 3 [[ov,.aD,.aD]] false)):=(X3.2 b (by simp;omega) W).trans (R _);have Z:=(Up.1 U).1;simp only[go_sem,m3,g1,U,M,gC M,m4,ew];have xl:=X3.1;simp only[Ut,Vn]at xl;refine⟨_,by omega,(hI _ _ _).2 ⟨i+1,v',λm h1 h2=>by simp only[fj];rw[Uw (λe=>h1 e),Uw (λe=>h2 e)];exact ks m h1 h2,by simp[fj],by rw[UA];omega,λm hm O=>?_,Ux Z,?_,by omega,rfl⟩⟩;·rw[Uq (λe=>O e.symm)];exact (X3.2 m (by simp;omega) (by show ¬h.length<=m;omega)).trans (((eV.b1 _).2 m (by omega) (λy=>y)).trans (hk m hm O))
  ·have e:hP (jh (i+1)).aA=hP (jh i).aA++[[.aA .i64 ((i:Int)+1)]]:=by simp[hP,jh,List.range_succ]
   rw[e];refine c3.aA (λm hm _=>?_) (λm hm hlt=>Uq (λy=>?_));·have u:(h.length<=m/\_)\/_<=m:=hm;simp only[Ut,Vn]at u;omega
   ·have u:(h.length<=m/\_)\/_<=m:=hm;simp only[Ut,Vn]at u;omega
 ·have ci:¬i+1<=n:=by simp at ci;omega
  have:i=n:=by omega
  subst this;simp only[go_sem];exact hK _ _ ov (λm h1 h2=>by rw[fj,Uw (λe=>h2 e)];exact ks m h1 h2) hl hk E c
theorem JT {P:Program}{f1 f2:FuncId}(u1:um P f1)(u2:vR P f2){h:eW}{n nb b3:Nat}{ov:AV}{F:Nat->Prop}{L:fV}{K:AX->St->Prop}(hn:1<=n/\n<=5)(k3:lk 3 L=.aC b3 3 0 0)(k5:lk 5 L=.aC nb 9 0 0)(k6:lk 6 L=.aA .i64 (1:Int)) (hb:h[b3]?=some (some (.aA 3 [[ov,.aD,.aD]] false))) (hF:∀m,F m->m<nb) (b3n:b3<nb) (ro:Rd F h (fM (jh n).aA) ov)
  (hnb:h[nb]?=some (some (.aA 9 [[.aD,.aD,.aD,.aD,.aD,.aD,.aD,.aD,.aE false]] false)))
  (hK:∀Lv h' Λ w,lk 5 Lv=.aC nb 9 0 0->(∀m,m<nb->Λ m=0)->nb<h'.length->(∀m,m<nb->h'[m]?=h[m]?)->fW Λ h' nb w (n9 n 5)->K (.aD 2) ⟨Lv,[],h'⟩):
  vc P (.aE (zN f1 f2)) ⟨L,[],h⟩ K:=by
 have nbl:=(Up.1 hnb).1
 obtain⟨I,hI⟩:∃I:Nat->fV->eW->Prop,∀m Lv h',I m Lv h'↔∃(i:Nat)(Λ:Nat->Nat)(w:fX),(lk 3 Lv=.aC b3 3 0 0/\lk 5 Lv=.aC nb 9 0 0/\lk 6 Lv=.aA .i64 ((i:Int)+1))/\(∀m,m<nb->Λ m=0)/\nb<h'.length/\(∀m,m<nb->h'[m]?=h[m]?)/\fW Λ h' nb w (n9 n i)/\i<=5/\m=5-i:=⟨_,λ_ _ _=>VW⟩
 refine iM I 5 ((hI _ _ _).2 ⟨0,_,_,⟨k3,k5,by simpa using k6⟩,λm hm=>Uw (by omega),nbl,λ_ _=>rfl,fW.bG hnb,by omega,by omega⟩) ?_
 intro m Lv h' hh
 obtain⟨i,Λ,w,⟨m3,m5,m6⟩,hz,nbl',hk,a,hi,rfl⟩:=(hI _ _ _).1 hh
 clear hh
 have row:=a.aA
 simp only[fX.aA]at row
 have hb':=(hk b3 b3n).trans hb
 have ro':Rd F h' (fM (jh n).aA) ov:=Rd.aD (λ_ y=>y) (λm hm y hy=>(hk m (hF m hm)).trans hy) _ _ ro
 have so:=ro'.aA
 simp only[zN,go_sem,m6]
 refine iw (λci=>?_) (λci=>?_)
 ·have ci:i<5:=by simp at ci;omega
  obtain⟨H1,hH1⟩:∃H1,H1=h'++[some (e_.aA 10 [[.aA .i64 1,.aA .i64 0,.aA .i64 0,.aA .i64 0,.aA .i64 0,.aD,ov,.aD,.aD,.aD]] false)]:=⟨_,rfl⟩
  have X1:eV eY h' H1:=by rw[hH1];exact eV.b1 _
  have C1:H1[h'.length]?=some (some (e_.aA 10 [[.aA .i64 1,.aA .i64 0,.aA .i64 0,.aA .i64 0,.aA .i64 0,.aD,ov,.aD,.aD,.aD]] false)):=by rw[hH1];exact gH _ _
  have l1:H1.length=h'.length+1:=by rw[hH1];simp
  have N1:∀sz i o,gW H1.length 1 (.aC nb sz i o)=true:=λsz i o=>iu (by omega)
  have N2:∀sz i o,gW H1.length 1 (.aC h'.length sz i o)=true:=λsz i o=>iu (by omega)
  have R1:∀y,(H1++[y])[nb]?=_:=λy=>(X1.tr (eV.b1 y)).aA row
  have R2:∀y,(H1++[y])[h'.length]?=_:=λy=>(eV.b1 y).aA C1
  simp only[go_sem,m3,m5,hb',so]
  rw[<-hH1]
  clear hH1
  simp only[go_sem,m6,R1,R2]
  rw[<-l1]
  refine⟨N1 _ _ _,?_⟩
  have hc:fm F (H1++[none]) (gV n).c [.aA .i64 1,.aA .i64 0,.aA .i64 0,.aA .i64 0,.aA .i64 0,.aD,ov,.aD,.aD,.aD]:=by
   have ro2:Rd F (H1++[none]) (fM (jh n).aA) ov:=ro'.up (X1.tr (eV.b1 none))
   simp only[fF.c,gV,fm]
   exact⟨_,_,rfl,rfl,_,_,rfl,rfl,_,_,rfl,rfl,_,_,rfl,rfl,_,_,rfl,rfl,_,_,rfl,rT _ _ 3,_,_,rfl,ro2,_,_,rfl,rT _ _ 1,_,_,rfl,rT _ _ 1,_,_,rfl,rT _ _ 1,rfl⟩
  have fc:(gV n).aD.aH (2^40):=⟨by simp[gV,jh];omega,by simp[gV,jh],by simp[gV,jh]⟩
  have lo:jH (gV n).aA:=⟨UL _,by show (0:Int)<=2^41;decide,by show (0:Nat)<=_;omega,λe he=>by cases he⟩
  refine fA ⟨u1.1,u1.2 F (H1++[none]) _ (gV n) _ _ hc lo fc (by simp[gV]) ⟨by simp[gV],by simp[gV],by simp[gV]⟩⟩ ?_
  rintro _ H8 ⟨r8,rfl,hr8,row8,X8⟩
  have hfree:H8[H1.length]?=some none:=X8.aA (by simp)
  have hlt:=(Up.1 hfree).1
  have hr8':H1.length+1<=r8:=by simpa using hr8
  obtain⟨H9,hH9⟩:∃H9,H9=H8.set H1.length (some (.aA 1 [[.aC r8 21 0 0]] false)):=⟨_,rfl⟩
  have X9:eV eY H1 H9:=by rw[hH9];exact ((eV.b1 none).tr X8).aH (Uy _) _
  have row9:H9[r8]?=some (some (.aA 21 [(eZ.aU ((i:Int)+1) (gV n) (IntKind.i64.wrap (3*((i:Int)+1)))).aJ .aD .aD] false)):=by rw[hH9,Uq (by omega)];exact row8
  have ae:iK H9 1 (.aG H1.length 1 0 1 (some 1))=some [[.aC r8 21 0 0]]:=qc (g:=false) (by rw[hH9];exact Ux hlt) (some 1) (len:=1) rfl
  obtain⟨y1,h3,g1,g2,g3,g4,Λ3,j1,j2,j3,a3⟩:=(a.up X1).bE (by simpa [n9] using ci) X9 (by omega) row9 (eV.aC _ _)
  rw[<-iq ae]at g1
  have row1:=X1.aA row
  have R9:=X9.aA row1
  have R8:=((eV.b1 none).tr X8).aA row1
  simp only[fX.aA]at g3 j2 j3 a3
  simp only[go_sem,jK,hfree,R8,<-hH9,g1,g2,g3,g4,gC g2]
  generalize h3.set nb (some (e_.aA 9 [[y1,w.hv,w.av,w.pv,w.dv,w.tv,w.ev,w.qv,AV.aE false]] false))=H10 at *
  have row10:=a3.aA
  simp only[fX.aA]at row10
  have z10:Λ h'.length=0:=a.aE (Uy _)
  have C10:=(j2 h'.length (by omega) z10).trans C1
  have nl10:=(Up.1 row10).1
  have cl10:=(Up.1 C10).1
  have N1':∀sz i o,gW H10.length 2 (.aC nb sz i o)=true:=λsz i o=>iu nl10
  have N2':∀sz i o,gW H10.length 2 (.aC h'.length sz i o)=true:=λsz i o=>iu cl10
  have R1':∀y z,(H10++[y]++[z])[nb]?=_:=λy z=>(eV.b2 y z).aA row10
  have R2':∀y z,(H10++[y]++[z])[h'.length]?=_:=λy z=>(eV.b2 y z).aA C10
  have hc10:fm F (H10++[none]++[none]) (gV n).c [.aA .i64 1,.aA .i64 0,.aA .i64 0,.aA .i64 0,.aA .i64 0,.aD,ov,.aD,.aD,.aD]:=fm.aA (λ_ y=>y) (λm hm y hy=>by
   have mb:=hF m hm
   have hy':H1[m]?=some y:=by
    have:=(UZ (l₁:=H1) (l₂:=[none]) (i:=m) (by omega)).symm.trans hy
    exact this
   exact (eV.b2 _ _).aA ((j2 m (by omega) (hz m mb)).trans hy')) _ _ hc
  simp only[go_sem,m5,R1',R2',N1',N2']
  refine gh u2.1 (u2.2 F _ (gV n) _ hc10 ⟨lo.2.2,fc,by simp[gV]⟩) ?_
  simp only[go_sem,jK,R1',R2',fF.aL,rV,rW,vC]
  obtain⟨H11,hH11⟩:∃H11,H11=H10++[some (e_.aA 10 [[.aA .i64 (gV n).aE,.aA .i64 (gV n).aC,.aA .i64 (gV n).aF,.aA .i64 (gV n).aA.aA,.aA .i64 (gV n).aA.aD,ki (gV n).aA.es,gG (gV n).aD.aA,gG (gV n).aD.aC,gG (gV n).aD.aD,i9 (gV n).aG]] false)]++[some (e_.aA 2 [[AV.aG H10.length 10 0 1 (some 1),AV.aD]] false)]:=⟨_,rfl⟩
  have X11:eV eY H10 H11:=by rw[hH11];exact eV.b2 _ _
  have C11:=jJ H10 (some (e_.aA 10 [[.aA .i64 (gV n).aE,.aA .i64 (gV n).aC,.aA .i64 (gV n).aF,.aA .i64 (gV n).aA.aA,.aA .i64 (gV n).aA.aD,ki (gV n).aA.es,gG (gV n).aD.aA,gG (gV n).aD.aC,gG (gV n).aD.aD,i9 (gV n).aG]] false)) (some (e_.aA 2 [[AV.aG H10.length 10 0 1 (some 1),AV.aD]] false))
  have D11:=iO H10 (some (e_.aA 10 [[.aA .i64 (gV n).aE,.aA .i64 (gV n).aC,.aA .i64 (gV n).aF,.aA .i64 (gV n).aA.aA,.aA .i64 (gV n).aA.aD,ki (gV n).aA.es,gG (gV n).aD.aA,gG (gV n).aD.aC,gG (gV n).aD.aD,i9 (gV n).aG]] false)) (some (e_.aA 2 [[AV.aG H10.length 10 0 1 (some 1),AV.aD]] false))
  rw[<-hH11]at C11 D11 ⊢
  have l11:H11.length=H10.length+2:=by rw[hH11];simp
  clear hH11
  have hy:fm (Zs Λ3 H11) H11 (iW (gV n)).c [.aG H10.length 10 0 1 (some 1),.aD]:=by
   have z:Zs Λ3 H11 H10.length:=⟨a3.aE (Uy _),by omega⟩
   have e:=rQ (Zs Λ3 H11) H11 (gV n).c
   rw[show D.aC (gV n).c=_ from fF.aL _]at e
   simp only[jo.c,iW,fm]
   refine⟨_,_,rfl,?_,_,_,rfl,rT _ _ _,rfl⟩
   simp only[rA,Rd]
   exact⟨_,.inr (.inr ⟨H10.length,0,1,some 1,_,false,rfl,z,C11,by simp,(λc hc=>by cases hc;simp),rfl⟩),by
    simp only[U5,Vl,fY]
    exact⟨_,_,rfl,e,rfl⟩⟩
  have ae2:iK H11 2 (.aG (H10.length+1) 2 0 1 (some 1))=some [[.aG H10.length 10 0 1 (some 1),.aD]]:=qc (g:=false) D11 (some 1) (len:=1) rfl
  obtain⟨y2,h4,o1,o2,o3,o4,Λ4,s4,a4⟩:=a3.bx X11 hy (by simp[n9];omega)
  rw[<-iq ae2]at o1
  have R11:=X11.aA row10
  simp only[fX.aA]at o3 s4 a4
  simp only[go_sem,jK,o1,o2,o3,o4,gC o2]
  generalize h4.set nb (some (e_.aA 9 [[y1,y2,w.av,w.pv,w.dv,w.tv,w.ev,w.qv,AV.aE false]] false))=H12 at *
  have row12:=a4.aA
  simp only[fX.aA]at row12
  have R12:∀y,(H12++[y])[nb]?=_:=λy=>(eV.b1 y).aA row12
  simp only[go_sem,m5,row12]
  try refine⟨by simp,by simp,?_⟩
  obtain⟨H13,hH13⟩:∃H13,H13=H12++[some (e_.aA 1 [[AV.aA IntKind.i64 0]] false)]:=⟨_,rfl⟩
  have X13:eV eY H12 H13:=by rw[hH13];exact eV.b1 _
  have ae3:iK H13 1 (.aG H12.length 1 0 1 (some 1))=some [[.aA .i64 0]]:=qc (g:=false) (by rw[hH13];exact gH _ _) (some 1) (len:=1) rfl
  obtain⟨y3,h5,p1,p2,p3,p4,Λ5,s5,a5⟩:=a4.a_ X13 0 (by simp[n9];omega)
  rw[<-iq ae3]at p1
  have R13:=X13.aA row12
  have ew:IntKind.i64.wrap ((i:Int)+1+1)=((i+1:Nat):Int)+1:=by rw[gi (by omega)];omega
  simp only[fX.aA]at p3 s5 a5
  rw[<-hH13]
  simp only[go_sem,p1,p2,p3,gC p2,m6,ew]
  have e3:IntKind.i64.wrap (3*((i:Int)+1))=3*(i+1):=gi (by omega)
  have en:({n9 n i with l:=(n9 n i).l++[eZ.aU ((i:Int)+1) (gV n) (IntKind.i64.wrap (3*((i:Int)+1)))],aE:=(n9 n i).aE++[gV n],aC:=(n9 n i).aC++[0]}:iZ)=n9 n (i+1):=by
   rw[e3]
   simp only[n9,jZ,List.range_succ,Ve,U5,Vl,List.replicate_succ']
  have zz:∀m,m<nb->Λ3 m=0/\H10[m]?=h[m]?:=λm hm=>by
   have h1l:m<H1.length:=by omega
   have m1:m<h'.length:=by omega
   exact⟨j1 m h1l (hz m hm),(j2 m h1l (hz m hm)).trans ((X1.2 m m1 (λy=>y)).trans (hk m hm))⟩
  have q4:=s4.aD
  have q5:=s5.aD
  exact⟨_,by omega,(hI _ _ _).2 ⟨i+1,Λ5,_,⟨by simp[fj,m3],by simp[fj,m5],by simp[fj]⟩,λm hm=>(s5.aC m (by omega)).trans ((s4.aC m (by omega)).trans (zz m hm).1),by omega,λm hm=>(s5.z m (by omega) ((s4.aC m (by omega)).trans (zz m hm).1)).trans ((s4.z m (by omega) (zz m hm).1).trans (zz m hm).2),en▸a5,by omega,rfl⟩⟩
 ·have:i=5:=by simp at ci;omega
  subst this
  simp only[go_sem]
  exact hK _ _ Λ w (by simp[fj,m5]) hz nbl' hk a
theorem JU {P:Program}{f f1 f2:FuncId}(hf:Is P f (zK f1 f2))(u1:um P f1)(u2:vR P f2):yc P f:=by
 refine⟨hf.2,λh n hn=>fU hf ?_⟩;obtain⟨H,hH⟩:∃H,H=h++[some (e_.aA 3 [[.aD,.aD,.aD]] false)]:=⟨_,rfl⟩;have X1:eV eY h H:=by rw[hH];exact eV.b1 _
 have B1:H[h.length]?=some (some (e_.aA 3 [[.aD,.aD,.aD]] false)):=by rw[hH];exact gH _ _
 have l1:H.length=h.length+1:=by rw[hH];simp
 simp only[zK,go_sem];rw[<-hH];clear hH;refine JS (n:=n) (b:=h.length) hn.2 (by simp[fj,h_]) (by simp[fj]) (by simp[fj]) B1 (λLv h' ov ks hl hk hb c=>?_);have k3:=(ks 3 (by decide) (by decide)).trans (show _=AV.aC h.length 3 0 0 by simp[fj]);clear ks;simp only[go_sem];have ro:=Rd.aD (F:=λm=>H.length<=m/\m<h'.length) (λ_ y=>y) (λm hm y hy=>(eV.b1 (some (e_.aA 9 [[.aD,.aD,.aD,.aD,.aD,.aD,.aD,.aD,.aE false]] false))).aA hy) _ _ (Rd.lt _ _ c.aG);have u:=(eV.b1 (some (e_.aA 9 [[.aD,.aD,.aD,.aD,.aD,.aD,.aD,.aD,.aE false]] false))).aA hb;refine JT u1 u2 (n:=n) (nb:=h'.length) (b3:=h.length) hn (by simp[fj,k3]) (by simp[fj]) (by simp[fj]) u (λm hm=>hm.2) (by omega) ro (gH _ _) (λLw H3 Λ w k5 hz hn3 e a=>?_);simp only[go_sem,k5];refine⟨h'.length,Λ,w,rfl,⟨by omega,λm hm _=>?_⟩,λm hm=>hz m (by omega),a⟩;rw[e m (by omega),(eV.b1 _).2 m (by omega) (λy=>y),hk m (by omega) (by omega)];exact X1.2 m hm (λy=>y)
theorem Fb:∀n,1<=n/\n<=5->(jh n).aE=true
 | 1,_=>by decide
 | 2,_=>by decide
 | 3,_=>by decide
 | 4,_=>by decide
 | 5,_=>by decide
 | 0,h=>by omega
 | n+6,h=>by omega
def tw (n:Nat):gq:=⟨jh n,λ_=>none,λ_ _=>none,λ_ _=>none,λ_ _ _=>False,[],0⟩
theorem MP {n:Nat}(hn:1<=n/\n<=5):(tw n).ok:=
 ⟨Fb n hn,nofun,nofun,nofun,nofun,nofun,nofun,nofun,nofun,nofun,nofun,λa c b e=>by simp[tw]at e,nofun⟩
theorem Ok {n i:Nat}(hn:1<=n/\n<=5)(hi:i<5):gB (tw n) [] (jZ n i):=by
 have ef:f_ [] (jZ n i)=[]:=rfl;have b0:(jZ n i).aA.aA.aA=0:=rfl;refine⟨⟨?_,UL _⟩,⟨⟨UL _,UL _⟩,rfl⟩,?_,?_,?_,rfl,⟨λz hz=>(by cases hz),UK _⟩,⟨UL _,UL _,UL _⟩,⟨rfl,UL _⟩,.inl (UL _),UL _,?_,?_,?_,?_,?_,.inl rfl,?_,?_,?_⟩;·show (1:Int)<=(i:Int)+1/\(i:Int)+1<=7;omega
 ·rw[ef];intro j hj;cases hj
 ·rw[ef];exact List.Pairwise.nil
 ·rw[ef];intro e he;cases he
 ·intro t w e;cases e
 ·intro z;exact absurd rfl z
 ·intro t L e;cases e
 ·intro t x e;cases e
 ·intro t n e;cases e
 ·intro z;cases z
 ·intro z;cases z
 ·intro f hf;cases hf
theorem Oj {n i:Nat}(hn:1<=n/\n<=5)(hi:i<5):(jZ n i).aD 0:=
 ⟨by simp[jZ,eZ.aU,gV],by simp[jZ,eZ.aU,gV],by simp[jZ,eZ.aU,gV,fu.aC],by simp[jZ,eZ.aU,gV],Fb n hn,⟨by simp[jZ,eZ.aU,gV,gI],by simp[jZ,eZ.aU,gV]⟩,by simp[jZ,eZ.aU,gV],by simp[jZ,eZ.aU,gV,hU],by simp[jZ,eZ.aU,gV,fu.aC],by simp[jZ,eZ.aU],by simp[jZ,eZ.aU],by simp[jZ,eZ.aU],by simp[jZ,eZ.aU],by simp[jZ,eZ.aU],by simp[jZ,eZ.aU];omega⟩
theorem uH {n k:Nat}(h:k<(gw.aI n).l.length):(gw.aI n).l[k]=jZ n k/\k<5:=by
 have:k<5:=by simpa [gw.aI] using h
 exact⟨by simp[gw.aI],this⟩
theorem JW {n:Nat}(hn:1<=n/\n<=5):ic (jh n) 0 0 (gw.aI n):=by
 have l5:(gw.aI n).l.length=5:=by simp[gw.aI]
 have sm:(tw n).aJ 0:=⟨λ_ _ e=>(by cases e),UL _⟩;have dn:(tw n).aL []:=⟨0,.inl (UL _)⟩;refine⟨⟨tw n,rfl,MP hn,sm,dn,?_,?_,?_,?_⟩,l5,?_,?_,rfl,rfl⟩;·intro k h;obtain⟨e,h5⟩:=uH h;rw[e];exact Ok hn h5
 ·intro m hm;cases hm
 ·intro i hi;cases hi
 ·intro i t j e;cases e
 ·intro k h;obtain⟨e,h5⟩:=uH h;rw[e];exact⟨rfl,rfl,rfl⟩
 ·intro k h;obtain⟨e,h5⟩:=uH h;rw[e];exact Oj hn h5
theorem JV (n:Nat):jL 0 (gw.aI n):=⟨Uy _,Uy _,Uy _⟩
structure nP where
 aA:Int
 a:Int
 b:Int
def nP.c (m:nP):List D:=[.aA .i64 m.aA,.aA .i64 m.a,.aA .i64 m.b]
def qt (l:List nP):D:=.sl 3 (l.map nP.c)
theorem P_ {F:Nat->Prop}{h:eW}{m:nP}{cs:List AV}(hh:fm F h m.c cs):cs=[.aA .i64 m.aA,.aA .i64 m.a,.aA .i64 m.b]:=by simp only[nP.c,fm,Rd]at hh;obtain⟨_,_,rfl,rfl,_,_,rfl,rfl,_,_,rfl,rfl,rfl⟩:=hh;rfl
def Ce:List Ty:=[.aA .i64,.aA .i64,.aA .i64]
theorem LZ {d:List D}(h:iY d Ce):∃m:nP,d=m.c/\True:=by obtain⟨_,_,rfl,g1,h⟩:=vT h;obtain⟨_,_,rfl,g2,h⟩:=vT h;obtain⟨_,_,rfl,g3,h⟩:=vT h;cases Dl h;obtain⟨a1,rfl,w1⟩:=yv g1;obtain⟨a2,rfl,w2⟩:=yv g2;obtain⟨a3,rfl,w3⟩:=yv g3;exact⟨⟨a1,a2,a3⟩,rfl,UF⟩
theorem L3 {d:List D} (h:iY d [.sl 3 Ce]):∃l:List nP,d=[qt l]:=by obtain⟨_,_,rfl,g1,h⟩:=vT h;cases Dl h;obtain⟨es,rfl,h'⟩:=IA g1;obtain⟨l,rfl,hl⟩:=Ix (f:=nP.c) (R:=λ_=>True) (λd hd=>LZ hd) h';exact⟨l,rfl⟩
end Glb
