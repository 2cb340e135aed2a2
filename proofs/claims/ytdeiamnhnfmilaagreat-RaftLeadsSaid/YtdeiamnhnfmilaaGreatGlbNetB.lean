/-
  A library of its own.
-/
import Derived.Test.YtdeiamnhnfmilaaGreatGlbNetA
set_option linter.unusedSimpArgs false
set_option linter.unusedVariables false
set_option maxRecDepth 10000
set_option maxHeartbeats 8000000
namespace Glb
open Go
variable {P:Program}{f1 f2:FuncId}
def xL (F:Nat->Prop)(h h':fu):Prop:=∀m,F m->∀x:fC,h[m]?=some (some x)->h'[m]?=some (some x)
mutual
theorem Rd.aN {F F':Nat->Prop}{h h':fu}(hF:∀m,F m->F' m)(hk:xL F h h'):∀(d:D)(av:AV),Rd F h d av->Rd F' h' d av
 | .aA _ _,_,hh=>hh
 | .aE _,_,hh=>hh
 | .aF _,_,hh=>hh
 | .sl _ ds,_,hh=>by
  simp only[Rd]at hh ⊢;obtain⟨es,h1,h2⟩:=hh;refine⟨es,?_,gB.aC hF hk ds es h2⟩;rcases h1 with h1 | h1 | ⟨n,off,len,cap,row,g,e1,e2,e3,e4⟩
  ·exact .inl h1
  ·exact .inr (.inl h1)
  ·exact .inr (.inr ⟨n,off,len,cap,row,g,e1,hF n e2,hk n e2 _ e3,e4⟩)
theorem fH.aD {F F':Nat->Prop}{h h':fu}(hF:∀m,F m->F' m)(hk:xL F h h'):∀(ds:List D)(l:List AV),fH F h ds l->fH F' h' ds l
 | [],_,hh=>hh
 | d :: ds,_,hh=>by simp only[fH]at hh ⊢;obtain⟨a,r,h1,h2,h3⟩:=hh;exact⟨a,r,h1,Rd.aN hF hk d a h2,fH.aD hF hk ds r h3⟩
theorem gB.aC {F F':Nat->Prop}{h h':fu}(hF:∀m,F m->F' m)(hk:xL F h h'):∀(ds:List (List D)) (l:List (List AV)),gB F h ds l->gB F' h' ds l
 | [],_,hh=>hh
 | d :: ds,_,hh=>by simp only[gB]at hh ⊢;obtain⟨a,r,h1,h2,h3⟩:=hh;exact⟨a,r,h1,fH.aD hF hk d a h2,gB.aC hF hk ds r h3⟩
end
section
variable {Λ:Nat->Nat} {h:fu} {nb n:Nat} {w:gz} {v:jC}
theorem HF (hn:h[n]?=some none) (y:fC):xL (Zs Λ h) h (h.set n (some y)):=λm hm z hz=>by
 have:m≠n:=λe=>by rw[e,hn]at hz;cases hz
 rw[WS (λe=>this e.symm)];exact hz
theorem HG (y:Option fC):∀m,Zs Λ h m->Zs Λ (h.set n y) m:=λm hm=>⟨hm.1,by rw[W4];exact hm.2⟩
theorem DA (hn:h[n]?=some none) (y:fC) {d:D} {a:AV} (hr:Rd (Zs Λ h) h d a):Rd (Zs Λ (h.set n (some y))) (h.set n (some y)) d a:=Rd.aN (HG _) (HF hn y) _ _ hr
theorem gA.bF (a:gA Λ h nb w v) (hn:h[n]?=some none) (hz:Λ n=0) (y:fC):gA Λ (h.set n (some y)) nb w v:=by have hs:∀m,Λ m≠0->(h.set n (some y))[m]?=h[m]?:=λm hm=>WS (λe=>hm (by rw[<-e];exact hz));have cc:∀{j sz:Nat}{b:AV} {es:List (List AV)},j≠0->gR (λm=>Λ m=j) h sz b es->gR (λm=>Λ m=j) (h.set n (some y)) sz b es:=λhj c=>c.aA (λ_ hm _=>hm) (λm hm _=>hs m (by have u:Λ m=_:=hm;rw[u];exact hj));have kz:=HF (Λ:=Λ) hn y;have zz:=HG (Λ:=Λ) (h:=h) (n:=n) (some y);obtain⟨hr,h1,h2⟩:=a.aJ;obtain⟨pr,p1,p2⟩:=a.aH;obtain⟨dr,d1,d2⟩:=a.aI;refine⟨λm hm=>by rw[W4];exact a.lt m hm,a.aC,(hs nb (by rw[a.aC];decide)).trans a.aA,a.aD,cc δ a.l,λk k1 k2=>?_,⟨hr,cc δ h1,gB.aC zz kz _ _ h2⟩,cc δ a.aL,⟨pr,cc δ p1,gB.aC zz kz _ _ p2⟩,⟨dr,cc δ d1,gB.aC zz kz _ _ d2⟩,cc δ a.aN,cc δ a.aK,cc δ a.aM⟩;exact (a.aG k k1 k2).aC (by rw[W4];exact WX _) (λm hm=>hs m (λe=>hm (by unfold gQ;rw[e];split<;>omega)))
theorem gA.bK {H H0 h':fu}{k:Nat}{y:RX}{res:AV}(a:gA Λ H0 nb w v)(X:fq fB H H0)(hn:H.length<=n) (hb:H0[n]?=some none) (hz:Λ n=0) (hk:k<w.rs.length) (I:k<v.l.length) (b:lA (gQ k Λ) H0 w.rs[k] y res h'):
  ∃Λ' ma ca aa,res=.aF [ma,ca,aa,ι y.o.aE,.aE y.o.aD]/\(ma.aH=true/\ca.aH=true/\aa.aH=true)/\h'[n]?=some none/\(∀m,m<H0.length->Λ m=0->h'[m]?=H0[m]?) /\
   ∀z:fC,gK Λ H Λ' (h'.set n (some z))/\gA Λ' (h'.set n (some z)) nb w {v with l:=v.l.set k y.r}/\Rd (Zs Λ' (h'.set n (some z))) (h'.set n (some z)) (uJ y.o.aA) ma/\Rd (Zs Λ' (h'.set n (some z))) (h'.set n (some z)) (oX y.o.aC) ca/\Rd (Zs Λ' (h'.set n (some z))) (h'.set n (some z)) (gZ y.o.aF) aa:=by
 obtain⟨Λ',ma,ca,aa,e,s1,a1,r1,r2,r3⟩:=a.aU hk I b;have nl:=(WR.1 hb).1;have u:h'[n]?=some none:=(s1.z n nl hz).trans hb;have E:Λ' n=0:=(s1.aC n nl).trans hz;refine⟨Λ',ma,ca,aa,e,⟨r1.aA,r2.aA,r3.aA⟩,u,s1.z,λz=>⟨⟨?_,λm hm=>s1.aC m (Xj hm X.1),λm hm h0=>?_,λm hm h0=>?_⟩,a1.bF u E z,DA u z r1,DA u z r2,DA u z r3⟩⟩;·rw[W4];exact Xg X.1 s1.aD
 ·rw[WS ω];exact (s1.z m (Xj hm X.1) h0).trans (X.2 m hm (λy=>y))
 ·rw[WS ω];exact (s1.aG m (Xj hm X.1) h0).trans (X.2 m hm (λy=>y))
end
variable {P:Program}{f1 f2:FuncId}
def fM.aP (x:fM)(k:Nat):fy:=(x.l[k]?).getD ⟨0,⟨0,0,0,⟨0,0,[]⟩,⟨[],[],[]⟩,[]⟩,0,0,0,0,0,0,[],[],0,0⟩
theorem fM.aR {x:fM}{k:Nat}(h:k<x.l.length):x.aP k=x.l[k]:=by unfold fM.aP;rw[WU h];rfl
theorem JX {ft fn:FuncId}(ut:sH P ft)(un:lW P fn){Λ:Nat->Nat}{h:fu}{nb N k r:Nat}{w:gz}{x:fM}{c0:fI}{B K:Nat}{d:Int}{KK:AV->fu->Prop}(a:gA Λ h nb w (iM x))(ok:iC c0 B K x)(bb:kq N x)(hK:K+200<130000)(hN:N<4000\/(N<2^28/\x.aC.length<=130000))(hk:k<x.l.length) (hr:w.rs[k]?=some r) (hm:jn (gQ k Λ) h r x.l[k])
  (O:∀v h',lA (gQ k Λ) h r (x.l[k].aV d) v h'->(∀m,m<h.length->Λ m=0->h'[m]?=h[m]?)->
   (∀{K2:AV->fu->Prop},(∀v2 Λ2 h2 w2,gK Λ h Λ2 h2->w2.rs=w.rs->gA Λ2 h2 nb w2 (iM (x.aD k (x.l[k].aV d)))->iC c0 (B+2) (K+200) (x.aD k (x.l[k].aV d))->kq (N+1) (x.aD k (x.l[k].aV d))->K2 v2 h2)->m9 P fn [.aA nb 9 0 0,ι k,v] h' K2)->KK v h'):m9 P ft [.aA r 21 0 0,ι d] h KK:=by
 have f:=ok.aC k hk;refine fK ⟨ut.1,ut.2 (gQ k Λ) h r x.l[k] K d hm f ω⟩ ?_;intro v h' ro;obtain⟨o1,o2⟩:=ok.aN ω hk d;obtain⟨E,er⟩:=WR.1 hr;refine O v h' ro (λm hm hz=>?_) (fun {K2} I=>?_);·obtain⟨_,_,_,_,_,_,_,_,_,_,_,hx⟩:=id ro;refine hx.2 m hm (λy=>y ?_);unfold gQ;rw[hz];split<;>omega
 ·have u:lA (gQ k Λ) h w.rs[k] (x.l[k].aV d) v h':=by rw[er];exact ro
  exact un.aC a ok o1 hk o2 ω bb hN (RX.aE.aP _ _) (RX.aD.aP _ f.aH f.aE.1 _) E u (λv7 Λ7 h7 w7 s7 e a7 b7=>I v7 Λ7 h7 w7 s7 e a7 (o1.aA ω ω) b7)
theorem gA.bI {Λ:Nat->Nat}{H:fu}{nb i:Nat}{w:gz}{x:fM}(a1:gA Λ H nb w (iM x))(hi:i<x.aA.length)(bp:x.aA.length<=2^30):∃v1 v2 v3 h3 v4 h4 Λ5,
  (iX 17 w.pv none (some (i:Int)) none=some v1/\v1.aH=true/\iX 17 w.pv (some ((i+1:Nat):Int)) none none=some v2/\v2.aH=true) /\
  (pP (H++[some (fC.aA 17 [] false)]) 17 168 (.aG H.length 17 0 0 (some 0)) v1=some (v3,h3)/\v3.aH=true/\pP h3 17 168 v3 v2=some (v4,h4)/\v4.aH=true)/\h3[nb]?=ar 9 [w.aA]/\h4[nb]?=ar 9 [w.aA]/\nb<h4.length /\
  gK Λ H Λ5 (h4.set nb (some (.aA 9 [({w with pv:=v4}:gz).aA] false)))/\gA Λ5 (h4.set nb (some (.aA 9 [({w with pv:=v4}:gz).aA] false))) nb {w with pv:=v4} (iM (x.aO i)):=by
 have u:=a1.aA;obtain⟨rows,p1,p2⟩:=a1.aH;have lrows:rows.length=x.aA.length:=by have:=mz p2;simpa [iM] using this
 obtain⟨H1,I⟩:∃H1,H1=H++[some (fC.aA 17 [] false)]:=⟨_,rfl⟩;have X2:fq fB H H1:=by rw[I];exact fq.b1 _
 have hl2:H1.length=H.length+1:=by rw[I];simp
 have cz:gR (λm=>H.length<=m) H1 17 (.aG H.length 17 0 0 (some 0)) []:=.inr ⟨H.length,0,some 0,[],false,rfl,WX _,by rw[I];exact h_ _ _,ς,(λc hc=>by simp),(λhc=>by cases hc),(λc hc=>by cases hc;simp),rfl⟩;have U:gR (λm=>Λ m=105) H1 17 w.pv rows:=p1.aA (λ_ y _=>y) (λm _ hlt=>X2.2 m hlt (λy=>y));obtain⟨v1,q1,q2,q3⟩:=U.aG (i:=i) ω;obtain⟨v3,h3,g1,c3,x3⟩:=cz.aD (bytes:=168) (ys:=rows.take i) (fq.aC _ H1) (by simp only[Xi,W7];omega);rw[<-iR q2,I]at g1;have X3:fq fB H h3:=X2.aJ x3 (λm hm E=>by have:H.length<=m:=E;omega);have p3:gR (λm=>Λ m=105) h3 17 w.pv rows:=p1.aA (λ_ y _=>y) (λm _ hlt=>X3.2 m hlt (λy=>y));obtain⟨v2,r1,r2,r3⟩:=p3.aH (i:=i+1) ω;obtain⟨v4,h4,g2,c4,x4⟩:=c3.aD (bytes:=168) (ys:=rows.drop (i+1)) (fq.aC _ h3) (by simp only[Yg,W7,Xk];omega);rw[<-iR r2]at g2;have X4:fq fB H h4:=X3.aJ x4 (λm hm E=>by have hm'':(H.length<=m/\m<H1.length)\/H1.length<=m:=E;omega);have e:=X4.aA u;obtain⟨Λ5,t1,t2⟩:=a1.aY (ms:=x.aA.take i++x.aA.drop (i+1)) (rows:=[]++rows.take i++rows.drop (i+1)) X4 (c4.aA (λm hm _=>by have E:((H.length<=m/\m<H1.length)\/H1.length<=m)/\m<h3.length\/h3.length<=m:=hm;show H.length<=m;have:=X3.1;omega) (λ_ _ _=>rfl)) (by rw[Yg,XU,YX,Zq];have O:gB (Zs Λ H) h4 (x.aA.map fF.c) rows:=gB.aA (λ_ y=>y) (X4.aE _) _ _ p2;exact vR (AL O i) (AK O (i+1)));exact⟨v1,v2,v3,h3,v4,h4,Λ5,⟨q1,q3,r1,r3⟩,⟨g1,c3.aE,g2,c4.aE⟩,X3.aA u,e,(WR.1 e).1,t1,t2⟩
theorem kq.aG {N i:Nat}{x:fM}(bb:kq N x):kq N (x.aO i):=⟨by have:=bb.aA;show (x.aA.take i++x.aA.drop (i+1)).length<=_;simp only[WT,W7,Xk];omega,bb.aD,bb.aC⟩
theorem iC.aQ {c0:fI}{B K i:Nat}{x:fM}(ok:iC c0 B K x):iC c0 B K (x.aO i):=ok.aF λy hy=>by
 rcases Xe.1 hy with hy | hy;·exact XQ hy
 ·exact Xw hy
structure fM.aW (x:fM)(q:Int)(k i:Nat)(d:Int)(x':fM):Prop where
 aF:q<=1->x'=x.aD k ((x.aP k).aV d)
 aC:2<=q/\q<=4->x'=if h:i<x.aA.length then x.aL i x.aA[i] else x
 aD:q=5->x'=x.aO i
 aG:q=6->x'=if h:i<x.aA.length/\x.aA.length<300 then {x with aA:=x.aA++[x.aA[i]'h.1]} else x
 aE:q=7->x'=if ((x.aP k).aP 1 [d % 256]).2.2=0 then x.aD k ((x.aP k).aP 1 [d % 256]).2.1 else x
 aA:q=8->x'={x with l:=x.l.set k (fy.aU (k+1) (x.aP k).aA d)}
 aH:q=9->x'=if ((x.aP k).bM ((x.aP k).aI-j9 d 5) [d % 256]).2=0 then x.aD k ((x.aP k).bM ((x.aP k).aI-j9 d 5) [d % 256]).1 else x
def lV (Λ:Nat->Nat)(h:fu)(nb N:Nat)(w:gz)(x:fM)(c0:fI)(B K:Nat)(kd:Int)(k i:Nat)(d:Int)(h':fu):Prop:=∃Λ' w' x',gK Λ h Λ' h'/\w'.rs.length=w.rs.length/\gA Λ' h' nb w' (iM x')/\iC c0 (B+2) (K+200) x'/\kq (N+1) x'/\x.aW kd k i d x'
def xN (C:Int->Prop)(P:Program)(f:FuncId):Prop:=fZ P f=true/\∀(Λ:Nat->Nat)(h:fu)(nb N:Nat)(w:gz)(x:fM)(c0:fI)(B K:Nat)(q a d:Int),C (j9 q 12)->gA Λ h nb w (iM x)->iC c0 B K x->kq N x->B<=2^29->K+200<130000->N<4000->
 fO P f [.aA nb 9 0 0,.aF [.aD .i64 q,.aD .i64 a,.aD .i64 d]] h λ_ h'=>lV Λ h nb N w x c0 B K (j9 q 12) (j9 a 5).toNat (j9 a x.aA.length).toNat d h'
structure qV (Λ:Nat->Nat)(h H:fu)(nb N:Nat)(w:gz)(x:fM)(c0:fI)(B K:Nat)(q a d:Int)(kd:Int)(k i nq:Nat)(Le:gx):Prop where
 a1:gA Λ H nb w (iM x)
 ok:iC c0 B K x
 bb:kq N x
 hB:B<=2^29
 hK:K+200<130000
 hN:N<4000
 s1:gK Λ h Λ H
 B1:H[nq]?=some (some (fC.aA 3 [[.aD .i64 q,.aD .i64 a,.aD .i64 d]] false))
 z0:Λ nq=0
 k5:k<x.l.length
 aA:0<x.aA.length->i<x.aA.length
 l0:lk 0 Le=.aA nb 9 0 0
 l3:lk 3 Le=.aA nq 3 0 0
 l4:lk 4 Le=.aD .i64 k
 l5:lk 5 Le=.aD .i64 i
 l6:lk 6 Le=.aE (decide ((0:Int)<x.aA.length))
 aC:lk 31 Le=.aD .i64 kd
section
variable {P:Program} {f1 f2 f3 f4 f5 f6 f7 f8 f9:FuncId} {Λ:Nat->Nat} {h H:fu} {nb N:Nat} {w:gz} {x:fM} {c0:fI} {B K:Nat} {q a d:Int} {kd:Int} {k i nq:Nat} {Le:gx}
theorem QZ (u2:sH P f2)(u3:lW P f3)(s:qV Λ h H nb N w x c0 B K q a d kd k i nq Le)(c1:kd<=1)(c0':0<=kd):vc P (jS f1 f2 f3 f4 f5 f6 f7 f8 f9).aA.tl.tl.tl.tl.tl ⟨Le,[],H⟩ (iS (jS f1 f2 f3 f4 f5 f6 f7 f8 f9).aC λ_ h'=>lV Λ h nb N w x c0 B K kd k i d h'):=by
 obtain⟨a1,ok,bb,hB,hK,hN,s1,B1,z0,k5,hi2,l0,l3,l4,l5,l6,l31⟩:=s;have e:=a1.aA;simp only[gz.aA]at e;have pl:=a1.aO;have pl:iJ w.pv=some (ι x.aA.length):=pl;have bp:=bb.aA;have I:=fM.aR k5;obtain⟨n1,j1,lrow,lg,r,v1,v2,v3,v4,v5,v6,v7,-,-⟩:=a1.aF (k:=k) k5;have vl:=(WR.1 v3).1;have:kd=0\/kd=1:=ω;rcases this with rfl | rfl <;>
 ·simp only[jS,AC.aC,lV,l0,l3,l4,l31,go_sem,B1,e,v1,v2,v3,Int.reduceEq,YY];refine JX u2 u3 a1 ok bb hK (.inl hN) k5 v4 v5 (λv h' ro hz go=>?_);simp only[go_sem];refine go (λv8 Λ8 h8 w8 s8 u a8 E b8=>?_);simp only[go_sem];exact⟨Λ8,w8,_,s1.aA s8,by rw[u],a8,E,b8,⟨λ_=>by rw[I],λz=>ω,λz=>ω,λz=>ω,λz=>ω,λz=>ω,λz=>ω⟩⟩
theorem Q0 (u4:vH P f4)(s:qV Λ h H nb N w x c0 B K q a d kd k i nq Le)(c2:kd<=4)(c1:¬kd<=1):vc P (jS f1 f2 f3 f4 f5 f6 f7 f8 f9).aA.tl.tl.tl.tl.tl ⟨Le,[],H⟩ (iS (jS f1 f2 f3 f4 f5 f6 f7 f8 f9).aC λ_ h'=>lV Λ h nb N w x c0 B K kd k i d h'):=by
 obtain⟨a1,ok,bb,hB,hK,hN,s1,B1,z0,k5,hi2,l0,l3,l4,l5,l6,l31⟩:=s;have e:=a1.aA;simp only[gz.aA]at e;have pl:=a1.aO;have pl:iJ w.pv=some (ι x.aA.length):=pl;have bp:=bb.aA;have ate:=fM.aR k5;obtain⟨n1,j1,lrow,lg,r,v1,v2,v3,v4,v5,v6,v7,-,-⟩:=a1.aF (k:=k) k5;have vl:=(WR.1 v3).1;have:kd=2\/kd=3\/kd=4:=ω;rcases this with rfl | rfl | rfl <;>
 ·by_cases cp:0<x.aA.length
  ·have ip:=hi2 cp;have u:(0:Int)<x.aA.length:=ω;simp only[jS,AC.aC,lV,l0,l5,l6,l31,go_sem,Int.reduceEq,YY,WZ u];refine fK ⟨u4.1,u4.2 Λ H nb N w x c0 B K i ip a1 ok bb ω hK (.inl hN)⟩ ?_;rintro v8 h8 ⟨Λ8,w8,s8,E,a8,I,b8⟩;simp only[go_sem];exact⟨Λ8,w8,_,s1.aA s8,by rw[E],a8,I.aA ω ω,b8,⟨λz=>ω,λ_=>by rw[dif_pos ip],λz=>ω,λz=>ω,λz=>ω,λz=>ω,λz=>ω⟩⟩
  ·have u:¬(0:Int)<x.aA.length:=ω;simp only[jS,AC.aC,lV,l6,l31,go_sem,Int.reduceEq,YY,WV u];exact⟨Λ,w,_,s1,rfl,a1,ok.aA ω ω,bb.aE ω,⟨λz=>ω,λ_=>by rw[dif_neg ω],λz=>ω,λz=>ω,λz=>ω,λz=>ω,λz=>ω⟩⟩
theorem Q1 (s:qV Λ h H nb N w x c0 B K q a d kd k i nq Le)(c3:kd=5):vc P (jS f1 f2 f3 f4 f5 f6 f7 f8 f9).aA.tl.tl.tl.tl.tl ⟨Le,[],H⟩ (iS (jS f1 f2 f3 f4 f5 f6 f7 f8 f9).aC λ_ h'=>lV Λ h nb N w x c0 B K kd k i d h'):=by
 obtain⟨a1,ok,bb,hB,hK,hN,s1,B1,z0,k5,hi2,l0,l3,l4,l5,l6,l31⟩:=s;have e:=a1.aA;simp only[gz.aA]at e;have pl:=a1.aO;have pl:iJ w.pv=some (ι x.aA.length):=pl;have bp:=bb.aA;have ate:=fM.aR k5;obtain⟨n1,j1,lrow,lg,r,v1,v2,v3,v4,v5,v6,v7,-,-⟩:=a1.aF (k:=k) k5;have vl:=(WR.1 v3).1;subst c3;by_cases cp:0<x.aA.length
 ·have ip:=hi2 cp;have u:(0:Int)<x.aA.length:=ω;obtain⟨y1,y2,y3,h3,y4,h4,Λ5,⟨q1,q2,q3,q4⟩,⟨g1,g2,g3,g4⟩,n3,n4,E,t1,t2⟩:=a1.bI ip ω;have nbl:=(WR.1 a1.aA).1;have R1:∀y,(H++[y])[nb]?=_:=λy=>(fq.b1 y).aA e;have N1:∀sz i o,ij H.length 1 (.aA nb sz i o)=true:=λsz i o=>iN nbl;have ew:IntKind.i64.wrap ((i:Int)+1)=((i+1:Nat):Int):=by rw[gF ω];omega
  simp only[gz.aA]at n3 n4 t1 t2;simp only[jS,AC.aC,lV,l0,l5,l6,l31,go_sem,kj,Int.reduceEq,YY,WZ u,R1,N1,q1,q3,g1,g3,g4,gV g4,n3,n4,E,ew];exact⟨Λ5,{w with pv:=y4},_,s1.aA t1,rfl,t2,ok.aQ.aA ω ω,bb.aG.aE ω,⟨λz=>ω,λz=>ω,λz=>rfl,λz=>ω,λz=>ω,λz=>ω,λz=>ω⟩⟩
 ·have u:¬(0:Int)<x.aA.length:=ω;simp only[jS,AC.aC,lV,l6,l31,go_sem,Int.reduceEq,YY,WV u];have e0:x.aA=[]:=W5 ω;exact⟨Λ,w,_,s1,rfl,a1,ok.aA ω ω,bb.aE ω,⟨λz=>ω,λz=>ω,λ_=>by unfold fM.aO;rw[e0];cases x;simp_all,λz=>ω,λz=>ω,λz=>ω,λz=>ω⟩⟩
theorem Q2 (u5:Af P f5)(s:qV Λ h H nb N w x c0 B K q a d kd k i nq Le)(c4:kd=6):vc P (jS f1 f2 f3 f4 f5 f6 f7 f8 f9).aA.tl.tl.tl.tl.tl ⟨Le,[],H⟩ (iS (jS f1 f2 f3 f4 f5 f6 f7 f8 f9).aC λ_ h'=>lV Λ h nb N w x c0 B K kd k i d h'):=by
 obtain⟨a1,ok,bb,hB,hK,hN,s1,B1,z0,k5,hi2,l0,l3,l4,l5,l6,l31⟩:=s;have u:=a1.aA;simp only[gz.aA]at u;have pl:=a1.aO;have pl:iJ w.pv=some (ι x.aA.length):=pl;have bp:=bb.aA;have ate:=fM.aR k5;obtain⟨n1,j1,lrow,lg,r,v1,v2,v3,v4,v5,v6,v7,-,-⟩:=a1.aF (k:=k) k5;have vl:=(WR.1 v3).1;subst c4;by_cases cp:0<x.aA.length
 ·have ip:=hi2 cp;have U:(0:Int)<x.aA.length:=ω;by_cases c300:x.aA.length<300
  ·have E:(x.aA.length:Int)<300:=ω;obtain⟨n2,j2,prow,pg,e,dd,e1,e2,e3,he,hd,e6⟩:=a1.aX (i:=i) ip;have jl:=(WR.1 e3).1;have nbl:=(WR.1 a1.aA).1;have N1:∀sz i o,ij H.length 1 (.aA nb sz i o)=true:=λsz i o=>iN nbl;have a4:=(WR.1 e2).1;have N2:∀sz i o,ij H.length 1 (.aA n2 sz i o)=true:=λsz i o=>iN a4;have R1:∀y,(H++[y])[nb]?=_:=λy=>(fq.b1 y).aA u;have R2:∀y,(H++[y])[n2]?=_:=λy=>(fq.b1 y).aA e2;simp only[fF.aF]at e3;simp only[jS,AC.aC,lV,l0,l5,l6,l31,go_sem,u,pl,Int.reduceEq,YY,WZ U,WZ E,R1,R2,N1,N2,e1,e3];have mf:=ok.aG ω (Xq ip);refine fK ⟨u5.1,u5.2 (Zs Λ H) (H++[none]) x.aA[i] _ (D_ (he.up (fq.b1 none)) (hd.up (fq.b1 none))) mf.aE (by have:=mf.aA.2;omega)⟩ ?_;rintro _ H6 ⟨e',d',rfl,oe,od,X6⟩;have I:H6[H.length]?=some none:=X6.aA ς;have hlt:=(WR.1 I).1;have Z:fq fB H H6:=(fq.b1 none).tr X6;have R6:=Z.aA u;have a6:=Z.aA e2;have se:=oe.aA;have sd:=od.aA;have rr:∀{ds:D}{av:AV},fA ds (λk=>(H++[none]).length<=k) H6 av->∀y,Rd (Zs Λ (H6.set H.length y)) (H6.set H.length y) ds av:=fun {ds av} ow y=>by
    refine Rd.aE (λm hm=>?_) (λm hm z hz=>?_) _ _ (fA.rd _ (λ_ y=>y) _ (fA.lt _ _ ow));·have W:(H++[none]).length<=m:=hm.1;have a5:m<H6.length:=hm.2;exact⟨a1.aE (by simp at W;omega),by rw[W4];exact a5⟩
    ·have W:(H++[none]).length<=m:=hm.1;rw[WS (by simp at W;omega)];exact hz
   obtain⟨H7,O⟩:∃H7,H7=H6.set H.length (some (fC.aA 17 [x.aA[i].aF e' d'] false)):=⟨_,rfl⟩;have X7:fq fB H H7:=by rw[O];exact Z.aI (WX _) _
   have ae:jD H7 17 (.aG H.length 17 0 1 (some 1))=some [x.aA[i].aF e' d']:=uw (g:=false) (by rw[O];exact W0 hlt) (some 1) (len:=1) rfl;have hy:gB (Zs Λ H7) H7 ([x.aA[i]].map fF.c) [x.aA[i].aF e' d']:=by simp only[XD,Yb,gB];exact⟨_,_,rfl,by rw[O];exact D_ (rr oe _) (rr od _),rfl⟩
   obtain⟨y4,h4,g1,g4,n4,a3,Λ5,t1,t2⟩:=a1.aV X7 hy (by show (x.aA.length+1)*200<=_;omega) (bytes:=168) δ;rw[<-iR ae]at g1;simp only[gz.aA]at n4 t1 t2;simp only[fF.aF]at O;have R7:=X7.aA u;simp only[fF.aF,go_sem,kj,I,R6,a6,se,sd,<-O,g1,g4,gV g4,n4,a3];have a2:iC c0 B K {x with aA:=x.aA++[x.aA[i]]}:=ok.aF λy hy=>by
    rcases Xe.1 hy with hy | hy;·exact hy
    ·rw[XN.1 hy];exact Xq ip
   refine⟨Λ5,{w with pv:=y4},{x with aA:=x.aA++[x.aA[i]]},s1.aA t1,rfl,t2,a2.aA ω ω,⟨?_,by have:=bb.aD;show x.aJ.length<=_;omega,by have:=bb.aC;show x.aC.length<=_;omega⟩,⟨λz=>ω,λz=>ω,λz=>ω,λ_=>by rw[dif_pos ⟨ip,c300⟩],λz=>ω,λz=>ω,λz=>ω⟩⟩;show (x.aA++[x.aA[i]]).length<=_;simp only[WT,XI];omega
  ·have E:¬(x.aA.length:Int)<300:=ω;simp only[jS,AC.aC,lV,l0,l6,l31,go_sem,u,pl,Int.reduceEq,YY,WZ U,WV E];exact⟨Λ,w,_,s1,rfl,a1,ok.aA ω ω,bb.aE ω,⟨λz=>ω,λz=>ω,λz=>ω,λ_=>by rw[dif_neg (λz=>c300 z.2)],λz=>ω,λz=>ω,λz=>ω⟩⟩
 ·have U:¬(0:Int)<x.aA.length:=ω;simp only[jS,AC.aC,lV,l6,l31,go_sem,Int.reduceEq,YY,WV U];exact⟨Λ,w,_,s1,rfl,a1,ok.aA ω ω,bb.aE ω,⟨λz=>ω,λz=>ω,λz=>ω,λ_=>by rw[dif_neg (λz=>ω)],λz=>ω,λz=>ω,λz=>ω⟩⟩
end
variable {P:Program}{f1 f2:FuncId}
section
variable {c0:fI} {B K B' K' N k:Nat} {x:fM} {y:RX}
theorem lW.aA {ft:FuncId}(ut:lW P ft){Λ:Nat->Nat}{h:fu}{nb:Nat}{w:gz}{ma ca aa:AV}{KK:AV->fu->Prop} (a:gA Λ h nb w {iM x with l:=x.l.set k y.r}) (r1:Rd (Zs Λ h) h (uJ y.o.aA) ma) (r2:Rd (Zs Λ h) h (oX y.o.aC) ca) (r3:Rd (Zs Λ h) h (gZ y.o.aF) aa) (ok:iC c0 B K x) (e:iC c0 B' K' (x.aD k y)) (hk:k<x.l.length) (ti:mT x x.l[k].aA x.l[k].aI y) (hK:K'<=130000) (bb:kq N x) (hN:N<4000\/(N<2^28/\x.aC.length<=130000)) (te:y.aE 2) (sa:y.aD 21)
  (hK':∀v Λ2 h2 w2,gK Λ h Λ2 h2->w2.rs=w.rs->gA Λ2 h2 nb w2 (iM (x.aD k y))->kq (N+1) (x.aD k y)->KK v h2):m9 P ft [.aA nb 9 0 0,ι k,.aF [ma,ca,aa,ι y.o.aE,.aE y.o.aD]] h KK:=by
 have f:=e.aJ hk;have b1:=bb.aA;have b2:=bb.aD;have b3:=bb.aC;have te':y.o.aC.length<=2:=te;have sa':y.o.aA.length<=21:=sa;have dl:=Dy (D:=x.aC) f.aF;obtain⟨n,t1,t2⟩:=vU.of ok e hk ti hK ω ω ω ω;refine fK ⟨ut.1,ut.2 Λ h nb w _ k y.o y.r _ n ma ca aa a t1 r1 r2 r3⟩ ?_;rintro v h2 ⟨Λ2,w2,s2,e2,a2⟩;exact hK' v Λ2 h2 w2 s2 e2 (by rw[<-t2];exact a2) (bb.aF f hK sa)
theorem Rl (hk:k<x.l.length){r:fy} (e:r=x.l[k]):({iM x with l:=x.l.set k r}:jC)=iM x:=by subst e;rw[YP];rfl
end
theorem RY {r:fy}{k:Int}{d:List Int}(h:¬(r.aP k d).2.2=0):(r.aP k d).2.1.r=r:=by
 unfold fy.aP at h ⊢;split;·rfl
 ·split;·rfl
  ·split;·rfl
   ·split;·rfl
    ·rename_i c1 c2 c3 c4;rw[WY c1,WY c2,WY c3,WY c4]at h;exact absurd rfl h
section
variable {P:Program} {f1 f2 f3 f4 f5 f6 f7 f8 f9:FuncId} {Λ:Nat->Nat} {h H:fu} {nb N:Nat} {w:gz} {x:fM} {c0:fI} {B K:Nat} {q a d:Int} {kd:Int} {k i nq:Nat} {Le:gx}
theorem Q3 (u3:lW P f3)(u6:qp P f6)(s:qV Λ h H nb N w x c0 B K q a d kd k i nq Le)(c5:kd=7):vc P (jS f1 f2 f3 f4 f5 f6 f7 f8 f9).aA.tl.tl.tl.tl.tl ⟨Le,[],H⟩ (iS (jS f1 f2 f3 f4 f5 f6 f7 f8 f9).aC λ_ h'=>lV Λ h nb N w x c0 B K kd k i d h'):=by
 obtain⟨a1,ok,bb,hB,hK,hN,s1,B1,z0,k5,hi2,l0,l3,l4,l5,l6,l31⟩:=s;have row1:=a1.aA;simp only[gz.aA]at row1;have pl:=a1.aO;have pl:iJ w.pv=some (ι x.aA.length):=pl;have bp:=bb.aA;have ate:=fM.aR k5;obtain⟨n1,j1,lrow,lg,r,v1,v2,v3,v4,v5,v6,v7,-,-⟩:=a1.aF (k:=k) k5;have vl:=(WR.1 v3).1;subst c5;have nbl:=(WR.1 a1.aA).1;have N1:∀sz i o,ij H.length 2 (.aA nb sz i o)=true:=λsz i o=>iN nbl;have hl1:=(WR.1 B1).1;have N3:∀sz i o,ij H.length 2 (.aA nq sz i o)=true:=λsz i o=>iN hl1;have N2:∀sz i o,ij H.length 2 (.aA n1 sz i o)=true:=λsz i o=>iN v7;have R1:∀y z,(H++[y]++[z])[nb]?=_:=λy z=>(fq.b2 y z).aA row1;have R2:∀y z,(H++[y]++[z])[n1]?=_:=λy z=>(fq.b2 y z).aA v2;have R3:∀y z,(H++[y]++[z])[nq]?=_:=λy z=>(fq.b2 y z).aA B1;simp only[jS,AC.aC,lV,l0,l3,l4,l31,go_sem,kj,Int.reduceEq,YY,R1,R2,R3,N1,N2,N3,v1,v3];obtain⟨H0,hH0⟩:∃H0,H0=H++[some (fC.aA 1 [[AV.aD IntKind.u8 (IntKind.u8.wrap d)]] false)]++[none]:=⟨_,rfl⟩;have X0:fq fB H H0:=by rw[hH0];exact fq.b2 _ _
 have hb0:H0[H.length+1]?=some none:=by rw[hH0];simp
 have hd0:H0[H.length]?=ar 1 [[AV.aD IntKind.u8 (IntKind.u8.wrap d)]]:=by rw[hH0];simp
 have hl0:H0.length=H.length+2:=by rw[hH0];simp
 have a0:=a1.up X0;obtain⟨hr1,er⟩:=WR.1 v4;have f:=ok.aC k k5;have m0:jn (gQ k Λ) H0 r x.l[k]:=by rw[<-er];exact a0.aG k hr1 k5
 have ewd:IntKind.u8.wrap d=d % 256:=Ki d;have pz:∀m,Λ m=0->gQ k Λ m=0:=λm e=>by unfold gQ;rw[e];split<;>omega
 have dat:xD (gQ k Λ) H0 (gG [d % 256]) (.aG H.length 1 0 1 (some 1)):=by refine⟨λm=>m=H.length,?_,λm hm=>⟨pz m (a1.aE ω),ω⟩⟩;simp only[gG,XD,Yb,Rd];exact⟨_,.inr (.inr ⟨H.length,0,1,some 1,_,false,rfl,rfl,hd0,ς,(λc hc=>by cases hc;simp),rfl⟩),by simp[gB,fH,Rd,ewd]⟩
 rw[<-hH0];clear hH0;refine fK ⟨u6.1,u6.2 (gQ k Λ) H0 r x.l[k] K 1 [d % 256] _ m0 f ω dat ⟨by intro z hz;simp at hz;omega,ς⟩ ⟨δ,δ⟩⟩ ?_;rintro _ h6 ⟨res,rfl,ro⟩;rw[<-er]at ro;obtain⟨Λ6,ma,ca,aa,rfl,⟨sm,sc,sa⟩,hn6,z6,go⟩:=a0.bK X0 (n:=H.length+1) ω hb0 (a1.aE ω) hr1 k5 ro;have R6:=(z6 nq ω z0).trans (X0.aA B1);have nl6:=(WR.1 hn6).1;simp only[go_sem,kj,hn6,nl6,R6,sm,sc,sa];refine iQ (λc=>?_) (λc=>?_);·simp at c;have bd:gT [d % 256]/\[d % 256].length<=256:=⟨by intro z hz;simp at hz;omega,ς⟩;obtain⟨o1,o2⟩:=ok.aK ω k5 (kind:=1) bd ⟨δ,δ⟩ (λz=>ω) c;have te:(x.l[k].aP 1 [d % 256]).2.1.aE 2:=(RX.aE.aH _ _ _).aA ω;have sa':(x.l[k].aP 1 [d % 256]).2.1.aD 21:=RX.aD.aH _ f.aH f.aE.1 _ _;obtain⟨t1,t2,q1,q2,q3⟩:=go (.aA 5 [[ma,ca,aa,ι (x.l[k].aP 1 [d % 256]).2.1.o.aE,.aE (x.l[k].aP 1 [d % 256]).2.1.o.aD]] false);rw[Yi];simp only[go_sem,l0,l4,W0 nl6];refine u3.aA t2 q1 q2 q3 ok o1 k5 o2 ω bb (.inl hN) te sa' (λv8 Λ8 h8 w8 s8 wr8 a8 b8=>?_);simp only[go_sem];exact⟨Λ8,w8,_,(s1.aA t1).aA s8,by rw[wr8],a8,o1.aA ω ω,b8,⟨λz=>ω,λz=>ω,λz=>ω,λz=>ω,λ_=>by rw[ate,WW c],λz=>ω,λz=>ω⟩⟩
 ·simp at c;obtain⟨t1,t2,-⟩:=go (.aA 5 [[ma,ca,aa,ι (x.l[k].aP 1 [d % 256]).2.1.o.aE,.aE (x.l[k].aP 1 [d % 256]).2.1.o.aD]] false);rw[Yi];simp only[go_sem];exact⟨Λ6,w,x,s1.aA t1,rfl,by have e:=Rl k5 (RY c);rw[<-e];exact t2,ok.aA ω ω,bb.aE ω,⟨λz=>ω,λz=>ω,λz=>ω,λz=>ω,λ_=>by rw[ate,WY c],λz=>ω,λz=>ω⟩⟩
end
variable {P:Program}{f1 f2:FuncId}
section
variable {P:Program} {f1 f2 f3 f4 f5 f6 f7 f8 f9:FuncId} {Λ:Nat->Nat} {h H:fu} {nb N:Nat} {w:gz} {x:fM} {c0:fI} {B K:Nat} {q a d:Int} {kd:Int} {k i nq:Nat} {Le:gx}
theorem Q4 (u7:sG P f7)(s:qV Λ h H nb N w x c0 B K q a d kd k i nq Le)(c5:kd=8):vc P (jS f1 f2 f3 f4 f5 f6 f7 f8 f9).aA.tl.tl.tl.tl.tl ⟨Le,[],H⟩ (iS (jS f1 f2 f3 f4 f5 f6 f7 f8 f9).aC λ_ h'=>lV Λ h nb N w x c0 B K kd k i d h'):=by
 obtain⟨a1,ok,bb,hB,hK,hN,s1,B1,z0,k5,hi2,l0,l3,l4,l5,l6,l31⟩:=s;have row1:=a1.aA;simp only[gz.aA]at row1;have pl:=a1.aO;have pl:iJ w.pv=some (ι x.aA.length):=pl;have bp:=bb.aA;have ate:=fM.aR k5;obtain⟨n1,j1,lrow,lg,r,v1,v2,v3,v4,v5,v6,v7,-,-⟩:=a1.aF (k:=k) k5;have vl:=(WR.1 v3).1;subst c5;have nbl:=(WR.1 a1.aA).1;have hkl:k<(iM x).aD.length:=by show k<(x.l.map fy.aA).length;simpa using k5
 have gh:(iM x).aD[k]'hkl=x.l[k].aA:=ZC ..;obtain⟨n4,j4,hrow,hg,ax,ay,y1,y2,y3,y4,y5,y6,-,-⟩:=a1.aQ hkl;have yl:=(WR.1 y3).1;rw[gh]at y4;simp only[jH.c,ji,fH]at y4;obtain⟨a',_,e1,ra,b',_,e2,rb,e3⟩:=y4;subst e3 e2;simp only[Yv,and_true]at e1;obtain⟨rfl,rfl⟩:=e1;have sx:=ra.aA;have sy:=rb.aA;obtain⟨ph,ch,i1,i2,i3⟩:=Rd.aD ra .i64 (i:=(0:Int)) (d:=x.l[k].aA.c) ω rfl;obtain⟨he,ho',hn,hl,hs,rfl,-⟩:=m7 i3;have ld:iK H true 10 ph=some (.aF (x.l[k].aA.aH he ho' hn hl hs)):=by rw[jN i2];rfl
 have f:=ok.aC k k5;have ew:IntKind.i64.wrap ((k:Int)+1)=k+1:=gF (by have:=ok.aE;omega);simp only[jS,AC.aC,lV,l0,l3,l4,l31,go_sem,B1,row1,Int.reduceEq,YY,y1,y2,y3,ew,i1,ld];have fl:=f.aF;have fb:=f.aD;have fs:=f.aU.2;refine fK ⟨u7.1,u7.2 (Zs Λ H) H _ x.l[k].aA _ d i3 (f.aC ω) ((nE f.aH).le ω) ω ⟨ω,fb.1,ω⟩⟩ ?_;rintro _ H8 ⟨r8,rfl,hr8,row8,X8⟩;obtain⟨m0,mj,mrow,mg,w1,w2,⟨mr,w3⟩,w4,w5,w6,Λ8,s8,a8⟩:=a1.aZ (k:=k) k5 X8 hr8 (Ea row8);have ml:=(WR.1 w2).1;have ejl:=(WR.1 w3).1;have rowN:=X8.aA row1;have row9:=a8.aA;simp only[gz.aA]at row9;obtain⟨n5,j5,hrow5,hg5,bx,b_y,u1,u2,u3,u4,-,-,-,-⟩:=a8.aQ (k:=k) hkl;have u4:fH (Zs Λ8 (H8.set m0 (some (fC.aA 1 (mrow.set mj [.aA r8 21 0 0]) mg)))) (H8.set m0 (some (fC.aA 1 (mrow.set mj [.aA r8 21 0 0]) mg))) (ji ((iM x).aD[k]'hkl)).c [bx,b_y]:=u4;rw[gh]at u4;simp only[jH.c,ji,fH]at u4;obtain⟨a2,_,e1,rc,b2,_,e2,rd,e3⟩:=u4;subst e3 e2;simp only[Yv,and_true]at e1;obtain⟨rfl,rfl⟩:=e1;have ul:=(WR.1 u3).1;have sx:=rc.aA;have sy:=rd.aA;obtain⟨ph5,ch5,o1,o2,o3⟩:=Rd.aD rc .i64 (i:=(0:Int)) (d:=x.l[k].aA.c) ω rfl;obtain⟨he5,ho5,hn5,hl5,hs5,rfl,-⟩:=m7 o3;have hka:k<(iM x).aC.length:=by show k<(x.l.map fy.aI).length;simpa using k5
 obtain⟨n6,j6,arow,ag,t1,t2,t3,t4,t5,t6,t7⟩:=a8.aR (k:=k) hka;have tl:=(WR.1 t3).1;simp only[go_sem,w1,w2,ml,ejl,zm w3,rowN];generalize H8.set m0 (some (fC.aA 1 (mrow.set mj [.aA r8 21 0 0]) mg))=H9 at *;have B9:=(s8.z nq (WR.1 B1).1 z0).trans B1;have z1:=oW o2 3;have z2:=oW (wU o2 3) 0;have z3:iK H9 false 1 (py 0 (py 3 ph5))=some (ι x.l[k].aA.aA.aA):=by rw[pR (wU o2 3) 0];rfl
 simp only[go_sem,l0,l4,row9,u1,u2,u3,o1,t1,t2,tl,zm t3,z1,z2,z3];obtain⟨Λ10,s10,a10⟩:=t7 x.l[k].aA.aA.aA;have e:({iM x with l:=x.l.set k (fy.aU (k+1) x.l[k].aA d),aC:=(iM x).aC.set k x.l[k].aA.aA.aA}:jC)=iM {x with l:=x.l.set k (fy.aU (k+1) x.l[k].aA d)}:=by simp only[iM,Zk];congr 1;have:(x.l.map fy.aA)[k]'(by simpa using k5)=x.l[k].aA:=ZC ..;show _=(x.l.map fy.aA).set k x.l[k].aA;rw[<-this,YP]
 exact⟨Λ10,_,_,(s1.aA s8).aA s10,by rw[W4],e▸a10,(ok.aI k5 d).aA ω ω,⟨by have:=bb.aA;show x.aA.length<=_;omega,by have:=bb.aD;show x.aJ.length<=_;omega,by have:=bb.aC;show x.aC.length<=_;omega⟩,⟨λz=>ω,λz=>ω,λz=>ω,λz=>ω,λz=>ω,λ_=>by rw[ate],λz=>ω⟩⟩
end
variable {P:Program}{f1 f2:FuncId}
theorem gR.aI {F:Nat->Prop}{h:fu}{v:AV}{l:List Int}(c:gR F h 1 v (iF l)):Rd F h (f_ l) v:=by
 have key:∀l:List Int,gB F h (l.map λn=>[D.aA .i64 n]) (iF l):=by
  intro l;induction l with
  | nil=>simp[iF,gB]
  | cons n l ih=>simp only[XD,iF,gB];exact⟨_,_,rfl,by simp[fH,Rd],ih⟩
 simp only[f_,Rd];refine⟨iF l,?_,key l⟩;rcases c with⟨rfl,e⟩ | ⟨n,off,cap,row,g,rfl,h2,h3,h4,h5,h6,h7,h8⟩
 ·exact .inl ⟨rfl,e⟩
 ·exact .inr (.inr ⟨n,off,_,cap,row,g,rfl,h2,h3,h4,h5,h8.symm⟩)
variable {P:Program}{f1 f2:FuncId}
theorem Q5 {f f3 f4 f5 f6 f7 f8 f9:FuncId}(hf:Is P f (jS f1 f2 f3 f4 f5 f6 f7 f8 f9))(u1:vN P f1){C:Int->Prop} (fin:∀{Λ h H nb N w x c0 B K q a d kd k i nq Le},qV Λ h H nb N w x c0 B K q a d kd k i nq Le->C kd->0<=kd->kd<12->vc P (jS f1 f2 f3 f4 f5 f6 f7 f8 f9).aA.tl.tl.tl.tl.tl ⟨Le,[],H⟩ (iS (jS f1 f2 f3 f4 f5 f6 f7 f8 f9).aC λ_ h'=>lV Λ h nb N w x c0 B K kd k i d h')):xN C P f:=by
 refine⟨hf.2,λΛ h nb N w x c0 B K q a d hC A ok bb hB hK hN=>gy hf ?_⟩;obtain⟨H,hH⟩:∃H,H=h++[some (fC.aA 3 [[ι q,ι a,ι d]] false)]:=⟨_,rfl⟩;have X1:fq fB h H:=by rw[hH];exact fq.b1 _
 have B1:H[h.length]?=ar 3 [[ι q,ι a,ι d]]:=by rw[hH];exact h_ _ _
 have a1:=A.up X1;have s1:gK Λ h Λ H:=gK.up X1;have z0:Λ h.length=0:=A.aE (WX _);have e:=a1.aA;simp only[gz.aA]at e;have pl:=a1.aO;have pl:iJ w.pv=some (ι x.aA.length):=pl;have bp:=bb.aA;have pk1:=vf (k:=a) (n:=5) ω;have pq:=vf (k:=q) (n:=12) ω;simp only[jS,go_sem];rw[<-hH];clear hH;have I:(x.aA.length:Int)<=2^40:=by have:x.aA.length<=21*N:=bp;omega
 refine oO.aA u1.1 (u1.2 a 5 ω) ?_;simp only[go_sem,B1,e,pl];refine oO.aA u1.1 (u1.2 a x.aA.length I) ?_;simp only[go_sem,B1,e,pl];refine oO.aA u1.1 (u1.2 q 12 ω) ?_;obtain⟨k,hk⟩:∃k:Nat,j9 a 5=k:=⟨(j9 a 5).toNat,ω⟩;obtain⟨i,hi⟩:∃i:Nat,j9 a x.aA.length=i:=⟨(j9 a x.aA.length).toNat,by
  have:0<=j9 a x.aA.length:=by
   by_cases c:(0:Int)<x.aA.length
   ·exact (vf c).1
   ·unfold j9;rw[WW ω];exact W9 _
  omega⟩
 have hi2:0<x.aA.length->i<x.aA.length:=λc=>by have:=(vf (k:=a) (n:=x.aA.length) ω).2;omega
 rw[hk,hi];simp only[Yj];have k5:k<x.l.length:=by have:=ok.aE;omega
 have ms:∀Le kd,lk 0 Le=.aA nb 9 0 0->lk 3 Le=.aA h.length 3 0 0->lk 4 Le=ι k->lk 5 Le=ι i->lk 6 Le=.aE (decide ((0:Int)<x.aA.length))->lk 31 Le=ι kd->qV Λ h H nb N w x c0 B K q a d kd k i h.length Le:=λLe kd k0 k3 k4 u k6 E=>⟨a1,ok,bb,hB,hK,hN,s1,B1,z0,k5,hi2,k0,k3,k4,u,k6,E⟩;generalize j9 q 12=kd at *;rw[Ii,Kd,Ij,Ik];refine fin (ms _ _ ?_ ?_ ?_ ?_ ?_ ?_) hC pq.1 pq.2<;>simp[fE,iw]
variable {P:Program}{f1 f2:FuncId}
section
variable {Λ:Nat->Nat} {h h':fu} {nb:Nat} {w:gz} {v:jC}
theorem gA.bJ (hn:h[nb]?=ar 9 [[.aC,.aC,.aC,.aC,.aC,.aC,.aC,.aC,.aE false]]):gA (λm=>if m=nb then 101 else 0) h nb ⟨.aC,.aC,.aC,.aC,.aC,.aC,.aC,.aC,[]⟩ ⟨[],[],[],[],[],[],[],[]⟩:=
 ⟨λm hm=>by split at hm<;>simp_all[(WR.1 hn).1],WW rfl,hn,⟨rfl,δ⟩,.aC,λk k1=>by simp at k1,⟨[],.aC,rfl⟩,.aC,⟨[],.aC,rfl⟩,⟨[],.aC,rfl⟩,.aC,.aC,.aC⟩
theorem gA.bL (a:gA Λ h nb w v){Λ':Nat->Nat}(lt:∀m,Λ' m≠0->m<h.length)(e:∀m,Λ m / 10≠v.l.length+1->m<h.length->Λ m=0\/Λ' m=Λ m)(z:∀m,m<h.length->Λ m=0->Λ' m=0\/Λ' m / 10=v.l.length+1)(z2:∀m,Λ m / 10=v.l.length+1->Λ' m=0\/Λ' m / 10=v.l.length+1)(hz:∀m,m<h.length->Λ m=0->Λ' m=0):gA Λ' h nb w v:=by
 have nbl:=(WR.1 a.aA).1;have l5:=a.aD;have big:∀m,100<=Λ m->Λ' m=Λ m:=λm hm=>by have:=a.lt m ω;rcases e m ω this with c | c<;>omega
 have cc:∀{j sz:Nat}{b:AV} {es:List (List AV)},100<=j->gR (λm=>Λ m=j) h sz b es->gR (λm=>Λ' m=j) h sz b es:=λhj c=>c.aA (λm hm _=>by have u:Λ m=_:=hm;show Λ' m=_;rw[big m ω];exact u) (λ_ _ _=>rfl);have zz:∀m,Zs Λ h m->Zs Λ' h m:=λm hm=>⟨hz m hm.2 hm.1,hm.2⟩;have kz:ik (Zs Λ h) h h:=λ_ _ _ y=>y;obtain⟨hr,h1,h2⟩:=a.aJ;obtain⟨pr,p1,p2⟩:=a.aH;obtain⟨dr,d1,d2⟩:=a.aI;refine⟨lt,by rw[big nb (by rw[a.aC];decide)];exact a.aC,a.aA,a.aD,cc ω a.l,λk k1 k2=>?_,⟨hr,cc ω h1,gB.aA zz kz _ _ h2⟩,cc ω a.aL,⟨pr,cc ω p1,gB.aA zz kz _ _ p2⟩,⟨dr,cc ω d1,gB.aA zz kz _ _ d2⟩,cc ω a.aN,cc ω a.aK,cc ω a.aM⟩;have e2:gQ k Λ'=gQ k Λ:=by
  funext m
  unfold gQ;by_cases c:Λ m / 10=k+1
  ·have hm:=a.lt m ω;rcases e m ω hm with y | y;·omega
   ·rw[y]
  ·rw[WY c];by_cases c2:Λ' m / 10=k+1
   ·have hm:=lt m ω;by_cases c3:Λ m / 10=v.l.length+1;·have:=z2 m c3;omega
    ·rcases e m c3 hm with y | y;·have:=z m hm y;omega
     ·rw[y]at c2;exact absurd c2 c
   ·rw[WY c2]
 rw[e2];exact a.aG k k1 k2
theorem gA.bG (a:gA Λ h nb w v)(l5:v.l.length<5){h1 h2:fu}{r8:Nat}{id d:Int}{q:fP}(hx:fq fB h h1)(h8:h.length<=r8) (hm:h1[r8]?=ar 21 [(fy.aU id q d).aL .aC .aC]) (I:fq fB h1 h2):
  ∃x' h3,iL h2 1 8 w.lv [[.aA r8 21 0 0]]=some (x',h3)/\x'.aH=true/\h3[nb]?=ar 9 [w.aA]/\nb<h3.length/\∃Λ',(∀m,m<h.length->Λ m=0->Λ' m=0)/\(∀m,m<h.length->Λ m=0->(h3.set nb (some (.aA 9 [({w with lv:=x'}:gz).aA] false)))[m]?=h[m]?)/\h.length<=(h3.set nb (some (.aA 9 [({w with lv:=x'}:gz).aA] false))).length /\
   gA Λ' (h3.set nb (some (.aA 9 [({w with lv:=x'}:gz).aA] false))) nb {w with lv:=x',rs:=w.rs++[r8]} {v with l:=v.l++[fy.aU id q d]}:=by
 have hl1:=hx.1;have hl2:=I.1;have r8l:=(WR.1 hm).1;obtain⟨Λw,hΛ⟩:∃Λw:Nat->Nat,Λw=λm=>if Λ m / 10=v.l.length+1 then 0 else Λ m:=⟨_,rfl⟩
 have wz:∀m,Λ m=0->Λw m=0:=λm e=>by rw[hΛ];show (if Λ m / 10=v.l.length+1 then 0 else Λ m)=0;rw[e];split<;>rfl
 have w0:gA Λw h nb w v:=a.bL (λm hm=>a.lt m (λe=>hm (wz m e))) (λm c _=>.inr (by rw[hΛ];exact WY c)) (λm _ e=>.inl (wz m e)) (λm c=>.inl (by rw[hΛ];exact WW c)) (λm _ e=>wz m e);have wn:∀m,Λw m / 10≠v.l.length+1:=λm=>by rw[hΛ];show (if Λ m / 10=v.l.length+1 then 0 else Λ m) / 10≠_;split<;>omega
 clear hΛ;have X2:=hx.tr I;have a2:=w0.up X2;have nbl:=(WR.1 w0.aA).1;obtain⟨x',h3,e1,c3,X3⟩:=a2.l.aD (bytes:=8) (ys:=[[.aA r8 21 0 0]]) (fq.aC _ _) (by simp only[Xd,XI];have:=w0.aD;omega);have hl3:=X3.1;have no:∀m,h.length<=m->Λw m=0:=λm hm=>w0.aE hm;have W:h3[nb]?=ar 9 [w.aA]:=(X3.2 nb ω (λy=>by have y':Λw nb=102:=y;rw[w0.aC]at y';omega)).trans a2.aA;refine⟨x',h3,e1,c3.aE,W,ω,λm=>if m=r8 then 10*(v.l.length+1)+6 else if m<h2.length then Λw m else if m<h3.length then 102 else 0,?_⟩;obtain⟨Λ',u⟩:∃Λ':Nat->Nat,Λ'=λm=>if m=r8 then 10*(v.l.length+1)+6 else if m<h2.length then Λw m else if m<h3.length then 102 else 0:=⟨_,rfl⟩
 rw[<-u];have l8:Λ' r8=10*(v.l.length+1)+6:=by rw[u];exact WW rfl
 have lo:∀m,m≠r8->m<h2.length->Λ' m=Λw m:=λm h1 h2=>by rw[u];show (if m=r8 then _ else if m<_ then _ else _)=_;rw[WY h1,WW h2]
 have lm:∀m,h2.length<=m->m<h3.length->Λ' m=102:=λm h1 h2=>by rw[u];show (if m=r8 then _ else if m<_ then _ else _)=_;rw[WY ω,WY ω,WW h2]
 have lh:∀m,h3.length<=m->Λ' m=0:=λm h1=>by rw[u];show (if m=r8 then _ else if m<_ then _ else _)=_;rw[WY ω,WY ω,WY ω]
 clear u;generalize hH:h3.set nb (some (.aA 9 [({w with lv:=x'}:gz).aA] false))=H;have hHl:H.length=h3.length:=by rw[<-hH];simp
 have kk:∀m,m≠nb->m<h2.length->Λw m≠102->H[m]?=h2[m]?:=λm h1 h2 hn=>by rw[<-hH,WS (λe=>h1 e.symm)];exact X3.2 m h2 (λy=>hn y)
 have ko:∀m,m≠nb->m<h.length->Λw m≠102->H[m]?=h[m]?:=λm h1 h2 hn=>(kk m h1 ω hn).trans (X2.2 m h2 (λy=>y));have zz:∀m,Zs Λw h m->Zs Λ' H m:=λm hm=>⟨(lo m (by have:=hm.2;omega) (by have:=hm.2;omega)).trans hm.1,by have:=hm.2;omega⟩;have nz:∀m,Λw m=0->m≠nb:=λm e y=>by rw[y,w0.aC]at e;omega
 have kz:ik (Zs Λw h) h H:=λm hm y hy=>(ko m (nz m hm.1) hm.2 (by rw[hm.1];omega)).trans hy;have cc:∀{i sz:Nat}{b:AV} {es:List (List AV)},i≠102->i≠101->100<=i->gR (λm=>Λw m=i) h sz b es->gR (λm=>Λ' m=i) H sz b es:=λh1 h2 h3' c=>c.aA (λm hm hlt=>(lo m ω ω).trans hm) (λm hm hlt=>by have E:Λw m=_:=hm;exact ko m (λy=>by rw[y,w0.aC]at E;omega) hlt ω);obtain⟨hr,a1,Z⟩:=w0.aJ;obtain⟨pr,U,O⟩:=w0.aH;obtain⟨dr,a4,a3⟩:=w0.aI;refine⟨λm hm e=>(lo m ω ω).trans (wz m e),λm hm e=>ko m (nz m (wz m e)) hm (by rw[wz m e];omega),ω,λm hm=>?_,(lo nb ω ω).trans w0.aC,by rw[<-hH];exact W0 ω,⟨by simp;exact w0.aD.1,by simp;omega⟩,?_,λk k1 k2=>?_,⟨hr,cc ω ω ω a1,gB.aA zz kz _ _ Z⟩,cc ω ω ω w0.aL,⟨pr,cc ω ω ω U,gB.aA zz kz _ _ O⟩,⟨dr,cc ω ω ω a4,gB.aA zz kz _ _ a3⟩,cc ω ω ω w0.aN,cc ω ω ω w0.aK,cc ω ω ω w0.aM⟩;·exact W6 λc=>hm (lh m ω)
 ·show gR _ H 1 x' ((w.rs++[r8]).map λr=>[AV.aA r 21 0 0]);rw[XU];refine c3.aA (λm hm hlt=>?_) (λm hm hlt=>?_)
  ·have E:(Λw m=102/\m<h2.length)\/h2.length<=m:=hm;rcases E with⟨y,y2⟩ | y;·exact (lo m (λe=>by rw[e,no r8 h8]at y;omega) y2).trans y
   ·exact lm m y hlt
  ·have E:(Λw m=102/\m<h2.length)\/h2.length<=m:=hm;rw[<-hH,WS (λe=>?_)];rcases E with⟨y,y2⟩ | y;·rw[<-e,w0.aC]at y;omega
   ·omega
 ·have k1':k<w.rs.length+1:=by simpa using k1
  have rl:=w0.aD.1;by_cases c:k=v.l.length
  ·subst c;have g1:(w.rs++[r8])[v.l.length]'k1=r8:=by simp[<-rl]
   have g2:(v.l++[fy.aU id q d])[v.l.length]'k2=fy.aU id q d:=by simp
   have H8:H[r8]?=ar 21 [(fy.aU id q d).aL .aC .aC]:=(kk r8 ω ω (by rw[no r8 h8];omega)).trans (I.aA hm);show jn _ H ((w.rs++[r8])[v.l.length]'k1) ((v.l++[fy.aU id q d])[v.l.length]'k2);rw[g1,g2];have e:gQ v.l.length Λ'=λm=>if m=r8 then 6 else 0:=by
    funext m
    unfold gQ;by_cases c1:m=r8;·subst c1;rw[l8,WW ω,WW rfl];omega
    ·rw[WY c1];by_cases c2:m<h2.length;·rw[lo m c1 c2,WY (wn m)]
     ·by_cases c3:m<h3.length
      ·rw[lm m ω c3,WY ω]
      ·rw[lh m ω,WY ω]
   rw[e];exact Ea H8
  ·have g1:(w.rs++[r8])[k]'k1=w.rs[k]' ω:=YC ω;have g2:(v.l++[fy.aU id q d])[k]'k2=v.l[k]' ω:=YC ω;show jn _ H ((w.rs++[r8])[k]'k1) ((v.l++[fy.aU id q d])[k]'k2);rw[g1,g2];have m0:=w0.aG k ω ω;have e:gQ k Λ'=gQ k Λw:=by
    funext m
    unfold gQ;by_cases c1:m=r8;·subst c1;rw[l8,no m h8,WY ω];simp
    ·by_cases c2:m<h2.length
     ·rw[lo m c1 c2]
     ·by_cases c3:m<h3.length
      ·rw[lm m ω c3,no m ω,WY ω];simp
      ·rw[lh m ω,no m ω]
   rw[e];refine m0.aC ω (λm hm=>ko m (λy=>?_) (m0.aA m hm).1 (λy=>?_));·unfold gQ at hm;rw[y,w0.aC,WY ω]at hm;exact hm rfl
   ·unfold gQ at hm;rw[y,WY ω]at hm;exact hm rfl
end
variable {P:Program}{f1 f2:FuncId}
section
variable {Λ:Nat->Nat} {h h':fu} {nb:Nat} {w:gz} {v:jC}
theorem gA.a_ (a:gA Λ h nb w v){h2:fu}(hx:fq fB h h2)(n:Int)(hb:v.aC.length<=2^30):
  ∃x' h3,iL h2 1 8 w.av [[ι n]]=some (x',h3)/\x'.aH=true/\h3[nb]?=ar 9 [w.aA]/\nb<h3.length/\∃Λ',gK Λ h Λ' (h3.set nb (some (.aA 9 [({w with av:=x'}:gz).aA] false)))/\gA Λ' (h3.set nb (some (.aA 9 [({w with av:=x'}:gz).aA] false))) nb {w with av:=x'} {v with aC:=v.aC++[n]}:=by
 obtain⟨x',h3,e1,sc,n3,e,f⟩:=a.aP hx (bytes:=8) (ys:=[[ι n]]) (j:=104) ω a.aL (by simp only[iF,Xd,XI];omega);obtain⟨Λ',r1,s1,s2,c1,row⟩:=f ({w with av:=x'}:gz).aA;refine⟨x',h3,e1,sc,n3,e,Λ',s1,r1.lt,r1.aC,row,r1.aD,r1.l ω,r1.aA,r1.aJ ω,?_,r1.aK ω,r1.aE ω,r1.aH ω,r1.aG ω,r1.aF ω⟩;show gR _ _ 1 x' (iF (v.aC++[n]));have:iF (v.aC++[n])=iF v.aC++[[ι n]]:=by simp[iF]
 rw[this];exact c1
theorem gA.bA (a:gA Λ h nb w v){h2:fu}(hx:fq fB h h2){q:fP}{cs:List AV}(hy:fH (Zs Λ h2) h2 (ji q).c cs)(hb:v.aD.length<=2^30):
  ∃x' h3,iL h2 2 48 w.hv [cs]=some (x',h3)/\x'.aH=true/\h3[nb]?=ar 9 [w.aA]/\nb<h3.length/\∃Λ',gK Λ h Λ' (h3.set nb (some (.aA 9 [({w with hv:=x'}:gz).aA] false)))/\gA Λ' (h3.set nb (some (.aA 9 [({w with hv:=x'}:gz).aA] false))) nb {w with hv:=x'} {v with aD:=v.aD++[q]}:=by
 obtain⟨rows,p1,p2⟩:=a.aJ;have l1:=mz p2;simp only[Xd]at l1;obtain⟨x',h3,e1,sc,n3,e,f⟩:=a.aP hx (bytes:=48) (ys:=[cs]) (j:=103) ω p1 (by simp only[XI];omega);obtain⟨Λ',r1,s1,s2,c1,row⟩:=f ({w with hv:=x'}:gz).aA;refine⟨x',h3,e1,sc,n3,e,Λ',s1,r1.lt,r1.aC,row,r1.aD,r1.l ω,r1.aA,⟨_,c1,?_⟩,r1.aI ω,r1.aK ω,r1.aE ω,r1.aH ω,r1.aG ω,r1.aF ω⟩;show gB _ _ ((v.aD++[q]).map λx=>(ji x).c) _;rw[XU];exact vR (gB.aA s1.zs s1.kz _ _ p2) (by simp only[XD,Yb,gB];exact⟨_,_,rfl,s2.aE hy,rfl⟩)
end
def lZ (n:Nat):fI:=⟨(List.range n).map λi:Nat=>(i:Int)+1,[],[]⟩
def ia (n:Nat):fP:=⟨1,0,0,⟨0,0,[]⟩,lZ n,[]⟩
def kv (n i:Nat):fy:=fy.aU (i+1) (ia n) (3*(i+1))
def pt (n i:Nat):jC:=⟨(List.range i).map (kv n),List.replicate i (ia n),List.replicate i 0,[],[],[],[],[]⟩
def fM.aN (n:Nat):fM:=⟨(List.range 5).map (kv n),[],[],[],[],[]⟩
def z_ (P:Program)(f:FuncId):Prop:=fZ P f=true/\∀(h:fu)(n:Nat),1<=n/\n<=5->
 fO P f [.aD .i64 n] h λr h'=>∃nb Λ w,r=.aA nb 9 0 0/\fq fB h h'/\(∀m,m<h.length->Λ m=0)/\gA Λ h' nb w (iM (fM.aN n))
theorem Mj {h:fu}{n b:Nat}{L:gx}{K:AX->St->Prop}(hn:n<=5)(k0:lk 0 L=ι n)(k3:lk 3 L=.aA b 3 0 0)(k4:lk 4 L=ι (1:Int)) (hb:h[b]?=ar 3 [[.aC,.aC,.aC]])
  (hK:∀Lv h' ov,(∀m,m≠4->m≠11->lk m Lv=lk m L)->h.length<=h'.length->(∀m,m<h.length->m≠b->h'[m]?=h[m]?)->h'[b]?=ar 3 [[ov,.aC,.aC]]->gR (λm=>h.length<=m) h' 1 ov (iF (lZ n).aA)->K (.aD 0) ⟨Lv,[],h'⟩):
  vc P (.aD (Bu f1 f2)) ⟨L,[],h⟩ K:=by
 have bl:=(WR.1 hb).1;obtain⟨I,hI⟩:∃I:Nat->gx->fu->Prop,∀m Lv h',I m Lv h'↔∃(i:Nat)(ov:AV),(∀m,m≠4->m≠11->lk m Lv=lk m L)/\lk 4 Lv=ι ((i:Int)+1)/\h.length<=h'.length/\(∀m,m<h.length->m≠b->h'[m]?=h[m]?)/\h'[b]?=ar 3 [[ov,.aC,.aC]]/\gR (λm=>h.length<=m) h' 1 ov (iF (lZ i).aA)/\i<=n/\m=n-i:=⟨_,λ_ _ _=>YD⟩;refine iP I n ((hI _ _ _).2 ⟨0,.aC,λ_ _ _=>rfl,by simpa using k4,WX _,λ_ _ _=>rfl,hb,.inl ⟨rfl,rfl⟩,ω,ω⟩) ?_;intro m Lv h' hh;obtain⟨i,ov,ks,m4,hl,hk,E,c,hi,rfl⟩:=(hI _ _ _).1 hh;clear hh;have m0:=(ks 0 δ δ).trans k0;have m3:=(ks 3 δ δ).trans k3;have sv:=c.aE;have bl':b<h'.length:=ω;have R:∀y,(h'++[y])[b]?=_:=λy=>(fq.b1 y).aA E;have ew:IntKind.i64.wrap ((i:Int)+1+1)=((i+1:Nat):Int)+1:=by rw[gF ω];omega
 simp only[Bu,go_sem,m0,m4];refine iQ (λci=>?_) (λci=>?_)
 ·have ci:i+1<=n:=by simp at ci;omega
  simp only[go_sem,m3,m4,E];have ae:jD (h'++[some (fC.aA 1 [[ι ((i:Int)+1)]] false)]) 1 (.aG h'.length 1 0 1 (some 1))=some [[ι ((i:Int)+1)]]:=uw (g:=false) (h_ _ _) (some 1) (len:=1) rfl;have c':gR (λm=>h.length<=m) (h'++[some (fC.aA 1 [[ι ((i:Int)+1)]] false)]) 1 ov (iF (lZ i).aA):=c.aA (λ_ y _=>y) (λm _ hlt=>(fq.b1 _).2 m hlt (λy=>y));obtain⟨v',h3,g1,c3,X3⟩:=c'.aD (bytes:=8) (ys:=[[ι ((i:Int)+1)]]) (fq.aC _ _) (by simp only[iF,lZ,Xd,List.length_range,Xf,Xi];omega);rw[<-iR ae]at g1;have O:=c3.aE;have Z:¬h.length<=b:=ω;have W:h3[b]?=ar 3 [[ov,.aC,.aC]]:=(X3.2 b (by simp;omega) Z).trans (R _);have a1:=(WR.1 W).1;simp only[go_sem,m3,g1,W,O,gV O,m4,ew];have xl:=X3.1;simp only[WT,XI]at xl;refine⟨_,ω,(hI _ _ _).2 ⟨i+1,v',λm h1 h2=>by simp only[fE];rw[WY (λe=>h1 e),WY (λe=>h2 e)];exact ks m h1 h2,by simp[fE],by rw[W4];omega,λm hm U=>?_,W0 a1,?_,ω,rfl⟩⟩;·rw[WS (λe=>U e.symm)];exact (X3.2 m (by simp;omega) (by show ¬h.length<=m;omega)).trans (((fq.b1 _).2 m ω (λy=>y)).trans (hk m hm U))
  ·have e:iF (lZ (i+1)).aA=iF (lZ i).aA++[[ι ((i:Int)+1)]]:=by simp[iF,lZ,List.range_succ]
   rw[e];refine c3.aA (λm hm _=>?_) (λm hm hlt=>WS (λy=>?_));·have u:(h.length<=m/\_)\/_<=m:=hm;simp only[WT,XI]at u;omega
   ·have u:(h.length<=m/\_)\/_<=m:=hm;simp only[WT,XI]at u;omega
 ·have ci:¬i+1<=n:=by simp at ci;omega
  have:i=n:=ω;subst this;simp only[go_sem];exact hK _ _ ov (λm h1 h2=>by rw[fE,WY (λe=>h2 e)];exact ks m h1 h2) hl hk E c
theorem Ml (u1:sG P f1)(u2:xB P f2){h:fu}{n nb b3:Nat}{ov:AV}{F:Nat->Prop}{L:gx}{K:AX->St->Prop}(hn:1<=n/\n<=5)(k3:lk 3 L=.aA b3 3 0 0)(k5:lk 5 L=.aA nb 9 0 0)(k6:lk 6 L=ι (1:Int)) (hb:h[b3]?=ar 3 [[ov,.aC,.aC]]) (hF:∀m,F m->m<nb) (b3n:b3<nb) (ro:Rd F h (f_ (lZ n).aA) ov)
  (hnb:h[nb]?=ar 9 [[.aC,.aC,.aC,.aC,.aC,.aC,.aC,.aC,.aE false]])
  (hK:∀Lv h' Λ w,lk 5 Lv=.aA nb 9 0 0->(∀m,m<nb->Λ m=0)->nb<h'.length->(∀m,m<nb->h'[m]?=h[m]?)->gA Λ h' nb w (pt n 5)->K (.aD 2) ⟨Lv,[],h'⟩):
  vc P (.aD (Bv f1 f2)) ⟨L,[],h⟩ K:=by
 have nbl:=(WR.1 hnb).1
 obtain⟨I,hI⟩:∃I:Nat->gx->fu->Prop,∀m Lv h',I m Lv h'↔∃(i:Nat)(Λ:Nat->Nat)(w:gz),(lk 3 Lv=.aA b3 3 0 0/\lk 5 Lv=.aA nb 9 0 0/\lk 6 Lv=ι ((i:Int)+1))/\(∀m,m<nb->Λ m=0)/\nb<h'.length/\(∀m,m<nb->h'[m]?=h[m]?)/\gA Λ h' nb w (pt n i)/\i<=5/\m=5-i:=⟨_,λ_ _ _=>YD⟩
 refine iP I 5 ((hI _ _ _).2 ⟨0,_,_,⟨k3,k5,by simpa using k6⟩,λm hm=>WY ω,nbl,λ_ _=>rfl,gA.bJ hnb,ω,ω⟩) ?_
 intro m Lv h' hh
 obtain⟨i,Λ,w,⟨m3,m5,m6⟩,hz,nbl',hk,a,hi,rfl⟩:=(hI _ _ _).1 hh
 clear hh
 have row:=a.aA
 simp only[gz.aA]at row
 have hb':=(hk b3 b3n).trans hb
 have ro':Rd F h' (f_ (lZ n).aA) ov:=Rd.aE (λ_ y=>y) (λm hm y hy=>(hk m (hF m hm)).trans hy) _ _ ro
 have so:=ro'.aA
 simp only[Bv,go_sem,m6]
 refine iQ (λci=>?_) (λci=>?_)
 ·have ci:i<5:=by simp at ci;omega
  obtain⟨H1,hH1⟩:∃H1,H1=h'++[some (fC.aA 10 [[ι 1,ι 0,ι 0,ι 0,ι 0,.aC,ov,.aC,.aC,.aC]] false)]:=⟨_,rfl⟩
  have X1:fq fB h' H1:=by rw[hH1];exact fq.b1 _
  have C1:H1[h'.length]?=ar 10 [[ι 1,ι 0,ι 0,ι 0,ι 0,.aC,ov,.aC,.aC,.aC]]:=by rw[hH1];exact h_ _ _
  have l1:H1.length=h'.length+1:=by rw[hH1];simp
  have N1:∀sz i o,ij H1.length 1 (.aA nb sz i o)=true:=λsz i o=>iN ω
  have N2:∀sz i o,ij H1.length 1 (.aA h'.length sz i o)=true:=λsz i o=>iN ω
  have R1:∀y,(H1++[y])[nb]?=_:=λy=>(X1.tr (fq.b1 y)).aA row
  have R2:∀y,(H1++[y])[h'.length]?=_:=λy=>(fq.b1 y).aA C1
  simp only[go_sem,m3,m5,hb',so]
  rw[<-hH1]
  clear hH1
  simp only[go_sem,m6,R1,R2]
  rw[<-l1]
  refine⟨N1 _ _ _,?_⟩
  have hc:fH F (H1++[none]) (ia n).c [ι 1,ι 0,ι 0,ι 0,ι 0,.aC,ov,.aC,.aC,.aC]:=by
   have ro2:Rd F (H1++[none]) (f_ (lZ n).aA) ov:=ro'.up (X1.tr (fq.b1 none))
   simp only[fP.c,ia,fH]
   exact⟨_,_,rfl,rfl,_,_,rfl,rfl,_,_,rfl,rfl,_,_,rfl,rfl,_,_,rfl,rfl,_,_,rfl,xa _ _ 3,_,_,rfl,ro2,_,_,rfl,xa _ _ 1,_,_,rfl,xa _ _ 1,_,_,rfl,xa _ _ 1,rfl⟩
  have fc:(ia n).aD.aH (2^40):=⟨by simp[ia,lZ];omega,by simp[ia,lZ],by simp[ia,lZ]⟩
  have lo:kh (ia n).aA:=⟨W9 _,by show (0:Int)<=2^41;decide,by show (0:Nat)<=_;omega,λe he=>by cases he⟩
  refine fK ⟨u1.1,u1.2 F (H1++[none]) _ (ia n) _ _ hc lo fc (by simp[ia]) ⟨by simp[ia],by simp[ia],by simp[ia]⟩⟩ ?_
  rintro _ H8 ⟨r8,rfl,hr8,row8,X8⟩
  have hfree:H8[H1.length]?=some none:=X8.aA ς
  have hlt:=(WR.1 hfree).1
  have hr8':H1.length+1<=r8:=by simpa using hr8
  obtain⟨H9,hH9⟩:∃H9,H9=H8.set H1.length (some (.aA 1 [[.aA r8 21 0 0]] false)):=⟨_,rfl⟩
  have X9:fq fB H1 H9:=by rw[hH9];exact ((fq.b1 none).tr X8).aI (WX _) _
  have row9:H9[r8]?=ar 21 [(fy.aU ((i:Int)+1) (ia n) (IntKind.i64.wrap (3*((i:Int)+1)))).aL .aC .aC]:=by rw[hH9,WS ω];exact row8
  have ae:jD H9 1 (.aG H1.length 1 0 1 (some 1))=some [[.aA r8 21 0 0]]:=uw (g:=false) (by rw[hH9];exact W0 hlt) (some 1) (len:=1) rfl
  obtain⟨y1,h3,g1,g2,g3,g4,Λ3,j1,j2,j3,a3⟩:=(a.up X1).bG (by simpa [pt] using ci) X9 ω row9 (fq.aC _ _)
  rw[<-iR ae]at g1
  have row1:=X1.aA row
  have R9:=X9.aA row1
  have R8:=((fq.b1 none).tr X8).aA row1
  simp only[gz.aA]at g3 j2 j3 a3
  simp only[go_sem,kj,hfree,R8,<-hH9,g1,g2,g3,g4,gV g2]
  generalize h3.set nb (some (fC.aA 9 [[y1,w.hv,w.av,w.pv,w.dv,w.tv,w.ev,w.qv,AV.aE false]] false))=H10 at *
  have row10:=a3.aA
  simp only[gz.aA]at row10
  have z10:Λ h'.length=0:=a.aE (WX _)
  have C10:=(j2 h'.length ω z10).trans C1
  have nl10:=(WR.1 row10).1
  have cl10:=(WR.1 C10).1
  have N1':∀sz i o,ij H10.length 2 (.aA nb sz i o)=true:=λsz i o=>iN nl10
  have N2':∀sz i o,ij H10.length 2 (.aA h'.length sz i o)=true:=λsz i o=>iN cl10
  have R1':∀y z,(H10++[y]++[z])[nb]?=_:=λy z=>(fq.b2 y z).aA row10
  have R2':∀y z,(H10++[y]++[z])[h'.length]?=_:=λy z=>(fq.b2 y z).aA C10
  have hc10:fH F (H10++[none]++[none]) (ia n).c [ι 1,ι 0,ι 0,ι 0,ι 0,.aC,ov,.aC,.aC,.aC]:=fH.aA (λ_ y=>y) (λm hm y hy=>by
   have mb:=hF m hm
   have hy':H1[m]?=some y:=by
    have:=(Xy (l₁:=H1) (l₂:=[none]) (i:=m) ω).symm.trans hy
    exact this
   exact (fq.b2 _ _).aA ((j2 m ω (hz m mb)).trans hy')) _ _ hc
  simp only[go_sem,m5,R1',R2',N1',N2']
  refine gH u2.1 (u2.2 F _ (ia n) _ hc10 ⟨lo.2.2,fc,by simp[ia]⟩) ?_
  simp only[go_sem,kj,R1',R2',fP.aL,tM,tN,xf]
  obtain⟨H11,hH11⟩:∃H11,H11=H10++[some (fC.aA 10 [[ι (ia n).aE,ι (ia n).aC,ι (ia n).aF,ι (ia n).aA.aA,ι (ia n).aA.aD,kE (ia n).aA.es,gO (ia n).aD.aA,gO (ia n).aD.aC,gO (ia n).aD.aD,jx (ia n).aG]] false)]++[some (fC.aA 2 [[AV.aG H10.length 10 0 1 (some 1),AV.aC]] false)]:=⟨_,rfl⟩
  have X11:fq fB H10 H11:=by rw[hH11];exact fq.b2 _ _
  have C11:=kr H10 (some (fC.aA 10 [[ι (ia n).aE,ι (ia n).aC,ι (ia n).aF,ι (ia n).aA.aA,ι (ia n).aA.aD,kE (ia n).aA.es,gO (ia n).aD.aA,gO (ia n).aD.aC,gO (ia n).aD.aD,jx (ia n).aG]] false)) (some (fC.aA 2 [[AV.aG H10.length 10 0 1 (some 1),AV.aC]] false))
  have D11:=jy H10 (some (fC.aA 10 [[ι (ia n).aE,ι (ia n).aC,ι (ia n).aF,ι (ia n).aA.aA,ι (ia n).aA.aD,kE (ia n).aA.es,gO (ia n).aD.aA,gO (ia n).aD.aC,gO (ia n).aD.aD,jx (ia n).aG]] false)) (some (fC.aA 2 [[AV.aG H10.length 10 0 1 (some 1),AV.aC]] false))
  rw[<-hH11]at C11 D11 ⊢
  have l11:H11.length=H10.length+2:=by rw[hH11];simp
  clear hH11
  have hy:fH (Zs Λ3 H11) H11 (ji (ia n)).c [.aG H10.length 10 0 1 (some 1),.aC]:=by
   have z:Zs Λ3 H11 H10.length:=⟨a3.aE (WX _),ω⟩
   have e:=tK (Zs Λ3 H11) H11 (ia n).c
   rw[show D.aC (ia n).c=_ from fP.aL _]at e
   simp only[jH.c,ji,fH]
   refine⟨_,_,rfl,?_,_,_,rfl,xa _ _ _,rfl⟩
   simp only[sZ,Rd]
   exact⟨_,.inr (.inr ⟨H10.length,0,1,some 1,_,false,rfl,z,C11,ς,(λc hc=>by cases hc;simp),rfl⟩),by
    simp only[XD,Yb,gB]
    exact⟨_,_,rfl,e,rfl⟩⟩
  have ae2:jD H11 2 (.aG (H10.length+1) 2 0 1 (some 1))=some [[.aG H10.length 10 0 1 (some 1),.aC]]:=uw (g:=false) D11 (some 1) (len:=1) rfl
  obtain⟨y2,h4,o1,o2,o3,o4,Λ4,s4,a4⟩:=a3.bA X11 hy (by simp[pt];omega)
  rw[<-iR ae2]at o1
  have R11:=X11.aA row10
  simp only[gz.aA]at o3 s4 a4
  simp only[go_sem,kj,o1,o2,o3,o4,gV o2]
  generalize h4.set nb (some (fC.aA 9 [[y1,y2,w.av,w.pv,w.dv,w.tv,w.ev,w.qv,AV.aE false]] false))=H12 at *
  have row12:=a4.aA
  simp only[gz.aA]at row12
  have R12:∀y,(H12++[y])[nb]?=_:=λy=>(fq.b1 y).aA row12
  simp only[go_sem,m5,row12]
  try refine⟨ς,ς,?_⟩
  obtain⟨H13,hH13⟩:∃H13,H13=H12++[some (fC.aA 1 [[ι 0]] false)]:=⟨_,rfl⟩
  have X13:fq fB H12 H13:=by rw[hH13];exact fq.b1 _
  have ae3:jD H13 1 (.aG H12.length 1 0 1 (some 1))=some [[ι 0]]:=uw (g:=false) (by rw[hH13];exact h_ _ _) (some 1) (len:=1) rfl
  obtain⟨y3,h5,p1,p2,p3,p4,Λ5,s5,a5⟩:=a4.a_ X13 0 (by simp[pt];omega)
  rw[<-iR ae3]at p1
  have R13:=X13.aA row12
  have ew:IntKind.i64.wrap ((i:Int)+1+1)=((i+1:Nat):Int)+1:=by rw[gF ω];omega
  simp only[gz.aA]at p3 s5 a5
  rw[<-hH13]
  simp only[go_sem,p1,p2,p3,gV p2,m6,ew]
  have e3:IntKind.i64.wrap (3*((i:Int)+1))=3*(i+1):=gF ω
  have en:({pt n i with l:=(pt n i).l++[fy.aU ((i:Int)+1) (ia n) (IntKind.i64.wrap (3*((i:Int)+1)))],aD:=(pt n i).aD++[ia n],aC:=(pt n i).aC++[0]}:jC)=pt n (i+1):=by
   rw[e3]
   simp only[pt,kv,List.range_succ,XU,XD,Yb,List.replicate_succ']
  have zz:∀m,m<nb->Λ3 m=0/\H10[m]?=h[m]?:=λm hm=>by
   have h1l:m<H1.length:=ω
   have m1:m<h'.length:=ω
   exact⟨j1 m h1l (hz m hm),(j2 m h1l (hz m hm)).trans ((X1.2 m m1 (λy=>y)).trans (hk m hm))⟩
  have q4:=s4.aD
  have q5:=s5.aD
  exact⟨_,ω,(hI _ _ _).2 ⟨i+1,Λ5,_,⟨by simp[fE,m3],by simp[fE,m5],by simp[fE]⟩,λm hm=>(s5.aC m ω).trans ((s4.aC m ω).trans (zz m hm).1),ω,λm hm=>(s5.z m ω ((s4.aC m ω).trans (zz m hm).1)).trans ((s4.z m ω (zz m hm).1).trans (zz m hm).2),en▸a5,ω,rfl⟩⟩
 ·have:i=5:=by simp at ci;omega
  subst this
  simp only[go_sem]
  exact hK _ _ Λ w (by simp[fE,m5]) hz nbl' hk a
theorem Mm {f:FuncId}(hf:Is P f (Bt f1 f2))(u1:sG P f1)(u2:xB P f2):z_ P f:=by
 refine⟨hf.2,λh n hn=>gy hf ?_⟩;obtain⟨H,hH⟩:∃H,H=h++[some (fC.aA 3 [[.aC,.aC,.aC]] false)]:=⟨_,rfl⟩;have X1:fq fB h H:=by rw[hH];exact fq.b1 _
 have B1:H[h.length]?=ar 3 [[.aC,.aC,.aC]]:=by rw[hH];exact h_ _ _
 have l1:H.length=h.length+1:=by rw[hH];simp
 simp only[Bt,go_sem];rw[<-hH];clear hH;refine Mj (n:=n) (b:=h.length) hn.2 (by simp[fE,iw]) (by simp[fE]) (by simp[fE]) B1 (λLv h' ov ks hl hk hb c=>?_);have k3:=(ks 3 δ δ).trans (show _=AV.aA h.length 3 0 0 by simp[fE]);clear ks;simp only[go_sem];have ro:=Rd.aE (F:=λm=>H.length<=m/\m<h'.length) (λ_ y=>y) (λm hm y hy=>(fq.b1 (some (fC.aA 9 [[.aC,.aC,.aC,.aC,.aC,.aC,.aC,.aC,.aE false]] false))).aA hy) _ _ (Rd.lt _ _ c.aI);have u:=(fq.b1 (some (fC.aA 9 [[.aC,.aC,.aC,.aC,.aC,.aC,.aC,.aC,.aE false]] false))).aA hb;refine Ml u1 u2 (n:=n) (nb:=h'.length) (b3:=h.length) hn (by simp[fE,k3]) (by simp[fE]) (by simp[fE]) u (λm hm=>hm.2) ω ro (h_ _ _) (λLw H3 Λ w k5 hz hn3 e a=>?_);simp only[go_sem,k5];refine⟨h'.length,Λ,w,rfl,⟨ω,λm hm _=>?_⟩,λm hm=>hz m ω,a⟩;rw[e m ω,(fq.b1 _).2 m ω (λy=>y),hk m ω ω];exact X1.2 m hm (λy=>y)
variable {P:Program}{f1 f2:FuncId}
theorem Hr:∀n,1<=n/\n<=5->(lZ n).aF=true
 | 1,_=>by decide
 | 2,_=>by decide
 | 3,_=>by decide
 | 4,_=>by decide
 | 5,_=>by decide
 | 0,h=>ω
 | n+6,h=>ω
def uP (n:Nat):gJ:=⟨lZ n,λ_=>none,λ_ _=>none,λ_ _=>none,λ_ _ _=>False,[],0⟩
theorem Po {n:Nat}(hn:1<=n/\n<=5):(uP n).ok:=
 ⟨Hr n hn,nofun,nofun,nofun,nofun,nofun,nofun,nofun,nofun,nofun,nofun,λa c b e=>by simp[uP]at e,nofun⟩
theorem QQ {n i:Nat}(hn:1<=n/\n<=5)(hi:i<5):gN (uP n) [] (kv n i):=by
 have ef:gj [] (kv n i)=[]:=rfl;have b0:(kv n i).aA.aA.aA=0:=rfl;refine⟨⟨?_,W9 _⟩,⟨⟨W9 _,W9 _⟩,rfl⟩,?_,?_,?_,rfl,⟨λz hz=>(by cases hz),Xm _⟩,⟨W9 _,W9 _,W9 _⟩,⟨rfl,W9 _⟩,.inl (W9 _),W9 _,?_,?_,?_,?_,?_,.inl rfl,?_,?_,?_⟩;·show (1:Int)<=(i:Int)+1/\(i:Int)+1<=7;omega
 ·rw[ef];intro j hj;cases hj
 ·rw[ef];exact List.Pairwise.nil
 ·rw[ef];intro e he;cases he
 ·intro t w e;cases e
 ·intro z;exact absurd rfl z
 ·intro t L e;cases e
 ·intro t x e;cases e
 ·intro t n e;cases e
 ·intro z;cases z
 ·intro z;cases z
 ·intro f hf;cases hf
theorem QP {n i:Nat}(hn:1<=n/\n<=5)(hi:i<5):(kv n i).aG 0:=
 ⟨by simp[kv,fy.aU,ia],by simp[kv,fy.aU,ia],by simp[kv,fy.aU,ia,fG.aC],by simp[kv,fy.aU,ia],Hr n hn,⟨by simp[kv,fy.aU,ia,gT],by simp[kv,fy.aU,ia]⟩,by simp[kv,fy.aU,ia],by simp[kv,fy.aU,ia,iA],by simp[kv,fy.aU,ia,fG.aC],by simp[kv,fy.aU],by simp[kv,fy.aU],by simp[kv,fy.aU],by simp[kv,fy.aU],by simp[kv,fy.aU],by simp[kv,fy.aU];omega⟩
theorem yq {n k:Nat}(h:k<(fM.aN n).l.length):(fM.aN n).l[k]=kv n k/\k<5:=by
 have:k<5:=by simpa [fM.aN] using h
 exact⟨by simp[fM.aN],this⟩
theorem Mo {n:Nat}(hn:1<=n/\n<=5):iC (lZ n) 0 0 (fM.aN n):=by
 have l5:(fM.aN n).l.length=5:=by simp[fM.aN]
 have sm:(uP n).aJ 0:=⟨λ_ _ e=>(by cases e),W9 _⟩;have dn:(uP n).aL []:=⟨0,.inl (W9 _)⟩;refine⟨⟨uP n,rfl,Po hn,sm,dn,?_,?_,?_,?_⟩,l5,?_,?_,rfl,rfl⟩;·intro k h;obtain⟨e,h5⟩:=yq h;rw[e];exact QQ hn h5
 ·intro m hm;cases hm
 ·intro i hi;cases hi
 ·intro i t j e;cases e
 ·intro k h;obtain⟨e,h5⟩:=yq h;rw[e];exact⟨rfl,rfl,rfl⟩
 ·intro k h;obtain⟨e,h5⟩:=yq h;rw[e];exact QP hn h5
theorem Mn (n:Nat):kq 0 (fM.aN n):=⟨WX _,WX _,WX _⟩
variable {P:Program}{f1 f2:FuncId}
structure pK where
 aA:Int
 a:Int
 b:Int
def pK.c (m:pK):List D:=[.aA .i64 m.aA,.aA .i64 m.a,.aA .i64 m.b]
def s_ (l:List pK):D:=.sl 3 (l.map pK.c)
theorem SX {F:Nat->Prop}{h:fu}{m:pK}{cs:List AV}(hh:fH F h m.c cs):cs=[ι m.aA,ι m.a,ι m.b]:=by simp only[pK.c,fH,Rd]at hh;obtain⟨_,_,rfl,rfl,_,_,rfl,rfl,_,_,rfl,rfl,rfl⟩:=hh;rfl
def D9:List Ty:=[.aA .i64,.aA .i64,.aA .i64]
theorem Oy {d:List D}(h:jF d D9):∃m:pK,d=m.c/\True:=by obtain⟨_,_,rfl,g1,h⟩:=xE h;obtain⟨_,_,rfl,g2,h⟩:=xE h;obtain⟨_,_,rfl,g3,h⟩:=xE h;cases Fu h;obtain⟨a1,rfl,w1⟩:=Ak g1;obtain⟨a2,rfl,w2⟩:=Ak g2;obtain⟨a3,rfl,w3⟩:=Ak g3;exact⟨⟨a1,a2,a3⟩,rfl,Xb⟩
theorem Oz {d:List D} (h:jF d [.sl 3 D9]):∃l:List pK,d=[s_ l]:=by obtain⟨_,_,rfl,g1,h⟩:=xE h;cases Fu h;obtain⟨es,rfl,h'⟩:=KL g1;obtain⟨l,rfl,hl⟩:=KH (f:=pK.c) (R:=λ_=>True) (λd hd=>Oy hd) h';exact⟨l,rfl⟩
end Glb
