/-
  A library of its own.
-/
import Derived.Test.YtdeiamnhnfmilaaGreatGlbDocD
set_option linter.unusedSimpArgs false
set_option linter.unusedVariables false
set_option maxRecDepth 10000
set_option maxHeartbeats 8000000
namespace Glb
open Go
def DT (P:Program)(f:FuncId):Prop:=fI P f=true/\∀(F:Nat->Prop)(h:eZ)(x:fV)(a:List AV),fu F h x.c a->x.aK->
 fy P f [.aE a] h λr h'=>∃e o n d s,r=.aE (x.aG e o n d s)/\fW x.c (λm=>h.length<=m) h' (x.aG e o n d s)/\eY fj h h'
theorem Jl {P:Program}{f g k b:FuncId}(hf:Is P f (qD g k b))(hg:vn P g)(hk:ot P k)(hb:lj P b .u8):DT P f:=by
 refine⟨hf.2,λF h x a ha hx=>fN hf ?_⟩;obtain⟨e,o,n,d,s,rfl,he,ho,hn,hd,hs⟩:=kW ha;simp only[qD,fV.aG,go_sem,he.aA,ho.aA,hn.aA,hd.aA,hs.aA];obtain⟨H,hH⟩:∃H,H=h++[some (fh.aA 10 [x.aG e o n d s] false)]++[some (.aA 10 [[.aA .i64 0,.aA .i64 0,.aA .i64 0,.aA .i64 0,.aA .i64 0,.aB,.aB,.aB,.aB,.aB]] false)]:=⟨_,rfl⟩;have X:eY fj h H:=by rw[hH];exact eY.b2 _ _
 have A:H[h.length]?=some (some (fh.aA 10 [x.aG e o n d s] false)):=by rw[hH];exact iE _ _ _
 have B:H[h.length+1]?=some (some (fh.aA 10 [[.aA .i64 0,.aA .i64 0,.aA .i64 0,.aA .i64 0,.aA .i64 0,.aB,.aB,.aB,.aB,.aB]] false)):=by rw[hH];exact iq _ _ _
 have lH:H.length=h.length+2:=by rw[hH];simp
 simp only[fV.aG]at hH A;rw[<-hH];clear hH;have e1:=hg.2 F H x.aA _ (fu.up (pS he) X) hx.1;refine fq ⟨hg.1,e1⟩ ?_;rintro _ H2 ⟨e',rfl,oe,ce,X2⟩;have se:=oe.aA;have A2:=X2.aA A;have B2:=X2.aA B;have la:=(U_.1 A2).1;have lb:=(U_.1 B2).1;have ne:(h.length=h.length+1)=False:=Vs (by omega);have ne':(h.length+1=h.length)=False:=Vs (by omega);have X3:∀b,eY fj h (H2.set h.length b):=λb=>(X.tr X2).aD (Vg _) b;have lx2:=X2.1;have kp:∀{Q:eZ}(q:Option fh),gz (λm=>H.length<=m) Q (Q.set h.length q):=λq m hm y hy=>by have hm:H.length<=m:=hm;rw[Vb (by omega)];exact hy
 have U:∀{Q:eZ}(q:Option fh),gz (λm=>H.length<=m) Q (Q.set (h.length+1) q):=λq m hm y hy=>by have hm:H.length<=m:=hm;rw[Vb (by omega)];exact hy
 simp only[go_sem,A2,la,se];have t:=λq=>e_.aB _ (λ_ y=>y) (kp q) _ oe;have rc:=λq=>(nd ho hn hd).up (X3 q);obtain⟨Q,hQ⟩:∃Q,Q=H2.set h.length (some (fh.aA 10 [[.aA .i64 x.aD,.aA .i64 x.aB,.aA .i64 x.aE,.aA .i64 x.aA.aA,.aA .i64 x.aA.aB,e',o,n,d,s]] false)):=⟨_,rfl⟩;have AQ:Q[h.length]?=some (some (fh.aA 10 [[.aA .i64 x.aD,.aA .i64 x.aB,.aA .i64 x.aE,.aA .i64 x.aA.aA,.aA .i64 x.aA.aB,e',o,n,d,s]] false)):=by rw[hQ];exact Vd la
 have BQ:Q[h.length+1]?=some (some (fh.aA 10 [[.aA .i64 0,.aA .i64 0,.aA .i64 0,.aA .i64 0,.aA .i64 0,.aB,.aB,.aB,.aB,.aB]] false)):=by rw[hQ];exact (Vb (by omega)).trans B2
 have t:=t (some (fh.aA 10 [[.aA .i64 x.aD,.aA .i64 x.aB,.aA .i64 x.aE,.aA .i64 x.aA.aA,.aA .i64 x.aA.aB,e',o,n,d,s]] false));have rc:=rc (some (fh.aA 10 [[.aA .i64 x.aD,.aA .i64 x.aB,.aA .i64 x.aE,.aA .i64 x.aA.aA,.aA .i64 x.aA.aB,e',o,n,d,s]] false));have XQ:=X3 (some (fh.aA 10 [[.aA .i64 x.aD,.aA .i64 x.aB,.aA .i64 x.aE,.aA .i64 x.aA.aA,.aA .i64 x.aA.aB,e',o,n,d,s]] false));rw[<-hQ]at t rc XQ ⊢;clear hQ;refine fq ⟨hk.1,hk.2 F Q x.aC _ rc hx.2.1.1 hx.2.1.2.1 hx.2.1.2.2⟩ ?_;rintro _ H4 ⟨o',n',d',rfl,oo,on,od,X4⟩;have A4:=X4.aA AQ;have B4:=X4.aA BQ;have O:=(U_.1 A4).1;have l4b:=(U_.1 B4).1;have E:=oo.aA;have I:=on.aA;have M:=od.aA;have a7:H.length<=Q.length:=by have:=XQ.1;have:=(U_.1 BQ).1;omega
 have lQ:Q.length=Q.length:=rfl;have a4:e_ (f_ x.aA.es) (λm=>H.length<=m) H4 e':=e_.aB _ (λm hm=>hm) (λm hm y hy=>X4.aA hy) _ t;have u:∀{dd:D}{aa:AV},e_ dd (λm=>Q.length<=m) H4 aa->e_ dd (λm=>H.length<=m) H4 aa:=λo=>e_.aB _ (λm hm=>Vr a7 hm) (λ_ _ _ y=>y) _ o;have a0:=u oo;have a2:=u on;have a6:=u od;simp only[go_sem,A4,O,E,I,M];have X5:∀q,eY fj h (H4.set h.length q):=λq=>(XQ.tr X4).aD (Vg _) q;obtain⟨R,hR⟩:∃R,R=H4.set h.length (some (fh.aA 10 [[.aA .i64 x.aD,.aA .i64 x.aB,.aA .i64 x.aE,.aA .i64 x.aA.aA,.aA .i64 x.aA.aB,e',o',n',d',s]] false)):=⟨_,rfl⟩;have AR:R[h.length]?=some (some (fh.aA 10 [[.aA .i64 x.aD,.aA .i64 x.aB,.aA .i64 x.aE,.aA .i64 x.aA.aA,.aA .i64 x.aA.aB,e',o',n',d',s]] false)):=by rw[hR];exact Vd O
 have BR:R[h.length+1]?=some (some (fh.aA 10 [[.aA .i64 0,.aA .i64 0,.aA .i64 0,.aA .i64 0,.aA .i64 0,.aB,.aB,.aB,.aB,.aB]] false)):=by rw[hR];exact (Vb (by omega)).trans B4
 have kR:∀{dd:D}{aa:AV},e_ dd (λm=>H.length<=m) H4 aa->e_ dd (λm=>H.length<=m) R aa:=λo=>by rw[hR];exact e_.aB _ (λ_ y=>y) (kp _) _ o
 have XR:eY fj h R:=by rw[hR];exact X5 _
 have a3:=kR a4;have W:=kR a0;have a1:=kR a2;have a5:=kR a6;rw[<-hR];clear hR;refine fq ⟨hb.1,hb.2 F R x.aF s (hs.up XR) hx.2.2⟩ ?_;rintro s' H6 ⟨os,-,X6⟩;have A6:=X6.aA AR;have B6:=X6.aA BR;have a9:=(U_.1 A6).1;have a8:=(U_.1 B6).1;have C:=os.aA;have lR:H.length<=R.length:=by have:=(U_.1 BR).1;omega
 simp only[go_sem,A6,B6,a9,a8,E,I,M,se,C,ne,Vh,gH C];have k6:∀{dd:D}{aa:AV}(q1 q2:Option fh),e_ dd (λm=>H.length<=m) R aa->e_ dd (λm=>h.length<=m) ((H6.set h.length q1).set (h.length+1) q2) aa:=λq1 q2 o=>e_.aB _ (λm hm=>by have hm:H.length<=m:=hm;show h.length<=m;omega) (λm hm y hy=>U q2 m hm y (kp q1 m hm y (X6.aA hy))) _ o;have ab:∀(q1 q2:Option fh),e_ (fT x.aF) (λm=>h.length<=m) ((H6.set h.length q1).set (h.length+1) q2) s':=λq1 q2=>e_.aB _ (λm hm=>by have hm:R.length<=m:=hm;show h.length<=m;omega) (λm hm y hy=>U q2 m (Vr lR hm) y (kp q1 m (Vr lR hm) y hy)) _ os;refine⟨e',o',n',d',s',rfl,?_,((XR.tr X6).aD (Vg _) _).aD (by omega) _⟩;simp only[fV.c,fW];exact⟨_,_,rfl,rfl,_,_,rfl,rfl,_,_,rfl,rfl,_,_,rfl,rfl,_,_,rfl,rfl,_,_,rfl,k6 _ _ a3,_,_,rfl,k6 _ _ W,_,_,rfl,k6 _ _ a1,_,_,rfl,k6 _ _ a5,_,_,rfl,ab _ _,rfl⟩
def h_.c (a:h_):List D:=[.aA .i64 a.aC,.aA .i64 a.n,.aA .i64 a.m.aD,.aA .i64 a.m.aC,.aA .i64 a.m.to,.aA .i64 a.m.aJ,.aA .i64 a.m.aF,.aA .i64 a.m.aA,.aA .i64 a.m.aI,.aA .i64 a.m.aK,.aA .i64 a.m.aM,.aA .i64 a.m.aQ,.aA .i64 a.m.aO,.aA .i64 a.m.aN,.aA .i64 a.m.aR,.aA .i64 a.m.aP,.aD a.m.ok,f_ a.m.es,fT a.m.aE,fT a.aA]
def pN (l:List h_):D:=.sl 20 (l.map h_.c)
theorem h_.aE (a:h_):D.aB a.c=a.aB:=by simp only[h_.c,h_.aB,D.aB,D.av];rfl
theorem LZ (l:List h_):g_ (pN l).av=some (.aA .i64 l.length):=by have:=(mz fj ([]:eZ) (pN l)).aB;simpa [pN] using this
theorem EX {T:Type}(c:T->List D):∀(l:List T)(i:Nat)(hi:i<l.length),(D.aC (l.map c))[i]?=some (D.aB (c l[i]))
 | _ :: _,0,_=>rfl
 | _ :: l,i+1,hi=>EX c l i (by simpa using hi)
theorem LY {l:List h_}{i:Nat}(hi:i<l.length):iH 20 (pN l).av (.aA .i64 (i:Int))=some (.aN 0 (l[i]).aB):=by have e:=EX h_.c l i hi;simp only[pN,D.av,iH];rw[Vf ⟨Vp,by omega⟩,V6,e,h_.aE];rfl
def h_.R (a:h_):Prop:=gO a.aC/\gO a.n/\a.m.R/\gK a.aA
theorem MB {x:fm}{k:Nat}{c:h_}(hR:x.aD k)(hk:k+200<2^28)(hc:c.aD):(x.bC c).aD (k+200):=by
 unfold fm.bC;split;·exact (Dr hR (by omega) c.n).1.aA (by omega)
 ·split;·exact (xL hR hk hc.m).1
  ·split;·exact (HQ hR (by omega) hc.aA hc.n).1.aA (by omega)
   ·split;·exact (Ik hR (by omega)).1.aA (by omega)
    ·exact (Gz hR (by omega) hc.aA).1.aA (by omega)
theorem DX.aD {L:Nat->Nat}{h:eZ}{r n:Nat}{x:RX}(a:DX L h r x)(hn:n<h.length)(h11:L n=11):DX (λm=>if m=n then 0 else L m) h r x:=by
 obtain⟨g,f,ma,ca,e,co,cn,cl,sn,a⟩:=a;have ne:∀m k,k≠0->k≠11->L m=k->(if m=n then 0 else L m)=k:=λm k _ h2 e=>by rw[Ve (by rintro rfl;omega)];exact e
 have zz:∀m,Zs L h m->Zs (λm=>if m=n then 0 else L m) h m:=λm hm=>⟨by show (if m=n then 0 else L m)=0;split;rfl;exact hm.1,hm.2⟩;refine⟨g,f,ma,ca,e,co,cn,cl,sn,a.aA,λp hp=>⟨λz=>?_,λz=>Rd.aC zz (λ_ _ _ y=>y) _ _ ((a.aB p hp).2 z)⟩,ne _ 10 (by decide) (by decide) a.lr,λm hm=>?_⟩;·obtain⟨sz,ds,rows,e1,c,d⟩:=(a.aB p hp).1 z;have dp:=kt hp;exact⟨sz,ds,rows,e1,c.aA (λm hm _=>ne m p.1 (by omega) (by omega) hm) (λ_ _ _=>rfl),gC.aA zz (λ_ _ _ y=>y) _ _ d⟩
 ·by_cases c:m=n
  ·rw[c];exact hn
  ·have hm:(if m=n then 0 else L m)≠0:=hm;rw[Ve c]at hm;exact a.lt m hm
theorem Ra {P:Program}{f f1 f2 f3 f4 f5 f6 f7 f8 f9 f10 f11:FuncId}(hf:Is P f (zO f1 f2 f3 f4 f5 f6 f7 f8 f9 f10 f11))(u1:En P f1)(u2:yI P f2)(u3:tK P f3)(u4:DT P f4)(u5:wh P f5)(u6:yi P f6)(u7:wy P f7)(u8:qw P f8 oW)(u9:DI P f9)(u10:yl P f10)(u11:xV P f11)
  (id:Int) (h0:fV) (l:List h_) (hR:h0.R) (lR:∀c∈l,c.R) (h:eZ):fy P f [.aA .i64 id,.aE h0.v,(pN l).av] h λv h'=>v=.aD true/\h'=h:=by
 refine fy.aB (K:=λv h'=>v=.aD true/\eY fj h h') (fN hf ?_) (λr _ ⟨e,hx⟩=>⟨hx,r,by rw[e];exact gM.aD _,e⟩)
 have ll:=LZ l
 have lat:=λi hi=>LY (l:=l) (i:=i) hi
 generalize (pN l).av=la at *
 simp only[zO,fV.aM,go_sem,n7,iB,l7]
 obtain⟨H1,hH1⟩:∃H1,H1=h++[some (fh.aA 10 [h0.aG (iD h0.aA.es) (fA h0.aC.aA) (fA h0.aC.aB) (fA h0.aC.aC) (gV h0.aF)] false)]:=⟨_,rfl⟩
 have X1:eY fj h H1:=by rw[hH1];exact eY.b1 _
 have B1:H1[h.length]?=some (some (fh.aA 10 [h0.aG (iD h0.aA.es) (fA h0.aC.aA) (fA h0.aC.aB) (fA h0.aC.aC) (gV h0.aF)] false)):=by rw[hH1];exact gh _ _
 have l1:H1.length=h.length+1:=by rw[hH1];simp
 simp only[fV.aG]at hH1 B1
 have rh:=qV h0 H1
 rw[<-hH1]
 clear hH1
 refine fq ⟨u1.1,u1.2 fj H1 h0 _ rh⟩ ?_
 rintro _ h2 ⟨⟨b,rfl,hb⟩,e2⟩
 rw[e2]
 clear e2 h2
 cases b
 ·simp only[go_sem,Vt]
  refine fR u2.1 (u2.2 _) ?_
  simp only[go_sem]
  exact X1
 have ok:=hb rfl
 have p7:=QI (k:=id) (n:=7) (by omega)
 obtain⟨n,en⟩:∃n:Int,IntKind.i64.wrap (1+lI id 7)=n:=⟨_,rfl⟩
 have hn:1<=n/\n<=7:=by rw[fQ (by omega)]at en;omega
 have fk:(fm.bA n h0 (l.length:Int)).aD 500:=ok.aC (λe he=>⟨(hR.2.2.2.1.2.2 e he).2.2,(hR.2.2.2.1.2.2 e he).1,(hR.2.2.2.1.2.2 e he).2.1⟩) hR.2.2.2.2.2 ⟨hR.1,hR.2.2.1⟩ _ hn
 have hfew:h0.aK:=⟨fk.aQ (by omega),(kP ok.aB).le (by decide),by have:=fk.aX.2;have e:(fm.bA n h0 (l.length:Int)).aA=h0:=rfl;rw[e]at this;omega⟩
 simp only[go_sem,Vq]
 refine pz.aA u3.1 (u3.2 id 7 (by omega)) ?_
 simp only[go_sem,en,B1]
 refine fq ⟨u4.1,u4.2 fj H1 h0 _ rh hfew⟩ ?_
 rintro _ H2 ⟨e,o,nn,d,s,rfl,ol,X2⟩
 have rin:fu (λ_=>True) H2 h0.c (h0.aG e o nn d s):=fW.rd _ (F':=λ_=>True) (λ_ _=>Vp) _ ol
 obtain⟨e',o',n',d',s',ec,qe,qo,qn,qd,qs⟩:=kW rin
 obtain⟨rfl,rfl,rfl,rfl,rfl⟩:e=e'/\o=o'/\nn=n'/\d=d'/\s=s':=by simpa [fV.aG] using ec
 have se:=qe.aA
 have so:=qo.aA
 have sn:=qn.aA
 have sd:=qd.aA
 have ss:=qs.aA
 simp only[fV.aG,go_sem,se,so,sn,sd,ss]
 obtain⟨H3,hH3⟩:∃H3,H3=H2++[some (fh.aA 10 [h0.aG e o nn d s] false)]:=⟨_,rfl⟩
 have X23:eY fj H2 H3:=by rw[hH3];exact eY.b1 _
 have B7:H3[H2.length]?=some (some (fh.aA 10 [h0.aG e o nn d s] false)):=by rw[hH3];exact gh _ _
 have l3:H3.length=H2.length+1:=by rw[hH3];simp
 simp only[fV.aG]at hH3 B7
 rw[<-hH3]
 clear hH3
 have B4:=X23.aA (X2.aA B1)
 have X03:=(X1.tr X2).tr X23
 have lx2:=X2.1
 have C4:∀y,(H3++[y])[h.length]?=_:=λy=>(eY.b1 y).aA B4
 have C7:∀y,(H3++[y])[H2.length]?=_:=λy=>(eY.b1 y).aA B7
 have N4:∀sz i o,gN H3.length 1 (.aC h.length sz i o)=true:=λsz i o=>iv (by omega)
 have N7:∀sz i o,gN H3.length 1 (.aC H2.length sz i o)=true:=λsz i o=>iv (by omega)
 rw[<-l3]
 simp only[go_sem,iN,ll,C4,N4]
 have rin3:fu (λ_=>True) (H3++[none]) h0.c [.aA .i64 h0.aD,.aA .i64 h0.aB,.aA .i64 h0.aE,.aA .i64 h0.aA.aA,.aA .i64 h0.aA.aB,e,o,nn,d,s]:=fu.up rin (X23.tr (eY.b1 none))
 have hl5:h0.aA.es.length<=500:=fk.aR
 have hb5:=ok.aA
 refine fq ⟨u5.1,u5.2 _ (H3++[none]) n h0 _ l.length rin3 (fk.aB (by omega)) hfew.2.1 hfew.2.2 ⟨by omega,hb5.1,by omega⟩⟩ ?_
 rintro _ H4 ⟨r,rfl,hr,row,X4⟩
 have D4:=X4.aA (C4 none)
 have D7:=X4.aA (C7 none)
 have D8:=X4.aA (gh H3 none)
 have n34:(H3.length=h.length)=False:=Vs (by omega)
 have n37:(H3.length=H2.length)=False:=Vs (by omega)
 have l34:H3.length<H4.length:=(U_.1 D8).1
 have x4:=X4.1
 simp only[kU]at hr x4
 have rowl:=(U_.1 row).1
 have e44:H4.set H3.length none=H4:=by
  apply VT
  intro q
  by_cases c:H3.length=q
  ·subst c;rw[Vd l34];exact D8.symm
  ·exact Vb c
 simp only[go_sem,iN,D4,D7,D8,kK,n34,n37,l34,e44,V8,or_true]
 refine fq ⟨u6.1,u6.2 fj H4 n h0 _ l.length (qV h0 H4) hfew⟩ ?_
 rintro _ H5 ⟨r',rfl,hr',hdx,X5⟩
 obtain⟨L5,d5,l5⟩:=hdx (λm=>if m<h.length then 0 else 11) (λm=>by show (if _ then _ else _)=0\/(if _ then _ else _)=11;split;exact .inl rfl;exact .inr rfl)
 have E4:=X5.aA D4
 have E7:=X5.aA D7
 have E8:=X5.aA D8
 have l35:H3.length<H5.length:=(U_.1 E8).1
 have x5:=X5.1
 simp only[go_sem,iN,E4,E7,E8,kK,n34,n37,l35,V8,or_true]
 obtain⟨H6,hH6⟩:∃H6,H6=H5.set H3.length (some (fh.aA 2 [[.aC r 21 0 0,.aC r' 26 0 0]] false)):=⟨_,rfl⟩
 have F8:H6[H3.length]?=some (some (fh.aA 2 [[.aC r 21 0 0,.aC r' 26 0 0]] false)):=by rw[hH6];exact Vd l35
 have l6:H6.length=H5.length:=by rw[hH6];simp
 have k6:∀m,m≠H3.length->H6[m]?=H5[m]?:=λm hm=>by rw[hH6];exact Vb (λz=>hm z.symm)
 have F4:=(k6 h.length (by omega)).trans E4
 have F7:=(k6 H2.length (by omega)).trans E7
 rw[<-hH6]
 clear hH6
 simp only[go_sem,F4,F7,Io,HN,show (false != false)=false from rfl]
 have L8:L5 H3.length=11:=(l5 _ l34).trans (Ve (by omega))
 have d6:DX L5 H6 r' (fm.bA n h0 l.length).aC:=d5.aA (by omega) (λ_ _=>rfl) (λm _ h11=>k6 m (by rintro rfl;exact h11 L8)) (λm hm=>by rw[l6];exact d5.lt hm)
 have m6:iu (λm=>if m=r then 6 else 0) H6 r (fm.bA n h0 l.length):=((Hw row).up X5).aC (by omega) (λm hm=>k6 m (by rintro rfl;exact hm (Ve (by omega))))
 have r6:H6[r]?=some (some (.aA 21 [(fm.bA n h0 l.length).aJ .aB .aB] false)):=(k6 r (by omega)).trans (X5.aA row)
 have rn6:fu (λ_=>True) H6 h0.c [.aA .i64 h0.aD,.aA .i64 h0.aB,.aA .i64 h0.aE,.aA .i64 h0.aA.aA,.aA .i64 h0.aA.aB,e,o,nn,d,s]:=
  fu.aA (F:=λm=>m<H2.length) (λ_ _=>Vp) (λm hm y hy=>by have hm:m<H2.length:=hm;exact (k6 m (by omega)).trans ((((X23.tr (eY.b1 none)).tr X4).tr X5).aA hy)) _ _ (fu.aA (λm hm=>hm.2) (λ_ _ _ y=>y) _ _ (fu.lt _ _ rin))
 have sh:=u7.2 _ fj H6 h0 h0 _ _ rn6 (qV h0 H6) hfew
 simp only[decide_true]at sh
 refine fR u7.1 sh ?_
 simp only[go_sem,F7,Vq]
 have oT:gW oW (λm=>H1.length<=m/\m<H2.length) H6 [.aA .i64 h0.aD,.aA .i64 h0.aB,.aA .i64 h0.aE,.aA .i64 h0.aA.aA,.aA .i64 h0.aA.aB,e,o,nn,d,s]:=by
  have o1:=fW.aA (F':=λm=>H1.length<=m/\m<H2.length) _ (λm hm=>hm) (λ_ _ _ y=>y) _ (fW.lt _ _ ol)
  exact gW.aB _ (λ_ y=>y) (λm hm y hy=>(k6 m (by have:=hm.2;omega)).trans ((((X23.tr (eY.b1 none)).tr X4).tr X5).aA hy)) _ (fW.ty _ _ _ (G4 hfew) o1)
 refine fq ⟨u8.1,u8.2 _ H6 _ oT (λm hm=>by have:=hm.2;omega)⟩ ?_
 rintro _ H7 ⟨X7,-⟩
 have x7:=X7.1
 have G8:=(X7.2 H3.length (by omega) (λz=>by have:=z.2;omega)).trans F8
 have m7:iu (λm=>if m=r then 6 else 0) H7 r (fm.bA n h0 l.length):=m6.aC x7 (λm hm=>X7.2 m (m6.aA m hm).1 (λz=>hm (Ve (by have:=z.2;omega))))
 have d7:DX (λm=>if m=H3.length then 0 else L5 m) H7 r' (fm.bA n h0 l.length).aC:=(d6.aA x7 (λ_ _=>rfl) (λm hm h11=>X7.2 m hm (λz=>h11 ((l5 m (by have:=z.2;omega)).trans (Ve (by have:=z.1;omega))))) (λm hm=>by have:=d6.lt hm;omega)).aD (by omega) L8
 have p7':oI (λm=>if m=r then 6 else 0) (λm=>if m=H3.length then 0 else L5 m) H7 r r' (fm.bA n h0 l.length):=⟨m7,d7,λq hq=>by
  obtain rfl:q=r:=Vm λz=>hq (Ve z)
  show (if q=H3.length then 0 else L5 q)=11
  rw[Ve (by omega),l5 q rowl];exact Ve (by omega)⟩
 have X07:eY fj h H7:=⟨by omega,λm hm _=>(X7.2 m (by omega) (λz=>by have:=z.1;omega)).trans ((k6 m (by omega)).trans ((((X03.tr (eY.b1 none)).tr X4).tr X5).2 m hm (λz=>z)))⟩
 have z8:(λm=>if m=H3.length then 0 else L5 m) H3.length=0:=Vf rfl
 have z0:∀m,m<h.length->(λm=>if m=H3.length then 0 else L5 m) m=0:=λm hm=>by
  show (if m=H3.length then 0 else L5 m)=0
  rw[Ve (by omega),l5 m (by omega)];exact Vf hm
 simp only[go_sem]
 obtain⟨I,hI⟩:∃I:Nat->fY->eZ->Prop,∀q Le h',I q Le h'↔∃(i:Nat)(Lr Lm:Nat->Nat)(x:fm),(lk 2 Le=la/\lk 8 Le=.aC H3.length 2 0 0/\lk 9 Le=.aA .i64 i)/\oI Lr Lm h' r r' x/\x.aD (500+200*i)/\h'[H3.length]?=some (some (fh.aA 2 [[.aC r 21 0 0,.aC r' 26 0 0]] false))/\Lm H3.length=0/\(∀m,m<h.length->Lm m=0)/\eY fj h h'/\i<=80/\q=80-i:=⟨_,λ_ _ _=>Wu⟩
 refine gJ I 80 ((hI _ _ _).2 ⟨0,_,_,_,⟨by simp[fi,ga],by simp[fi],by simp[fi]⟩,p7',fk,G8,z8,z0,X07,by omega,by omega⟩) ?_
 clear G8 z8 z0 X07 p7' m7 d7 x7 X7
 intro q Le h' hh
 obtain⟨i,Lr,Lm,x,⟨k2,k8,k9⟩,p,fx,b8,m8,z0,X,hi,rfl⟩:=(hI _ _ _).1 hh
 clear hh
 have ew:IntKind.i64.wrap ((i:Int)+1)=((i+1:Nat):Int):=by rw[fQ (by omega)];omega
 have stop:fy P f2 [] h' λv h''=>v=.aD true/\h''=h':=u2.2 h'
 by_cases c1:i<l.length
 case neg=>
  have c1':¬(i:Int)<l.length:=by omega
  simp only[wR,go_sem,k2,k9,ll,Va c1']
  refine fR u2.1 stop ?_
  simp only[go_sem]
  exact X
 by_cases c2:i<80
 case neg=>
  have c1':(i:Int)<l.length:=by omega
  have c2':¬(i:Int)<80:=by omega
  simp only[wR,go_sem,k2,k9,ll,Vc c1',Va c2']
  refine fR u2.1 stop ?_
  simp only[go_sem]
  exact X
 have c1':(i:Int)<l.length:=by omega
 have c2':(i:Int)<80:=by omega
 have ix:=lat i c1
 have cR:=lR _ (VU c1)
 obtain⟨c,hc⟩:∃c,c=l[i]:=⟨_,rfl⟩
 rw[<-hc]at ix cR
 have rm:fu fj h' c.m.c (c.m.aB (iD c.m.es) (gV c.m.aE)):=sV (uP _ _ _) (kO _ _ _)
 have bm:=u9.2 fj h' c.m _ 200 8192 rm ⟨by omega,by omega⟩ ⟨by omega,by omega⟩
 have la2:g_ (gV c.aA)=some (.aA .i64 c.aA.length):=(kO fj h' c.aA).aG
 simp only[h_.aB]at ix
 simp only[fB.aB]at bm
 simp only[wR,go_sem,k2,k9,ll,Vc c1',Vc c2',ix]
 refine fq ⟨u9.1,bm⟩ ?_
 rintro _ H9 ⟨b,rfl,e9,hbm⟩
 rw[e9]
 clear e9 H9
 have afv:∀(o:Nat)(cs:List AV),pC o (.aN 0 cs)=some (.aN 0 (cs.drop o)):=λ_ _=>rfl
 have alv:∀(H:eZ)(agg:Bool)(m:Nat)(cs:List AV),gX H agg m (.aN 0 cs)=nD agg m cs:=λH agg m cs=>hP rfl agg m
 cases b
 case true=>
  simp only[go_sem]
  refine fR u2.1 stop ?_
  simp only[go_sem]
  exact X
 by_cases c3:(8192:Int)<c.aA.length
 ·simp only[go_sem,k2,k9,ix,afv,alv,la2,Vc c3]
  refine fR u2.1 stop ?_
  simp only[go_sem]
  exact X
 by_cases c4:1099511627776<c.m.aF
 ·simp only[go_sem,k2,k9,ix,afv,alv,la2,Va c3,Vc c4]
  refine fR u2.1 stop ?_
  simp only[go_sem]
  exact X
 by_cases c5:c.m.aA<0
 ·simp only[go_sem,k2,k9,ix,afv,alv,la2,Va c3,Va c4,Vc c5]
  refine fR u2.1 stop ?_
  simp only[go_sem]
  exact X
 by_cases c6:1099511627776<c.m.aA
 ·simp only[go_sem,k2,k9,ix,afv,alv,la2,Va c3,Va c4,Va c5,Vc c6]
  refine fR u2.1 stop ?_
  simp only[go_sem]
  exact X
 by_cases c7:c.m.aI<0
 ·simp only[go_sem,k2,k9,ix,afv,alv,la2,Va c3,Va c4,Va c5,Va c6,Vc c7]
  refine fR u2.1 stop ?_
  simp only[go_sem]
  exact X
 by_cases c8:1099511627776<c.m.aI
 ·simp only[go_sem,k2,k9,ix,afv,alv,la2,Va c3,Va c4,Va c5,Va c6,Va c7,Vc c8]
  refine fR u2.1 stop ?_
  simp only[go_sem]
  exact X
 have eL:(2:Int)^40=1099511627776:=by decide
 obtain⟨⟨hb1,hb2⟩,hb3⟩:=hbm rfl
 have cm:=cR.2.2.1
 have hes:∀e∈c.m.es,e.aD:=λe he=>by
  have a:=cm.2.2.2.2.2.2.2.2.2.2.2.2.2.2.1 e he
  have b:=hb2 e he
  exact⟨⟨a.2.2,by omega⟩,a.1,a.2.1⟩
 have cf:c.aD:=⟨⟨⟨by simpa using hb1,hes⟩,⟨cm.2.2.2.2.2.2.2.2.2.2.2.2.2.2.2,by omega⟩,by rw[eL];omega,⟨cm.2.1,cm.2.2.2.2.2.2.1⟩,λ_=>by rw[eL];omega⟩,⟨cR.2.2.2,by omega⟩,cR.2.1⟩
 simp only[go_sem,k2,k8,k9,ix,afv,alv,la2,Va c3,Va c4,Va c5,Va c6,Va c7,Va c8,b8]
 have dd:=u10.2 Lr Lm h' r r' x (500+200*i) c p fx (by omega) cf
 simp only[h_.aB]at dd
 refine fq ⟨u10.1,dd⟩ ?_
 rintro _ h2 ⟨rfl,Lr2,Lm2,p2,l2,X2⟩
 have g8:=(X2.2 _ (U_.1 b8).1 (λz=>z m8)).trans b8
 have x2:=X2.1
 have xl:=X.1
 have fx2:=MB fx (by omega) cf
 rw[gF]
 simp only[go_sem,k2,k8,k9,ix,afv,alv,g8,Vq]
 refine fq ⟨u11.1,u11.2 Lr2 Lm2 h2 r r' _ (500+200*i+200) c.n p2 fx2 (by omega)⟩ ?_
 rintro _ h3 ⟨rfl,X3⟩
 have g83:=X3.aA g8
 rw[gF]
 simp only[go_sem,k9,alv,g83,Vq,ew]
 have n8:=(U_.1 b8).1
 exact⟨_,by omega,(hI _ _ _).2 ⟨i+1,Lr2,Lm2,_,⟨by simp[fi,k2],by simp[fi,k8],by simp[fi]⟩,⟨p2.m.up X3,p2.d.up X3,p2.a⟩,by rw[show 500+200*(i+1)=500+200*i+200 by omega];exact fx2,g83,(l2 _ n8).trans m8,λm hm=>(l2 m (by omega)).trans (z0 m hm),⟨by have:=X3.1;omega,λm hm _=>(X3.2 m (by omega) (λz=>z)).trans ((X2.2 m (by omega) (λz=>z (z0 m hm))).trans (X.2 m hm (λz=>z)))⟩,by omega,rfl⟩⟩
def yU:List Ty:=[.aA .i64,.aA .i64,.aA .i64,.aA .i64,.aA .i64,.aA .i64,.aA .i64,.aA .i64,.aA .i64,.aA .i64,.aA .i64,.aA .i64,.aA .i64,.aA .i64,.aA .i64,.aA .i64,.aB,.sl 3 uq,.sl 1 [.aA .u8],.sl 1 [.aA .u8]]
theorem Ns {d:List D}(h:iw d yU):∃c:h_,d=c.c/\c.R:=by obtain⟨_,_,rfl,g1,h⟩:=ir h;obtain⟨_,_,rfl,g2,h⟩:=ir h;obtain⟨_,_,rfl,g3,h⟩:=ir h;obtain⟨_,_,rfl,g4,h⟩:=ir h;obtain⟨_,_,rfl,g5,h⟩:=ir h;obtain⟨_,_,rfl,g6,h⟩:=ir h;obtain⟨_,_,rfl,g7,h⟩:=ir h;obtain⟨_,_,rfl,g8,h⟩:=ir h;obtain⟨_,_,rfl,g9,h⟩:=ir h;obtain⟨_,_,rfl,ak,h⟩:=ir h;obtain⟨_,_,rfl,aj,h⟩:=ir h;obtain⟨_,_,rfl,ai,h⟩:=ir h;obtain⟨_,_,rfl,ah,h⟩:=ir h;obtain⟨_,_,rfl,ag,h⟩:=ir h;obtain⟨_,_,rfl,af,h⟩:=ir h;obtain⟨_,_,rfl,ae,h⟩:=ir h;obtain⟨_,_,rfl,ad,h⟩:=ir h;obtain⟨_,_,rfl,ac,h⟩:=ir h;obtain⟨_,_,rfl,ab,h⟩:=ir h;obtain⟨_,_,rfl,a0,h⟩:=ir h;cases qh h;obtain⟨a1,rfl,w1⟩:=jg g1;obtain⟨a2,rfl,w2⟩:=jg g2;obtain⟨a3,rfl,w3⟩:=jg g3;obtain⟨a4,rfl,w4⟩:=jg g4;obtain⟨a5,rfl,w5⟩:=jg g5;obtain⟨a6,rfl,w6⟩:=jg g6;obtain⟨a7,rfl,w7⟩:=jg g7;obtain⟨a8,rfl,w8⟩:=jg g8;obtain⟨a9,rfl,w9⟩:=jg g9;obtain⟨b7,rfl,W⟩:=jg ak;obtain⟨b0,rfl,U⟩:=jg aj;obtain⟨ay,rfl,O⟩:=jg ai;obtain⟨ax,rfl,M⟩:=jg ah;obtain⟨aw,rfl,I⟩:=jg ag;obtain⟨au,rfl,E⟩:=jg af;obtain⟨aq,rfl,C⟩:=jg ae;obtain⟨ap,rfl⟩:=Jv ad;obtain⟨ao,rfl,u⟩:=GR ac;obtain⟨an,rfl,t⟩:=xh ab;obtain⟨am,rfl,b⟩:=xh a0;exact⟨⟨a1,a2,⟨a3,a4,a5,a6,a7,a8,a9,b7,b0,ay,ax,aw,au,aq,ap,ao,an⟩,am⟩,rfl,jA w1,jA w2,⟨jA w3,jA w4,jA w5,jA w6,jA w7,jA w8,jA w9,jA W,jA U,jA O,jA M,jA I,jA E,jA C,u,t⟩,b⟩
theorem Nt {d:List D} (h:iw d [.sl 20 yU]):∃l:List h_,d=[pN l]/\∀c∈l,c.R:=by obtain⟨_,_,rfl,g1,h⟩:=ir h;cases qh h;obtain⟨es,rfl,h'⟩:=vM g1;obtain⟨l,rfl,hl⟩:=vL (f:=h_.c) (R:=h_.R) (λd hd=>Ns hd) h';exact⟨l,rfl,hl⟩
end Glb
