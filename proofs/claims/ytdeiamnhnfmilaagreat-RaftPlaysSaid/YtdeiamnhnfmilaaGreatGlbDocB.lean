/-
  A library of its own.
-/
import Derived.Test.YtdeiamnhnfmilaaGreatGlbDocA
set_option linter.unusedSimpArgs false
set_option linter.unusedVariables false
set_option maxRecDepth 10000
set_option maxHeartbeats 8000000
namespace Glb
open Go
def gQ (L:Nat->Nat)(h:eZ)(r:Nat)(y:RX)(v:AV)(h':eZ):Prop:=
 (∃ma ca aa,v=.aE [ma,ca,aa,.aA .i64 y.o.aA,.aD y.o.aB]/\Rd (λm=>L m≠11) h' (ks y.o.aD) ma/\Rd (λm=>L m≠11) h' (jQ y.o.aC) ca/\Rd (λm=>L m≠11) h' (f_ y.o.aF) aa)/\fX L h r ⟨y.r,hM.aE⟩ h'
section
variable {L:Nat->Nat} {h h' H:eZ} {r:Nat} {x y:RX} {g f ma ca e co cn cl sn v:AV}
theorem gT.aN (a:gT L h r x g f ma ca e co cn cl sn)(hx:eY fj h H){n:Nat}(hn:h.length<=n)(hl:n<H.length):gT (λm=>if m=n then 12 else L m) H r x g f ma ca e co cn cl sn:=by
 have lr:=(U_.1 a.aA).1;refine⟨hx.aA a.aA,λp hp=>(a.aB p hp).aC (kt hp) hx.1 (λm hm _=>Ve (by omega)) λm hm _=>hx.2 m hm (λy=>y),(Ve (by omega)).trans a.lr,λm hm=>?_⟩;by_cases c:m=n;·omega
 ·simp only[c,VO]at hm;exact Vy (a.lt m hm) hx.1
theorem fX.aJ {n:Nat}(hn:h.length<=n)(hx:eY fj h H)(a:fX (λm=>if m=n then 12 else L m) H r x h'):fX L h r x h':=by obtain⟨L',d,l,e⟩:=a;have hh:=hx.1;exact⟨L',d,λm hm=>(l m (by omega)).trans (Ve (by omega)),hx.aB e (λ_ _ z=>z.elim) λm hm z=>by have z:(if m=n then 12 else L m)≠0/\(if m=n then 12 else L m)≠11:=z;rwa [Ve (by omega)]at z⟩
theorem gT.aL {x':RX}{g' f' ma' ca' e' co' cn' cl' sn':AV}(a:gT L h r x g f ma ca e co cn cl sn)(js:List Nat)(hp:dl x' g' f' ma' ca' e' co' cn' cl' sn'=js.foldl su (dl x g f ma ca e co cn cl sn))
  (hr:H[r]?=some (some (.aA 26 [x'.aB g' f' ma' ca' e' co' cn' cl' sn'] false))) (hl:h.length<=H.length) (hk:∀m,m<h.length->L m<=9\/L m=11->H[m]?=h[m]?):fX L h r x' H:=by
 refine⟨L,⟨g',f',ma',ca',e',co',cn',cl',sn',hr,λp h1=>?_,a.lr,λm hm=>Vy (a.lt m hm) hl⟩,λ_ _=>rfl,hl,λm hm hn=>hk m hm (by have hn:¬(L m≠0/\L m≠11):=hn;omega)⟩;rw[hp]at h1;rcases xb h1 with c | ⟨k,sz,rfl⟩;·have d:=kt c;exact (a.aB p c).aA d hl (λ_ _=>rfl) λm hm hl=>hk m hm (.inl (by omega))
 ·exact iY.aB L _ k sz
theorem gQ.aC {n:Nat}(hn:h.length<=n)(ln:L n≠11)(hx:eY fj h H)(a:gQ (λm=>if m=n then 12 else L m) H r x v h'):gQ L h r x v h':=by
 have k:∀m,(if m=n then 12 else L m)≠11->L m≠11:=λm hm=>by
  by_cases c:m=n
  ·subst c;exact ln
  ·rwa [Ve c]at hm
 obtain⟨⟨ma,ca,aa,e,r1,r2,r3⟩,b⟩:=a;exact⟨⟨ma,ca,aa,e,Rd.aC k (λ_ _ _ y=>y) _ _ r1,Rd.aC k (λ_ _ _ y=>y) _ _ r2,Rd.aC k (λ_ _ _ y=>y) _ _ r3⟩,b.aJ hn hx⟩
theorem gQ.aB {n:Nat}(hn:h.length<=n)(hl:n<H.length)(hx:eY fj h H)(a:gQ (λm=>if m=n then 11 else L m) H r x v h')(b:Option fh):gQ L h r x v (h'.set n b):=by
 have k:∀m,(if m=n then 11 else L m)≠11->L m≠11:=λm hm=>by
  by_cases c:m=n
  ·exact absurd (Vf c) hm
  ·rwa [Ve c]at hm
 have kp:gz (λm=>(if m=n then 11 else L m)≠11) h' (h'.set n b):=λm hm y hy=>(Vb (by rintro rfl;exact hm (Vf rfl))).trans hy;obtain⟨⟨ma,ca,aa,e,r1,r2,r3⟩,L',⟨g,f,t,u,e2,co,cn,cl,sn,d⟩,l,x2⟩:=a;have ln:L' n=11:=(l n hl).trans (Vf rfl);have hh:=hx.1;have h2:=x2.1;refine⟨⟨ma,ca,aa,e,Rd.aC k kp _ _ r1,Rd.aC k kp _ _ r2,Rd.aC k kp _ _ r3⟩,L',⟨g,f,t,u,e2,co,cn,cl,sn,(Vb (by rintro rfl;rw[d.lr]at ln;omega)).trans d.aA,λp hp=>?_,d.lr,λm hm=>by rw[Vh];exact d.lt m hm⟩,λm hm=>(l m (by omega)).trans (Ve (by omega)),⟨by rw[Vh];omega,λm hm hz=>?_⟩⟩;·have q:=kt hp;exact (d.aB p hp).aA q (by rw[Vh];exact Vg _) (λ_ _=>rfl) λm hm hl=>Vb (by rintro rfl;omega)
 ·rw[Vb (by omega),x2.2 m (by omega) (λz=>hz (by have z:(if m=n then 11 else L m)≠0/\(if m=n then 11 else L m)≠11:=z;rwa [Ve (by omega)]at z))];exact hx.2 m hm (λz=>z)
theorem DX.aB (a:DX L h r x)(hx:eY fj h H){n:Nat}(hn:h.length<=n)(hl:n<H.length):DX (λm=>if m=n then 11 else L m) H r x:=by
 obtain⟨g,f,ma,ca,e,co,cn,cl,sn,a⟩:=a;have lr:=(U_.1 a.aA).1;refine⟨g,f,ma,ca,e,co,cn,cl,sn,hx.aA a.aA,λp hp=>(a.aB p hp).aC (kt hp) hx.1 (λm hm _=>Ve (by omega)) λm hm _=>hx.2 m hm (λy=>y),(Ve (by omega)).trans a.lr,λm hm=>?_⟩;by_cases c:m=n;·omega
 ·simp only[c,VO]at hm;exact Vy (a.lt m hm) hx.1
theorem DX.z (a:DX L h r x){m:Nat}(hm:h.length<=m):L m=0:=let⟨_,_,_,_,_,_,_,_,_,b⟩:=a;b.z hm
end
def RX.aZ (x:RX):RX:=if x.r.aI<=x.r.aO then x else ⟨{x.r with aO:=x.r.aI},{x.o with aA:=x.r.aO+1,aF:=x.r.aA.aA.aE (x.r.aO+1) (x.r.aI-x.r.aO)}⟩
theorem GG {P:Program}{f1 f2 f3 f4:FuncId}(u4:kS P f4){L:Nat->Nat}{h:eZ}{r n2:Nat}{x:RX}{g f ma ca e co cn cl sn:AV}{k:Nat}(a:gT L h r x g f ma ca e co cn cl sn)(hR:x.r.aD k)(hk:k<=2^28) (hz:x.o.aF=[]/\x.o.aA=0)
  {Λ:fY} (k0:lk 0 Λ=.aC r 26 0 0) (k2:lk 2 Λ=.aC n2 5 0 0) {bs:List AV} (hb:h[n2]?=some (some (.aA 5 [bs] false))) (lb:bs.length=5) (hn:L n2=12) {K:AV->eZ->Prop} (hK:∀v h',gQ L h r x.aZ v h'->K v h'):
  vc P (mI f1 f2 f3 f4).aA.tl.tl.tl ⟨Λ,[],h⟩ (ia (mI f1 f2 f3 f4).aB K):=by
 unfold RX.aZ at hK;have row:=a.aA;have lr:=(U_.1 row).1;have ln:=(U_.1 hb).1;have nr:n2≠r:=by rintro rfl;rw[a.lr]at hn;omega
 obtain⟨s1,s2,s3,s4,s5,s6,s7,s8,s9⟩:=a.sc;have R1:∀y,(h++[y])[r]?=_:=λy=>(eY.b1 y).aA row;obtain⟨H,hH⟩:∃H,H=h++[some (fh.aA 5 [[ma,ca,.aB,.aA .i64 0,.aD x.o.aB]] false)]:=⟨_,rfl⟩;have X:eY fj h H:=by rw[hH];exact eY.b1 _
 have l1:H.length=h.length+1:=by rw[hH];simp
 have B1:H[h.length]?=some (some (fh.aA 5 [[ma,ca,.aB,.aA .i64 0,.aD x.o.aB]] false)):=by rw[hH];exact gh _ _
 have aH:=a.up X;have T1:=aH.aD (x':=⟨x.r,hM.aE⟩) (g':=g) (f':=f) (ma':=.aB) (ca':=.aB) (e':=e) (co':=co) (cn':=cn) (cl':=cl) (sn':=sn) [2,3] rfl;have C:=aH.aA;have a7:=(U_.1 C).1;have a6:(r=h.length)=False:=Vs (by omega);have a4:(h.length=r)=False:=Vs (by omega);simp only[RX.aB]at row C T1;simp only[hM.aE]at T1;obtain⟨E,hE⟩:∃E,E=(mI f1 f2 f3 f4).aA.tl.tl.tl.tl.tl:=⟨_,rfl⟩;have a1:=hE;simp only[mI,AC.aA,fC]at a1;simp only[mI,AC.aA,fC];rw[<-a1];clear a1;simp only[go_sem,k0,row,s3,s4];rw[<-hH];clear hH;simp only[go_sem,C];clear T1;generalize hG:H.set r _=H2;have l2:H2.length=h.length+1:=by rw[<-hG,Vh,l1]
 have a0:∀m,m<h.length->m≠r->H2[m]?=h[m]?:=λm hm hr=>by rw[<-hG,Vb (λz=>hr z.symm)];exact X.2 m hm (λz=>z)
 have t:H2[r]?=some (some (.aA 26 [({r:=x.r,o:=hM.aE}:RX).aB g f .aB .aB e co cn cl sn] false)):=by rw[<-hG];exact Vd a7
 have B2:H2[h.length]?=some (some (fh.aA 5 [[ma,ca,.aB,.aA .i64 0,.aD x.o.aB]] false)):=by rw[<-hG,Vb (by omega)];exact B1
 have af:H2[n2]?=some (some (.aA 5 [bs] false)):=(a0 n2 ln nr).trans hb;clear hG;have RM:∀HF:eZ,(∀m,m<h.length->L m<=9\/L m=11->HF[m]?=h[m]?)->Rd (λm=>L m≠11) HF (ks x.o.aD) ma:=λHF k=>Rd.aC (λm hm=>by have:=hm.1;omega) (λm hm y hy=>(k m hm.2 (.inl hm.1)).trans hy) _ _ (a.rd (p:=(3,ks x.o.aD,ma)) (by simp[dl]));have RC:∀HF:eZ,(∀m,m<h.length->L m<=9\/L m=11->HF[m]?=h[m]?)->Rd (λm=>L m≠11) HF (jQ x.o.aC) ca:=λHF k=>Rd.aC (λm hm=>by have:=hm.1;omega) (λm hm y hy=>(k m hm.2 (.inl hm.1)).trans hy) _ _ (a.rd (p:=(4,jQ x.o.aC,ca)) (by simp[dl]));have I:∀m,L m<=9\/L m=11->m≠r/\m≠n2:=λm hm=>⟨by rintro rfl;rw[a.lr]at hm;omega,by rintro rfl;omega⟩;have O:=a.aC;have u:=t;simp only[RX.aB,hM.aE]at t;have a9:n2<H2.length:=by omega
 have n2h:(n2=h.length)=False:=Vs (by omega);have ac:(h.length=n2)=False:=Vs (by omega);have a3:h.length<H2.length:=by omega
 have a5:(r=n2)=False:=Vs (λz=>nr z.symm);have lr2:r<H2.length:=by omega
 rw[hE];clear hE E;simp only[mI,AC.aA,go_sem,k0,t];refine gx (λc=>?_) (λc=>?_)
 ·simp at c;rw[Ve (by omega)]at hK;obtain⟨b0,b1,b2,b3,b4,rfl⟩:∃b0 b1 b2 b3 b4,bs=[b0,b1,b2,b3,b4]:=by
   match bs,lb with
   | [b0,b1,b2,b3,b4],_=>exact⟨_,_,_,_,_,rfl⟩
  have bl:=hR.aC;have at':=hR.aK;have ll:x.r.aK<=2^40+k:=hR.aE;have e1:IntKind.i64.wrap (x.r.aO+1)=x.r.aO+1:=fQ (by simp only[fm.aK]at ll;omega);have e2:IntKind.i64.wrap (x.r.aI-x.r.aO)=x.r.aI-x.r.aO:=fQ (by simp only[fm.aK]at ll;omega);simp only[go_sem,k0,t,B2,a4,a3,e1,e2];generalize hG:H2.set h.length _=H3;have l3:H3.length=H2.length:=by rw[<-hG,Vh]
  have k3:∀m,m<h.length->m≠r->H3[m]?=h[m]?:=λm hm hr=>by rw[<-hG,Vb (by omega)];exact a0 m hm hr
  have W:H3[r]?=some (some (.aA 26 [({r:=x.r,o:=hM.aE}:RX).aB g f .aB .aB e co cn cl sn] false)):=by rw[<-hG];exact (Vb (by omega)).trans u
  have B3:H3[h.length]?=some (some (fh.aA 5 [[ma,ca,.aB,.aA .i64 (x.r.aO+1),.aD x.o.aB]] false)):=by rw[<-hG];exact Vd a3
  have ae:=(k3 n2 ln nr).trans hb;clear hG;have rl:fu (Ds L h) H3 x.r.aA.aA.c [.aA .i64 x.r.aA.aA.aA,.aA .i64 x.r.aA.aA.aB,e]:=fu.aA (λ_ y=>y) (λm hm y hy=>(k3 m hm.2 (I m (.inl hm.1)).1).trans hy) _ _ O;refine fq ⟨u4.1,u4.2 _ H3 x.r.aA.aA _ _ _ rl (hR.aB hk)⟩ ?_;rintro e' H4 ⟨oe,-,X4⟩;have se:=oe.aA;have l4:=X4.1;have M:=X4.aA W;simp only[RX.aB,hM.aE]at M;have B4:=X4.aA B3;have ad:=X4.aA ae;have a2:r<H4.length:=by omega
  have ab:h.length<H4.length:=by omega
  have a8:n2<H4.length:=by omega
  rw[gF];simp only[go_sem,k0,k2,M,B4,ad,a4,a6,ac,a5,a2,ab,a8,se,gH se,s3,s4,Vh];have U:∀b c d:Option fh,((((H4.set h.length b).set r c).set n2 d)[r]?:Option (Option fh))=some c:=λb c d=>(Vb nr).trans (Vd (by rw[Vh];exact a2));have K0:∀b c d:Option fh,∀m,m<h.length->L m<=9\/L m=11->(((H4.set h.length b).set r c).set n2 d)[m]?=h[m]?:=λb c d m hm h9=>by rw[Vb (λz=>(I m h9).2 z.symm),Vb (λz=>(I m h9).1 z.symm),Vb (by omega)];exact (X4.2 m (by omega) (λz=>z)).trans (k3 m hm (I m h9).1)
  refine hK _ _ ⟨⟨ma,ca,e',rfl,RM _ (K0 _ _ _),RC _ (K0 _ _ _),?_⟩,a.aL (x':=⟨{x.r with aO:=x.r.aI},hM.aE⟩) [2,3] rfl (U _ _ _) (by simp only[Vh];omega) (K0 _ _ _)⟩;refine Rd.aC (F:=λm=>H3.length<=m) (λm hm=>by have hm:H3.length<=m:=hm;rw[a.z (by omega)];decide) (λm hm y hy=>?_) _ _ (e_.rd _ (λ_ y=>y) _ oe);have hm:H3.length<=m:=hm;rw[Vb (by omega),Vb (by omega),Vb (by omega)];exact hy
 ·simp at c;rw[Vf c]at hK;obtain⟨b0,b1,b2,b3,b4,rfl⟩:∃b0 b1 b2 b3 b4,bs=[b0,b1,b2,b3,b4]:=by
   match bs,lb with
   | [b0,b1,b2,b3,b4],_=>exact⟨_,_,_,_,_,rfl⟩
  simp only[go_sem,k2,B2,af,a9,s3,s4];have K':∀m,m<h.length->L m<=9\/L m=11->(H2.set n2 (some (fh.aA 5 [[ma,ca,.aB,.aA .i64 0,.aD x.o.aB]] false)))[m]?=h[m]?:=λm hm h9=>(Vb (λz=>(I m h9).2 z.symm)).trans (a0 m hm (I m h9).1);refine hK _ _ ⟨⟨ma,ca,.aB,by rw[hz.2],RM _ K',RC _ K',by rw[hz.1];exact iS _ _ _⟩,?_⟩;exact a.aL (x':=⟨x.r,hM.aE⟩) [2,3] rfl ((Vb nr).trans u) (by rw[Vh];omega) K'
theorem gT.aK {L:Nat->Nat}{h:eZ}{r:Nat}{x x':RX}{g f ma ca e co cn cl sn g' f' ma' ca' e' co' cn' cl' sn':AV}(a:gT L h r x g f ma ca e co cn cl sn)(js:List Nat)(hp:dl x' g' f' ma' ca' e' co' cn' cl' sn'=js.foldl su (dl x g f ma ca e co cn cl sn)):
  gT L (h.set r (some (.aA 26 [x'.aB g' f' ma' ca' e' co' cn' cl' sn'] false))) r x' g' f' ma' ca' e' co' cn' cl' sn':=by
 have lr:=(U_.1 a.aA).1;refine⟨Vd lr,λp h1=>?_,a.lr,λm hm=>by rw[Vh];exact a.lt m hm⟩;rw[hp]at h1;rcases xb h1 with c | ⟨k,sz,rfl⟩;·have d:=kt c;exact (a.aB p c).aA d (by rw[Vh];exact Vg _) (λ_ _=>rfl) λm hm hl=>Vb (by rintro rfl;rw[a.lr]at hl;omega)
 ·exact iY.aB L _ k sz
def yg (P:Program)(f:FuncId):Prop:=fI P f=true/\∀(L:Nat->Nat)(h:eZ)(r:Nat)(x:RX)(l:Int)(g ff ma ca e co cn cl sn:AV),gT L h r x g ff ma ca e co cn cl sn->fy P f [.aC r 26 0 0,.aA .i64 l] h λ_ h'=>h'=h.set r (some (.aA 26 [(x.aS l).aB .aB .aB ma ca e co cn cl sn] false))
theorem Mq {P:Program}{f:FuncId}(hf:Is P f uh):yg P f:=by refine⟨hf.2,λL h r x l g ff ma ca e co cn cl sn a=>fN hf ?_⟩;have row:=a.aA;have lr:=(U_.1 row).1;simp only[RX.aB]at row;simp only[uh,go_sem,row,Vd lr,V8];rfl
def pn (P:Program)(f:FuncId):Prop:=fI P f=true/\∀(L:Nat->Nat)(h:eZ)(r:Nat)(x:RX)(k:Nat),DX L h r x->x.r.aD k->k<=2^28->x.o.aF=[]/\x.o.aA=0->fy P f [.aC r 26 0 0] h λv h'=>gQ L h r x.aD v h'
theorem Ml {P:Program}{f f1 f2 f3 f4:FuncId}(hf:Is P f (mI f1 f2 f3 f4))(u1:ou P f1)(u2:ry P f2)(u3:yg P f3)(u4:kS P f4):pn P f:=by
 refine⟨hf.2,λL h r x k hx hR hk hz=>fN hf ?_⟩;obtain⟨E,hE⟩:∃E,E=(mI f1 f2 f3 f4).aA.tl.tl.tl:=⟨_,rfl⟩;have u:=hE;simp only[mI,AC.aA,fC]at u;obtain⟨rs,t⟩:∃rs,rs=(mI f1 f2 f3 f4).aB:=⟨_,rfl⟩;rw[<-t];simp only[mI,fC];rw[<-u];clear u;simp only[go_sem];have X1:=eY.b1 (h:=h) (some (fh.aA 5 [[.aB,.aB,.aB,.aA .i64 0,.aD false]] false));refine fR u1.1 (u1.2 L _ r x k (hx.up X1) hR hk) ?_;simp only[go_sem,fG.aD,iB];obtain⟨H,hH⟩:∃H,H=h++[some (fh.aA 5 [[.aB,.aB,.aB,.aA .i64 0,.aD false]] false)]++[some (fh.aA 3 [[fA x.r.aE.aA,fA x.r.aE.aB,fA x.r.aE.aC]] false)]:=⟨_,rfl⟩;have X:eY fj h H:=by rw[hH];exact eY.b2 _ _
 have B:H[h.length]?=some (some (fh.aA 5 [[.aB,.aB,.aB,.aA .i64 0,.aD false]] false)):=by rw[hH];exact iE _ _ _
 rw[<-hH];clear hH X1;obtain⟨g,ff,ma,ca,e,co,cn,cl,sn,a⟩:=id hx;have lB:=(U_.1 B).1;have b:=a.aN X (Vg _) lB;have row:=X.aA a.aA;have lrh:=(U_.1 a.aA).1;simp only[RX.aB]at row;have eo:x.aD=RX.aZ ⟨x.r.aZ,x.o⟩:=rfl;rw[eo];simp only[go_sem,row];have l0:(λm=>if m=h.length then 12 else L m) h.length=12:=Vf rfl;have hz':(⟨x.r.aZ,x.o⟩:RX).o.aF=[]/\(⟨x.r.aZ,x.o⟩:RX).o.aA=0:=hz;have no:x.r.aZ=x.r->∀Λ,lk 0 Λ=.aC r 26 0 0->lk 2 Λ=.aC h.length 5 0 0->vc P E ⟨Λ,[],H⟩ (ia rs λv h'=>gQ L h r (RX.aZ ⟨x.r.aZ,x.o⟩) v h'):=λen Λ q0 q2=>by rw[en,hE,t];exact GG u4 b hR hk hz q0 q2 B rfl l0 λv h' d=>gQ.aC (Vg _) (by rw[a.z (Vg _)];decide) X d
 have C:x.r.aZ=x.r.aR 0->∀Λ,lk 0 Λ=.aC r 26 0 0->lk 2 Λ=.aC h.length 5 0 0->vc P E ⟨Λ,[],H.set r (some (.aA 26 [(x.aS 0).aB .aB .aB ma ca e co cn cl sn] false))⟩ (ia rs λv h'=>gQ L h r (RX.aZ ⟨x.r.aZ,x.o⟩) v h'):=λen Λ q0 q2=>by rw[en,hE,t];refine GG u4 (b.aK (x':=x.aS 0) [0,1] rfl) (hR.aF 0) hk hz q0 q2 ((Vb (by omega)).trans B) rfl l0 λv h' d=>gQ.aC (Vg _) (by rw[a.z (Vg _)];decide) X ⟨d.1,fX.aE (λ_ _=>rfl) (eY.aG _ λ_=>by show (if r=h.length then 12 else L r)≠0/\(if r=h.length then 12 else L r)≠11;rw[Ve (by omega),a.lr];decide) d.2⟩
 clear hE t;by_cases c1:x.r.aM=2
 ·simp only[go_sem,Vc c1,row];refine fR u2.1 (u2.2 L _ r x k x.r.id (hx.up X) hR hk) ?_;by_cases c2:x.r.aV x.r.id=true;·simp only[go_sem,c2];exact no (by unfold fm.aZ;exact Ve λz=>by rw[c2]at z;exact absurd z.2.2 (by decide)) _ (by simp[fi,ga]) (by simp[fi])
  ·have c2:x.r.aV x.r.id=false:=by simpa using c2
   by_cases c3:x.r.aA.of.2<=x.r.aI
   ·simp only[go_sem,c2,Vc c3,row];refine fq ⟨u3.1,u3.2 _ H r x 0 _ _ _ _ _ _ _ _ _ b⟩ ?_;rintro _ _ rfl;simp only[go_sem];exact C (by unfold fm.aZ;exact Vf ⟨c1,c3,c2⟩) _ (by simp[fi,ga]) (by simp[fi])
   ·simp only[go_sem,c2,Va c3,row];exact no (by unfold fm.aZ;exact Ve λz=>c3 z.2.1) _ (by simp[fi,ga]) (by simp[fi])
 ·simp only[go_sem,Va c1];exact no (by unfold fm.aZ;exact Ve λz=>c1 z.1) _ (by simp[fi,ga]) (by simp[fi])
def qc (P:Program)(f:FuncId):Prop:=fI P f=true/\∀(F:Nat->Prop)(L:Nat->Nat)(h:eZ)(r:Nat)(x:RX)(m:fB)(az:List AV)(ok:Bool)(i:Int),DX L h r x->fu F h m.c az->(x.o.aD.length+1)*168<=2^46->
 fy P f [.aC r 26 0 0,.aE az,.aD ok,.aA .i64 i] h λ_ h'=>fX L h r (x.aM m ok i) h'
theorem L_ {P:Program}{f f1:FuncId}(hf:Is P f (AG f1))(u1:oA P f1):qc P f:=by refine⟨hf.2,λF L h r x m az ok i hx hm hb=>fN hf ?_⟩;obtain⟨e1,d1,rfl,q1,q2⟩:=jS hm;have t:=q1.aA;have b:=q2.aA;have X:=eY.b1 (h:=h) (some (fh.aA 17 [m.aB e1 d1] false));simp only[fB.aB]at X;simp only[AG,fB.aB,go_sem,t,b];refine fq ⟨u1.1,u1.2 L _ r x fj {fB.aG with aD:=4,to:=m.aC,ok:=ok,aA:=i,aM:=m.aM} _ (hx.up X) (qT (m:={fB.aG with aD:=4,to:=m.aC,ok:=ok,aA:=i,aM:=m.aM}) (iS _ _ _) (iS _ _ _)) ⟨by simp[fB.aG],λe he=>by cases he⟩ (by simp[fB.aG]) hb⟩ ?_;intro _ h' T;simp only[go_sem];exact fX.aB X T
theorem fX.aC {L:Nat->Nat}{h h':eZ}{r:Nat}{x:RX}(T:fX L h r x h'){m:Nat}{b:Option fh}(hm:L m=0\/L m=11) (hb:h[m]?=some b):h'[m]?=some b:=by obtain⟨L',d,l,e⟩:=T;exact (e.2 m (U_.1 hb).1 (λz=>hm.elim z.1 z.2)).trans hb
theorem fX.aD {L:Nat->Nat}{h h':eZ}{r:Nat}{x:RX}(T:fX L h r x h'):∃g f ma ca e co cn cl sn,h'[r]?=some (some (.aA 26 [x.aB g f ma ca e co cn cl sn] false))/\r<h'.length/\g.aG=true/\f.aG=true/\ma.aG=true/\ca.aG=true/\e.aG=true /\
  ∀(x':RX)(js:List Nat)(g' f' ma' ca' e' co' cn' cl' sn':AV),dl x' g' f' ma' ca' e' co' cn' cl' sn'=js.foldl su (dl x g f ma ca e co cn cl sn)->fX L h r x' (h'.set r (some (.aA 26 [x'.aB g' f' ma' ca' e' co' cn' cl' sn'] false))):=by
 obtain⟨L',⟨g,f,ma,ca,e,co,cn,cl,sn,a⟩,l,e1⟩:=T;exact⟨g,f,ma,ca,e,co,cn,cl,sn,a.aA,(U_.1 a.aA).1,a.sc.1,a.sc.2.1,a.sc.2.2.1,a.sc.2.2.2.1,a.sc.2.2.2.2.1,λx' js g' f' ma' ca' e' co' cn' cl' sn' hp=>fX.aE l e1 (a.aD js hp)⟩
def vG (P:Program)(f:FuncId):Prop:=fI P f=true/\∀(F:Nat->Prop)(L:Nat->Nat)(h:eZ)(r:Nat)(x:RX)(m:fB)(az:List AV)(k j:Nat),DX L h r x->fu F h m.c az->x.r.aD k->k<=2^28->x.aA j->j<=2^20->
 fy P f [.aC r 26 0 0,.aE az] h λ_ h'=>fX L h r (x.aR m) h'
theorem MZ {P:Program}{f f1 f2 f3:FuncId}(hf:Is P f (AW f1 f2 f3))(u1:rG P f1)(u2:ru P f2)(u3:oA P f3):vG P f:=by
 refine⟨hf.2,λF L h r x m az k j hx hm hR hk hj hj2=>fN hf ?_⟩;obtain⟨e1,d1,rfl,q1,q2⟩:=jS hm;have sq1:=q1.aA;have sq2:=q2.aA;obtain⟨g,ff,ma,ca,e,co,cn,cl,sn,a⟩:=id hx;have row:=a.aA;have s5:=a.sc.2.2.2.2.1;have R1:∀y,(h++[y])[r]?=_:=λy=>(eY.b1 y).aA row;simp only[RX.aB]at R1;simp only[AW,fB.aB,go_sem,sq1,sq2,R1];obtain⟨H,hH⟩:∃H,H=h++[some (fh.aA 17 [m.aB e1 d1] false)]:=⟨_,rfl⟩;have X:eY fj h H:=by rw[hH];exact eY.b1 _
 have B:H[h.length]?=some (some (fh.aA 17 [m.aB e1 d1] false)):=by rw[hH];exact gh _ _
 have z0:L h.length=0:=a.z (Vg _);simp only[fB.aB]at hH B;rw[<-hH];clear hH R1;have mr:fu F H m.c (m.aB e1 d1):=qT (q1.up X) (q2.up X);refine fq ⟨u1.1,u1.2 _ _ H _ _ x.r.aA.aA m _ _ (fu.up a.aC X) mr (hR.aB hk)⟩ ?_;rintro _ H ⟨rfl,rfl⟩;have rowH:=X.aA row;have lrH:=(U_.1 rowH).1;simp only[RX.aB]at rowH;have T0:fX L h r x H:=fX.aB X (hx.up X).to;have hcb:(x.o.aC.length+1)*216<=2^46:=by have a:x.o.aC.length+1<=2^21:=(by have:=hj.2;omega);exact Vr (Vx 216 a) (by decide)
 have hmb:(x.o.aD.length+1)*168<=2^46:=by have a:x.o.aD.length+1<=2^21:=(by have:=hj.1;omega);exact Vr (Vx 168 a) (by decide)
 have nr:(r=h.length)=False:=Vs (by have:=(U_.1 row).1;omega);rw[gF];have fin:∀(y:RX)(ok:Bool)(H':eZ),y.o.aD=x.o.aD->fX L H r y H'->x.aR m=y.aG {fB.aG with aD:=2,to:=m.aC,ok:=ok}->∀az,az=({fB.aG with aD:=2,to:=m.aC,ok:=ok}:fB).aB .aB .aB->fy P f3 [.aC r 26 0 0,.aE az] H' λ_ h'=>fX L h r (x.aR m) h':=by rintro y ok H' em T es az rfl;rw[es];exact fX.aA (fX.aB X T) λL' s'=>u3.2 L' H' r y fj {fB.aG with aD:=2,to:=m.aC,ok:=ok} _ s' (qT (m:={fB.aG with aD:=2,to:=m.aC,ok:=ok}) (iS _ _ _) (iS _ _ _)) ⟨by simp[fB.aG],λe he=>by cases he⟩ (by simp[fB.aG]) (by rw[em];exact hmb)
 by_cases c1:mq x.r.aA.aB x.r.aA.aE x.r.aA.aA m=true
 ·have z0':∀{b:Option fh}{H':eZ}{y:RX},fX L H r y H'->H[h.length]?=some b->H'[h.length]?=some b:=λT hb=>T.aC (.inl z0) hb;by_cases c2:x.r.aA.aE=m.aC
  ·have es:x.aR m=({x with r:={x.r with aF:=0}}:RX).aG {fB.aG with aD:=2,to:=m.aC,ok:=true}:=by unfold RX.aR;simp only[c1,V3];rw[Vf c2]
   obtain⟨g',f',ma',ca',e',co',cn',cl',sn',r1,r2,t1,t2,t3,t4,t5,go⟩:=(hx.up X).to.aD;have T2:=go {x with r:={x.r with aF:=0}} [] g' f' ma' ca' e' co' cn' cl' sn' rfl;simp only[RX.aB]at r1 T2;simp only[go_sem,c1,B,r1,r2,Vc c2,Vq,nr];generalize H.set r _=H5 at *;refine fq ⟨u3.1,fin {x with r:={x.r with aF:=0}} true H5 rfl T2 es _ rfl⟩ ?_;intro _ h' T;simp only[go_sem];exact T
  ·have es:x.aR m=({x.aL x.r.aA.aB m.aC with r:={(x.aL x.r.aA.aB m.aC).r with aF:=0}}:RX).aG {fB.aG with aD:=2,to:=m.aC,ok:=true}:=by unfold RX.aR;simp only[c1,V3];rw[Ve c2];rfl
   simp only[go_sem,c1,B,rowH,Va c2,Vt];refine fq ⟨u2.1,u2.2 L H r x _ _ (hx.up X) hcb⟩ ?_;intro _ H6 T6;have B6:=z0' T6 B;obtain⟨g',f',ma',ca',e',co',cn',cl',sn',r1,r2,t1,t2,t3,t4,t5,go⟩:=T6.aD;have T2:=go {x.aL x.r.aA.aB m.aC with r:={(x.aL x.r.aA.aB m.aC).r with aF:=0}} [] g' f' ma' ca' e' co' cn' cl' sn' rfl;simp only[RX.aB]at r1 T2;rw[gF];simp only[go_sem,B6,r1,r2,nr];refine fq ⟨u3.1,fin {x.aL x.r.aA.aB m.aC with r:={(x.aL x.r.aA.aB m.aC).r with aF:=0}} true _ rfl T2 es _ rfl⟩ ?_;intro _ h' T;simp only[go_sem];exact T
 ·have c1:mq x.r.aA.aB x.r.aA.aE x.r.aA.aA m=false:=by simpa using c1
  have es:x.aR m=x.aG {fB.aG with aD:=2,to:=m.aC,ok:=false}:=by unfold RX.aR;simp only[c1,VC,VO]
  simp only[go_sem,c1,B];refine fq ⟨u3.1,fin x false H rfl (hx.up X).to es _ rfl⟩ ?_;intro _ h' T;simp only[go_sem];exact T
def vH (P:Program)(f:FuncId):Prop:=fI P f=true/\∀(F:Nat->Prop)(L:Nat->Nat)(h:eZ)(r:Nat)(x:RX)(m:fB)(az:List AV)(k j:Nat),DX L h r x->fu F h m.c az->x.r.aD k->k+1<2^28->x.aA j->j<2^20->
 fy P f [.aC r 26 0 0,.aE az] h λ_ h'=>fX L h r (x.aQ m) h'
theorem M4 {P:Program}{f f1 f2 f3 f4:FuncId}(hf:Is P f (r7 f1 f2 f3 f4))(u1:ry P f1)(u2:j_ P f2)(u3:rz P f3)(u4:tB P f4):vH P f:=by
 refine⟨hf.2,λF L h r x m az k j hx hm hR hk hj hj2=>fN hf ?_⟩;obtain⟨e1,d1,rfl,q1,q2⟩:=jS hm;have sq1:=q1.aA;have sq2:=q2.aA;obtain⟨g,ff,ma,ca,e,co,cn,cl,sn,a⟩:=id hx;have row:=a.aA;obtain⟨E,hE⟩:∃E,E=(r7 f1 f2 f3 f4).aA.tl.tl:=⟨_,rfl⟩;have hE':=hE;simp only[r7,AC.aA,fC]at hE';simp only[r7,fC];rw[<-hE'];clear hE';simp only[fB.aB,go_sem,sq1,sq2];obtain⟨H,hH⟩:∃H,H=h++[some (fh.aA 17 [m.aB e1 d1] false)]:=⟨_,rfl⟩;have X:eY fj h H:=by rw[hH];exact eY.b1 _
 have B:H[h.length]?=some (some (fh.aA 17 [m.aB e1 d1] false)):=by rw[hH];exact gh _ _
 have z0:L h.length=0:=a.z (Vg _);simp only[fB.aB]at hH B;rw[<-hH];clear hH;have rowH:=X.aA row;simp only[RX.aB]at rowH;have no:fX L h r x H:=fX.aB X (hx.up X).to;have rg:=a.rg.up X;have gl:x.r.aG.length<=k+1:=hR.aT;by_cases c1:x.r.aM=1
 ·by_cases c2:m.ok=true
  ·simp only[go_sem,rowH,B,Vc c1,Vq,c2];refine fR u1.1 (u1.2 L H r x k m.aC (hx.up X) hR (by omega)) ?_;rw[gF];by_cases c3:x.r.aV m.aC=true
   ·simp only[go_sem,rowH,B,c3,Vq];refine fR u2.1 (u2.2 _ H x.r.aG g m.aC rg (by omega)) ?_;rw[gF];by_cases c4:m.aC∈x.r.aG
    ·have ev:x.aQ m=x:=by unfold RX.aQ;exact Vf (.inr (.inr (.inl c4)))
     rw[ev];simp only[go_sem,rowH,B,Vc c4];exact no
    ·simp only[go_sem,rowH,B,Va c4];have aH:=a.up X;have sg:=a.sc.1;obtain⟨y,hy⟩:∃y:RX,y={x with r:={x.r with aG:=x.r.aG++[m.aC]}}:=⟨_,rfl⟩;have ev:x.aQ m=if y.r.aE.aG y.r.aG then y.aP else y:=by rw[hy];unfold RX.aQ;exact Ve (by rintro (z | z | z | z);exact z c1;rw[c2]at z;cases z;exact c4 z;rw[c3]at z;cases z)
     have fity:y.r.aD (k+1):=by rw[hy];obtain⟨g1,g2,g3,g4,g5,g6,g7,g8,g9,g10,g11,g12,g13,g14,g15⟩:=hR.aA (WB k);exact⟨g1,g2,g3,g4,g5,g6,g7,g8,g9,g10,g11,g12,by show (x.r.aG++[m.aC]).length<=k+1+1;simp;omega,g14,g15⟩
     have fewy:y.aA j:=by rw[hy];exact hj
     obtain⟨H3,hH3⟩:∃H3,H3=H++[some (fh.aA 1 [[.aA .i64 m.aC]] false)]:=⟨_,rfl⟩;have X3:eY fj H H3:=by rw[hH3];exact eY.b1 _
     have ae:iV H3 1 (.aF H.length 1 0 1 (some 1))=some [[.aA .i64 m.aC]]:=pB (g:=false) (by rw[hH3];exact gh _ _) (some 1) (len:=1) rfl;obtain⟨c',h2,g1,g2,g3,g4,g5,go⟩:=aH.aE (k:=1) (bytes:=8) (es:=[[.aA .i64 m.aC]]) (ys:=[[.aA .i64 m.aC]]) rfl (by decide) X3 (by simp only[gC,fu];exact⟨_,_,rfl,⟨_,_,rfl,rfl,rfl⟩,rfl⟩) (by simp only[Vo,Xc];exact Vr (Vx 8 (show x.r.aG.length+1<=2^28 by omega)) (by decide));rw[<-ic ae]at g1;have T5:=go (x':=y) (g':=c') (f':=ff) (ma':=ma) (ca':=ca) (e':=e) (co':=co) (cn':=cn) (cl':=cl) (sn':=sn) (by rw[hy];rfl) (by simp[fK]);have rw5:y.aB c' ff ma ca e co cn cl sn=x.aB c' ff ma ca e co cn cl sn:=by rw[hy];rfl
     rw[rw5]at T5;have R2:∀y,(H++[y])[r]?=_:=λy=>(eY.b1 y).aA rowH;have B2:∀y,(H++[y])[h.length]?=_:=λy=>(eY.b1 y).aA B;have lH:h.length<H.length:=(U_.1 B).1;have lrH:r<H.length:=(U_.1 rowH).1;have N1:∀sz i o,gN H.length 1 (.aC r sz i o)=true:=λsz i o=>iv lrH;have N2:∀sz i o,gN H.length 1 (.aC h.length sz i o)=true:=λsz i o=>iv lH;simp only[RX.aB]at g3 T5;rw[hE,ev];simp only[r7,AC.aA,go_sem,iN,R2,B2,N1,N2];rw[<-hH3];have K2:h2[h.length]?=_:=(g5.2 _ (by have:=X3.1;omega) (by show ¬L h.length=1;rw[z0];decide)).trans (X3.aA B);simp only[go_sem,iN,g1,g2,g3,g4,gH g2,K2];have hr5:(h2.set r (some (.aA 26 [x.aB c' ff ma ca e co cn cl sn] false)))[r]?=some (some (.aA 26 [x.aB c' ff ma ca e co cn cl sn] false)):=Vd g4;simp only[RX.aB]at hr5;generalize h2.set r _=H5 at *;obtain⟨L5,⟨g',f',ma',ca',e',co',cn',cl',sn',a5⟩,l5,x5⟩:=id T5;have e5:=a5.aA.symm.trans hr5;simp only[Vk,fh.aA.injEq,Wr,RX.aB]at e5;obtain⟨-,⟨⟨-,-,-,-,-,-,-,-,-,-,-,-,-,-,-,-,-,rfl,-⟩,-⟩,-⟩:=e5;have gy:y.r.aG.length<=2^40:=by have:=fity.aT;omega
     refine fR u3.1 (u3.2 L5 H5 r y (k+1) _ _ _ ⟨_,_,_,_,_,_,_,_,_,a5⟩ fity (by omega) a5.rg gy) ?_;by_cases c5:y.r.aE.aG y.r.aG=true;·rw[Vf c5];simp only[go_sem,c5];refine fq ⟨u4.1,T5.aA λL' s'=>u4.2 L' H5 r y (k+1) j s' fity (by omega) fewy hj2⟩ ?_;intro _ H6 T6;simp only[go_sem];exact fX.aB X T6
     ·rw[Ve c5];have c5:y.r.aE.aG y.r.aG=false:=by simpa using c5
      simp only[go_sem,c5];exact fX.aB X T5
   ·have c3:x.r.aV m.aC=false:=by simpa using c3
    have ev:x.aQ m=x:=by unfold RX.aQ;exact Vf (.inr (.inr (.inr c3)))
    rw[ev];simp only[go_sem,rowH,B,c3];exact no
  ·have c2:m.ok=false:=by simpa using c2
   have ev:x.aQ m=x:=by unfold RX.aQ;exact Vf (.inr (.inl c2))
   rw[ev];simp only[go_sem,rowH,B,Vc c1,Vq,c2];exact no
 ·have ev:x.aQ m=x:=by unfold RX.aQ;exact Vf (.inl c1)
  rw[ev];simp only[go_sem,rowH,Va c1,Vt];exact no
theorem Da {lo : Nat} {h : eZ} {v : AV} {l : List gj} (ho : e_ (f_ l) (λm => lo <= m) h v) (hc : gq h v) :
  ∃N:Nat->Prop,(∀m,N m->lo<=m/\m<h.length)/\∀L:Nat->Nat,(∀m,N m->L m=5)->(∀m,lo<=m->m<h.length->¬N m->L m=0)->iY L h (5,f_ l,v):=by
 have hl:=e_.lt _ _ ho;simp only[f_,e_]at hl;rcases hl with⟨rfl,e⟩ | ⟨t,c,rfl,e⟩ | ⟨n,off,cap,row,g,rfl,h2,h3,h4,h5,h6⟩;·refine⟨fj,λm hm=>hm.elim,λL _ _=>?_⟩;simp only[f_,e];exact iY.aB L h 5 3
 ·refine⟨fj,λm hm=>hm.elim,λL _ _=>?_⟩;simp only[gq]at hc;subst hc;simp only[f_,e];exact⟨λ_=>⟨3,[],[],rfl,.inr ⟨t,rfl,rfl⟩,rfl⟩,λz=>by omega⟩
 ·obtain⟨row',g',c1,c2,c3⟩:=hc;rw[h3]at c1;cases c1;have ek:((row.drop off).take (l.map gj.c).length).length=(l.map gj.c).length:=by rw[Vw,VA];omega
  refine⟨λm=>m=n,λm hm=>by subst hm;exact h2,λL h7 h8=>⟨λ_=>⟨3,l.map gj.c,(row.drop off).take (l.map gj.c).length,rfl,.inl (.inr ⟨n,off,cap,row,g,by rw[ek],h7 n rfl,h3,by rw[ek];exact h4,by rw[ek];exact h5,c2,c3,by rw[ek]⟩),?_⟩,λz=>absurd z (WA 5)⟩⟩;exact fP.rd _ (λm hm=>⟨h8 m hm.1.1 hm.1.2 hm.2,hm.1.2⟩) _ h6
def vn (P:Program)(f:FuncId):Prop:=
 fI P f=true/\∀(F:Nat->Prop)(h:eZ)(x:fE)(a:List AV),fu F h x.c a->iK x.es->
  fy P f [.aE a] h λr h'=>∃e,r=.aE [.aA .i64 x.aA,.aA .i64 x.aB,e]/\e_ (f_ x.es) (λm=>h.length<=m) h' e/\gq h' e/\eY fj h h'
theorem Jn {P:Program}{f g:FuncId}(hf:Is P f (uf g))(hg:mC P g):vn P f:=by
 refine⟨hf.2,λF h x a hx hl=>fN hf ?_⟩;simp only[fE.c,fu,Rd]at hx;obtain⟨_,_,rfl,rfl,_,_,rfl,rfl,d,_,rfl,hx,rfl⟩:=hx;simp only[uf,go_sem,hx.aA];refine fq ⟨hg.1,hg.2 F _ x.es d (hx.up (eY.b2 _ _)) hl⟩ ?_;rintro r h2 ⟨hr,hc,he⟩;have hA:=he.aA (iE _ _ _);have hB:=he.aA (iq _ _ _);have l1:=(U_.1 hA).1;have l2:=(U_.1 hB).1;simp only[go_sem,hA,hB,hr.aA,gH hr.aA,l1,l2,Vh];have kp:∀b c:Option fh,gz (λm=>h.length+2<=m) h2 ((h2.set h.length b).set (h.length+1) c):=λb c m hm y hy=>by have hm:h.length+2<=m:=hm;rw[Vb (by omega),Vb (by omega)];exact hy
 simp only[kU]at hr;refine⟨_,rfl,e_.aB _ (λm hm=>by have hm:h.length+2<=m:=hm;show h.length<=m;omega) (kp _ _) _ hr,hc.aA hr (kp _ _),?_⟩;have el:=he.1;simp only[kU]at el;refine⟨by simp only[Vh];omega,λm hm _=>?_⟩;rw[Vb (by omega),Vb (by omega)];exact ((eY.b2 _ _).aB he (λ_ _ z=>z) (λ_ _ z=>z)).2 m hm (λz=>z)
def DQ (P:Program)(f:FuncId):Prop:=fI P f=true/\∀(F:Nat->Prop)(h:eZ)(x:fV)(a:List AV),fu F h x.c a->x.aK->
 fy P f [.aE a] h λr h'=>∃e,r=.aE (x.aP e (fA x.aC.aA) (fA x.aC.aB) (fA x.aC.aC) (gV x.aF))/\e_ (f_ x.aA.es) (λm=>h.length<=m) h' e/\gq h' e/\eY fj h h'
theorem Jj {P:Program}{f g k b:FuncId}(hf:Is P f (qD g k b))(hg:vn P g)(hk:ot P k)(hb:lj P b .u8):DQ P f:=by
 refine⟨hf.2,λF h x a ha hx=>fN hf ?_⟩;obtain⟨e,o,n,d,s,rfl,he,ho,hn,hd,hs⟩:=kW ha;simp only[qD,fV.aG,go_sem,he.aA,ho.aA,hn.aA,hd.aA,hs.aA];obtain⟨H,hH⟩:∃H,H=h++[some (fh.aA 10 [x.aG e o n d s] false)]++[some (.aA 10 [[.aA .i64 0,.aA .i64 0,.aA .i64 0,.aA .i64 0,.aA .i64 0,.aB,.aB,.aB,.aB,.aB]] false)]:=⟨_,rfl⟩;have X:eY fj h H:=by rw[hH];exact eY.b2 _ _
 have A:H[h.length]?=some (some (fh.aA 10 [x.aG e o n d s] false)):=by rw[hH];exact iE _ _ _
 have B:H[h.length+1]?=some (some (fh.aA 10 [[.aA .i64 0,.aA .i64 0,.aA .i64 0,.aA .i64 0,.aA .i64 0,.aB,.aB,.aB,.aB,.aB]] false)):=by rw[hH];exact iq _ _ _
 have lH:H.length=h.length+2:=by rw[hH];simp
 simp only[fV.aG]at hH A;rw[<-hH];clear hH;have e1:=hg.2 F H x.aA _ (fu.up (pS he) X) hx.1;refine fq ⟨hg.1,e1⟩ ?_;rintro _ H2 ⟨e',rfl,oe,ce,X2⟩;have se:=oe.aA;have A2:=X2.aA A;have B2:=X2.aA B;have la:=(U_.1 A2).1;have lb:=(U_.1 B2).1;have ne:(h.length=h.length+1)=False:=Vs (by omega);have ne':(h.length+1=h.length)=False:=Vs (by omega);simp only[go_sem,A2,la,se];have X3:∀b,eY fj h (H2.set h.length b):=λb=>(X.tr X2).aD (Vg _) b;have e2:=λH (e:eY fj h H)=>hk.g ((nd ho hn hd).up e) hx.2.1;simp only[fG.aD]at e2;refine fR hk.1 (e2 _ (X3 _)) ?_;simp only[go_sem,V8,Vd la];refine fR hb.1 (hb.gb (hs.up (X3 _)) hx.2.2) ?_;simp only[go_sem,B2,la,lb,se,ne,Vh,V8,Vd la,iB,l7,Cn];have l2:=X2.1;have kp:∀b c:Option fh,gz (λm=>H.length<=m) H2 ((H2.set h.length b).set (h.length+1) c):=λb c m hm y hy=>by have hm:H.length<=m:=hm;rw[Vb (by omega),Vb (by omega)];exact hy
 refine⟨e',rfl,e_.aB _ (λm hm=>by have hm:H.length<=m:=hm;show h.length<=m;omega) (kp _ _) _ oe,ce.aA oe (kp _ _),(X3 _).aD (by omega) _⟩
def yi (P:Program)(f:FuncId):Prop:=fI P f=true/\∀(F:Nat->Prop)(h:eZ)(id:Int)(x:fV)(az:List AV)(draw:Int),fu F h x.c az->x.aK->
 fy P f [.aA .i64 id,.aE az,.aA .i64 draw] h λv h'=>∃r,v=.aC r 26 0 0/\h.length<=r/\(∀L0:Nat->Nat,(∀m,L0 m=0\/L0 m=11)->∃L,DX L h' r ⟨fm.bA id x draw,hM.aE⟩/\∀m,m<h.length->L m=L0 m)/\eY fj h h'
theorem My {P:Program}{f f1 f2:FuncId}(hf:Is P f (AE f1 f2))(u1:DQ P f1)(u2:oK P f2):yi P f:=by
 refine⟨hf.2,λF h id x az draw hx t=>fN hf ?_⟩
 obtain⟨e,o,n,d,s,rfl,he,ho,hn,hd,hs⟩:=kW hx
 simp only[AE,fV.aG,go_sem,he.aA,ho.aA,hn.aA,hd.aA,hs.aA]
 have X:=eY.b2 (h:=h) (some (fh.aA 10 [x.aG e o n d s] false)) none
 have N:=iq h (some (fh.aA 10 [x.aG e o n d s] false)) none
 have B:=iE h (some (fh.aA 10 [x.aG e o n d s] false)) none
 simp only[fV.aG]at X B N
 refine fq ⟨u1.1,u1.2 F _ x _ (fu.up hx X) t⟩ ?_
 rintro _ H2 ⟨e',rfl,oe,ce,X2⟩
 have se:=oe.aA
 have N2:=X2.aA N
 have B2:=X2.aA B
 have l2:=X2.1
 simp only[kU]at l2
 have lN:h.length+1<H2.length:=by omega
 simp only[go_sem,N2,B2,kK]
 refine fR u2.1 (u2.2 _ draw) ?_
 simp only[fV.aP,go_sem,N2,B2,kK,se,iB,l7]
 have row:(H2.set (h.length+1) (some (fh.aA 26 [(⟨fm.bA id x draw,hM.aE⟩:RX).aB .aB .aB .aB .aB e' (fA x.aC.aA) (fA x.aC.aB) (fA x.aC.aC) (gV x.aF)] false)))[h.length+1]?=some (some (fh.aA 26 [(⟨fm.bA id x draw,hM.aE⟩:RX).aB .aB .aB .aB .aB e' (fA x.aC.aA) (fA x.aC.aB) (fA x.aC.aC) (gV x.aF)] false)):=Vd lN
 simp only[kU]at oe
 have kp:∀b:Option fh,gz (λm=>h.length+1+1<=m) H2 (H2.set (h.length+1) b):=λb m hm y hy=>by
  have hm:h.length+1+1<=m:=hm
  rw[Vb (by omega)];exact hy
 have XF:∀b,eY fj h (H2.set (h.length+1) b):=λb=>(X.tr X2).aD (by omega) b
 refine⟨h.length+1,rfl,by omega,?_,XF _⟩
 obtain ⟨N, hN, mk⟩ := Da (e_.aB _ (λ_ y => y) (kp (some (fh.aA 26 [(⟨fm.bA id x draw, hM.aE⟩ : RX).aB .aB .aB .aB .aB e' (fA x.aC.aA) (fA x.aC.aB) (fA x.aC.aC) (gV x.aF)] false))) _ oe) (ce.aA oe (kp _))
 simp only[Vh]at hN
 intro L0 hL0
 classical
 refine⟨λm=>if m<h.length then L0 m else if m=h.length+1 then 10 else if N m then 5 else 0,⟨.aB,.aB,.aB,.aB,e',fA x.aC.aA,fA x.aC.aB,fA x.aC.aC,gV x.aF,row,λp hp=>?_,(Ve (by omega)).trans (Vf rfl),λm hm=>?_⟩,λm hm=>Vf hm⟩
 ·simp only[dl,VR,Xl,or_false]at hp
  rcases hp with rfl | rfl | rfl | rfl | rfl | rfl | rfl | rfl | rfl
  ·exact iY.aB _ _ 1 1
  ·exact iY.aB _ _ 2 4
  ·exact iY.aB _ _ 3 17
  ·exact iY.aB _ _ 4 17
  ·refine mk _ (λm hm=>?_) (λm h1 h2 h3=>?_)
   ·have:=(hN m hm).1
    show (if m<h.length then L0 m else if m=h.length+1 then 10 else if N m then 5 else 0)=5
    rw[Ve (by omega),Ve (by omega),Vf hm]
   ·show (if m<h.length then L0 m else if m=h.length+1 then 10 else if N m then 5 else 0)=0
    rw[Ve (by omega),Ve (by omega),Ve h3]
  ·exact⟨λz=>by simp at z,λ_=>uQ _ _ _⟩
  ·exact⟨λz=>by simp at z,λ_=>uQ _ _ _⟩
  ·exact⟨λz=>by simp at z,λ_=>uQ _ _ _⟩
  ·exact⟨λz=>by simp at z,λ_=>kO _ _ _⟩
 ·rw[Vh]
  by_cases b:m<h.length
  ·omega
  ·by_cases c:m=h.length+1
   ·omega
   ·by_cases d:N m
    ·exact (hN m d).2
    ·simp only[b,c,d,VO]at hm;exact absurd rfl hm
theorem fX.aF {P:Program}{ff:FuncId}{t:List AV}{L:Nat->Nat}{h h':eZ}{r:Nat}{x z:RX}(hz:∀m,h.length<=m->L m=0)(T:fX L h r x h')(hc:∀L',DX L' h' r x->fy P ff t h' λv h''=>gQ L' h' r z v h''):fy P ff t h' λv h''=>gQ L h r z v h'':=by
 obtain⟨L1,x1,l1,e1⟩:=T;have k:∀m,L1 m≠11->L m≠11:=λm hm=>by
  by_cases c:m<h.length
  ·rw[<-l1 m c];exact hm
  ·rw[hz m (by omega)];decide
 refine (hc L1 x1).aA ?_;rintro v h'' ⟨⟨ma,ca,aa,e,r1,r2,r3⟩,b⟩;exact⟨⟨ma,ca,aa,e,Rd.aC k (λ_ _ _ y=>y) _ _ r1,Rd.aC k (λ_ _ _ y=>y) _ _ r2,Rd.aC k (λ_ _ _ y=>y) _ _ r3⟩,fX.aE l1 e1 b⟩
section
variable {L:Nat->Nat} {h h1:eZ} {r:Nat} {x x':RX} {g f ma ca e co cn cl sn g' f' ma' ca' e' co' cn' cl' sn':AV}
theorem gT.aJ (a:gT L h r x g f ma ca e co cn cl sn){k:Nat}(hx:eY fj h h1)(N:Nat->Prop)(hN:∀m,N m->h.length<=m/\m<h1.length)
  (hp:∀p∈dl x' g' f' ma' ca' e' co' cn' cl' sn',p∈dl x g f ma ca e co cn cl sn\/∀L':Nat->Nat,(∀m,N m->L' m=k)->(∀m,h.length<=m->m<h1.length->¬N m->L' m=0)->iY L' h1 p):
  fX L h r x' (h1.set r (some (.aA 26 [x'.aB g' f' ma' ca' e' co' cn' cl' sn'] false))):=by
 classical
 have z:∀m,h.length<=m->L m=0:=λm hm=>a.z hm;have lr:=(U_.1 a.aA).1;have hl1:=hx.1;have b:=a.lr;generalize hH:h1.set r (some (.aA 26 [x'.aB g' f' ma' ca' e' co' cn' cl' sn'] false))=H;have E:H.length=h1.length:=by rw[<-hH];simp
 have ke:∀m,m≠r->H[m]?=h1[m]?:=λm hm=>by rw[<-hH];exact Vb (λy=>hm y.symm)
 have kh:∀m,m<h.length->m≠r->H[m]?=h[m]?:=λm hm hr=>(ke m hr).trans (hx.2 m hm (λy=>y));have nr:∀m,L m≠10->m≠r:=λm hm=>by rintro rfl;exact hm b
 obtain⟨L',t⟩:∃L':Nat->Nat,L'=λm=>if m<h.length then L m else if N m then k else 0:=⟨_,rfl⟩
 have lo:∀m,m<h.length->L' m=L m:=λm hm=>by rw[t];exact Vf hm
 have ln:∀m,N m->L' m=k:=λm h3=>by rw[t];show (if _ then _ else if _ then _ else _)=_;rw[Ve (by have:=(hN m h3).1;omega),Vf h3]
 have l0:∀m,h.length<=m->¬N m->L' m=0:=λm h1 h3=>by rw[t];show (if _ then _ else if _ then _ else _)=_;rw[Ve (by omega),Ve h3]
 have u:=lo r lr;refine⟨L',⟨g',f',ma',ca',e',co',cn',cl',sn',by rw[<-hH];exact Vd (by omega),λp C=>?_,u.trans b,λm hm=>?_⟩,lo,⟨by omega,λm hm hn=>?_⟩⟩
 ·have d:=kt C;rcases hp p C with c1 | on;·exact (a.aB p c1).aA d (by omega) lo λm hm hl=>kh m hm (nr m (by omega))
  ·exact (on L' ln λm h2 _ h4=>l0 m h2 h4).aA d (by omega) (λ_ _=>rfl) λm hm hl=>ke m (by rintro rfl;rw[u,b]at hl;omega)
 ·rw[E];by_cases c:m<h.length;·omega
  ·refine Vm λy=>hm (l0 m (by omega) λz=>y (hN m z).2)
 ·have hn':L m=0\/L m=11:=by have hn:¬(L m≠0/\L m≠11):=hn;omega
  exact kh m hm (nr m (by omega))
theorem gT.aI (a:gT L h r x g f ma ca e co cn cl sn){k:Nat}{d:D}{c:AV}(hx:eY fj h h1)(N:Nat->Prop)(hN:∀m,N m->h.length<=m/\m<h1.length)
  (ho:∀L':Nat->Nat,(∀m,N m->L' m=k)->(∀m,h.length<=m->m<h1.length->¬N m->L' m=0)->iY L' h1 (k,d,c)) (hp:dl x' g' f' ma' ca' e' co' cn' cl' sn'=(dl x g f ma ca e co cn cl sn).set (k-1) (k,d,c)):
  fX L h r x' (h1.set r (some (.aA 26 [x'.aB g' f' ma' ca' e' co' cn' cl' sn'] false))):=
 a.aJ hx N hN λp h1=>by rw[hp]at h1;exact (WK h1).imp_right λe=>by rw[e];exact ho
end
theorem sw:∀(l:List fO)(x:RX),(x.aJ l).o.aF=x.o.aF/\(x.aJ l).o.aA=x.o.aA
 | [],_=>⟨rfl,rfl⟩
 | w :: l,x=>sw l (x.to w)
theorem uS:∀(l:List fB)(x:RX),(x.aO l).o.aF=x.o.aF/\(x.aO l).o.aA=x.o.aA
 | [],_=>⟨rfl,rfl⟩
 | w :: l,x=>uS l (x.aG w)
theorem CI (x:RX):x.aP.o.aF=x.o.aF/\x.aP.o.aA=x.o.aA:=sw _ _
theorem MU {P:Program}{f1 f2 f3 f4 f5 f6 f7 f8 f9 f10 f11 f12:FuncId}(u2:pn P f2)(u5:ru P f5)(u6:qg P f6)(u7:oK P f7)(u8:rz P f8)(u9:tB P f9)(u10:ou P f10)(u11:pZ P f11)(u12:oA P f12)
  {L:Nat->Nat} {h H:eZ} {r n k:Nat} {R:fm} {draw:Int} (T:fX L h r R.aC H) (hR:R.aD k) (hk:k+1<2^28) (ht:R.aA.aB<2^40) (hn:L n=11) (B:h[n]?=some (some (fh.aA 5 [[.aB,.aB,.aB,.aA .i64 0,.aD false]] false))) (hz:∀m,h.length<=m->L m=0)
  {Λ:fY} (k0:lk 0 Λ=.aC r 26 0 0) (k1:lk 1 Λ=.aA .i64 draw) (k4:lk 4 Λ=.aC n 5 0 0) {K:AV->eZ->Prop} (hK:∀v h' b,gQ L h r (R.aC.aW draw).aD v h'->K v (h'.set n b)):
  vc P (mH f1 f2 f3 f4 f5 f6 f7 f8 f9 f10 f11 f12).aA.tl.tl.tl.tl ⟨Λ,[],H⟩ (ia (mH f1 f2 f3 f4 f5 f6 f7 f8 f9 f10 f11 f12).aB K):=by
 have sf:=xJ (x:=R.aC) hR (by omega) (iM R) ht draw;have tm:=hR.aJ;have idok:=hR.id;have ew:IntKind.i64.wrap (R.aA.aB+1)=R.aA.aB+1:=fQ (by omega);obtain⟨g,ff,ma,ca,e,co,cn,cl,sn,r1,r2,t1,t2,t3,t4,t5,go⟩:=T.aD;simp only[RX.aB,fm.aC,hM.aE]at r1;simp only[mH,AC.aA,go_sem,k0,r1,ew];refine fq ⟨u5.1,T.aA λL' s'=>u5.2 L' H r _ (R.aA.aB+1) R.id s' (by show (0+1)*216<=2^46;decide)⟩ ?_;intro _ H2 T2;rw[gF];simp only[go_sem,k0];refine fq ⟨u6.1,T2.aA λL' s'=>u6.2 L' H2 r _ 0 s'⟩ ?_;intro _ H3 T3;obtain⟨y,hy⟩:∃y,y=((R.aC.aL (R.aA.aB+1) R.id).aS 0):=⟨_,rfl⟩;have yfit:y.r.aD k:=by rw[hy];have:=(hR.aW (t:=R.aA.aB+1) (v:=R.id) ⟨by omega,by omega⟩ ⟨by omega,by omega⟩).aF 0;exact this
 have yfew:y.aA 1:=by rw[hy];have:=RX.aA.aC (x:=({r:={R with aA:={R.aA with aB:=R.aA.aB+1,aE:=R.id}},o:=hM.aE}:RX)) (iM _) {fU.aD with aC:=1,aK:=R.aA.aB+1,aL:=R.id};exact this
 have est:(R.aC.aW draw)=(let z:RX:={y with r:={y.r with aM:=1,aF:=0,aT:=jV draw,aG:=[y.r.id]}}
  if z.r.aE.aG z.r.aG then z.aP else z.aO (jo z.r.id z.r.aA.aD z.r.aA.aB z.r.aA.aA z.r.aE)):=by rw[hy];rfl
 have yz:y.o.aF=[]/\y.o.aA=0:=by rw[hy];exact⟨rfl,rfl⟩
 have e0:(R.aC.aL (R.aC.r.aA.aB+1) R.aC.r.id).aS 0=y:=hy.symm;rw[est]at hK sf;rw[show ((R.aC.aL (R.aA.aB+1) R.id).aS 0)=y from hy.symm]at T3;clear hy est T2 e0;obtain⟨L3,⟨g3,f3',ma3,ca3,en3,co3,cn3,cl3,sn3,a3⟩,l3,x3⟩:=id T3;have row3:=a3.aA;have lr3:=(U_.1 row3).1;simp only[RX.aB]at row3;have a4:=a3.aK (x':={y with r:={y.r with aM:=1,aF:=0,aT:=jV draw}}) (g':=g3) (f':=f3') (ma':=ma3) (ca':=ca3) (e':=en3) (co':=co3) (cn':=cn3) (cl':=cl3) (sn':=sn3) [] rfl;simp only[RX.aB]at a4;simp only[go_sem,k0,k1,row3,Vd lr3,V8];refine fR u7.1 (u7.2 _ draw) ?_;simp only[go_sem,k0,Vd lr3,Vh,V8];have x4:eY (λm=>L3 m≠0/\L3 m≠11) H3 (H3.set r (some (fh.aA 26 [({y with r:={y.r with aM:=1,aF:=0,aT:=jV draw}}:RX).aB g3 f3' ma3 ca3 en3 co3 cn3 cl3 sn3] false))):=eY.aG _ λ_=>by show L3 r≠0/\L3 r≠11;rw[a3.lr];decide
 have l4:(H3.set r (some (fh.aA 26 [({y with r:={y.r with aM:=1,aF:=0,aT:=jV draw}}:RX).aB g3 f3' ma3 ca3 en3 co3 cn3 cl3 sn3] false))).length=H3.length:=Vh;simp only[RX.aB]at x4 l4;rw[<-l4];have row4:=a4.aA;simp only[RX.aB]at row4;generalize H3.set r _=H4 at *;have lr4:=(U_.1 row4).1;have R4:∀y,(H4++[y])[r]?=_:=λy=>(eY.b1 y).aA row4;have N4:∀sz i o,gN H4.length 1 (.aC r sz i o)=true:=λsz i o=>iv lr4;have s4:r<H4.length+1:=by omega
 simp only[go_sem,R4,VD,VN];obtain⟨z,hzz⟩:∃z:RX,z={y with r:={y.r with aM:=1,aF:=0,aT:=jV draw,aG:=[y.r.id]}}:=⟨_,rfl⟩;have T5:=a4.aI (k:=1) (d:=fK [y.r.id]) (c:=.aF H4.length 1 0 1 (some 1)) (eY.b1 (some (fh.aA 1 [[.aA .i64 y.r.id]] false))) (λm=>m=H4.length) (λm hm=>by subst hm;simp)
  (λL' hL _=>⟨λ_=>⟨1,[[D.aA .i64 y.r.id]],[[.aA .i64 y.r.id]],rfl,.inl (.inr ⟨H4.length,0,some 1,[[.aA .i64 y.r.id]],false,rfl,hL _ rfl,gh _ _,by simp,(λc hc=>by cases hc;simp),(λe=>by cases e),(λc hc=>by cases hc;simp),rfl⟩),
   by simp only[gC,fu];exact⟨_,_,rfl,⟨_,_,rfl,rfl,rfl⟩,rfl⟩⟩,λz=>absurd z (by show ¬5<1;decide)⟩)
  (x':=z) (g':=.aF H4.length 1 0 1 (some 1)) (f':=f3') (ma':=ma3) (ca':=ca3) (e':=en3) (co':=co3) (cn':=cn3) (cl':=cl3) (sn':=sn3) (by rw[hzz];rfl)
 have T5:=fX.aE l3 (x3.aB x4 (λ_ _ y=>y) λm hm z=>by rw[<-l3 m hm];exact z) T5;have zfit:z.r.aD k:=by rw[hzz];obtain⟨g1,g2,g3,g4,g5,g6,g7,g8,g9,g10,g11,g12,g13,g14,g15⟩:=yfit;exact⟨g1,g2,g3,g4,g5,g6,g7,g8,g9,⟨Wm _,by show (0:Int)<=k;omega⟩,g11,g12,by show [y.r.id].length<=k+1;simp,g14,g15⟩
 have zg:z.r.aG=[y.r.id]:=by rw[hzz]
 have zid:z.r.id=y.r.id/\z.r.aA=y.r.aA:=by rw[hzz];exact⟨rfl,rfl⟩
 have zfew:z.aA 1:=by rw[hzz];exact yfew
 have zz:z.o.aF=[]/\z.o.aA=0:=by rw[hzz];exact yz
 have est:(let z:RX:={y with r:={y.r with aM:=1,aF:=0,aT:=jV draw,aG:=[y.r.id]}}
  if z.r.aE.aG z.r.aG then z.aP else z.aO (jo z.r.id z.r.aA.aD z.r.aA.aB z.r.aA.aA z.r.aE))=if z.r.aE.aG z.r.aG then z.aP else z.aO (jo z.r.id z.r.aA.aD z.r.aA.aB z.r.aA.aA z.r.aE):=by rw[hzz]
 rw[est]at hK sf;have row5:(List.set (H4++[some (fh.aA 1 [[AV.aA IntKind.i64 y.r.id]] false)]) r (some (fh.aA 26 [z.aB (.aF H4.length 1 0 1 (some 1)) f3' ma3 ca3 en3 co3 cn3 cl3 sn3] false)))[r]?=some (some (fh.aA 26 [z.aB (.aF H4.length 1 0 1 (some 1)) f3' ma3 ca3 en3 co3 cn3 cl3 sn3] false)):=Vd (by simp;omega);have g5:(List.set (H4++[some (fh.aA 1 [[AV.aA IntKind.i64 y.r.id]] false)]) r (some (fh.aA 26 [z.aB (.aF H4.length 1 0 1 (some 1)) f3' ma3 ca3 en3 co3 cn3 cl3 sn3] false)))[H4.length]?=some (some (fh.aA 1 [[AV.aA IntKind.i64 y.r.id]] false)):=(Vb (by omega)).trans (gh _ _);have zrow:z.aB (.aF H4.length 1 0 1 (some 1)) f3' ma3 ca3 en3 co3 cn3 cl3 sn3=[.aA .i64 y.r.id,.aA .i64 y.r.aA.aD,.aA .i64 y.r.aA.aB,.aA .i64 y.r.aA.aE,.aA .i64 y.r.aA.aA.aA,.aA .i64 y.r.aA.aA.aB,en3,co3,cn3,cl3,sn3,
  .aA .i64 y.r.aI,.aA .i64 y.r.aO,.aA .i64 1,.aA .i64 y.r.aW,.aA .i64 0,.aA .i64 (jV draw),.aF H4.length 1 0 1 (some 1),f3',.aA .i64 y.r.aL,.aA .i64 y.r.aN,ma3,ca3,.aB,.aA .i64 0,.aD y.o.aB]:=by rw[hzz];rfl
 rw[zrow]at T5 row5 g5;obtain⟨H5,hH5⟩:∃H5,H5=List.set (H4++[some (fh.aA 1 [[AV.aA IntKind.i64 y.r.id]] false)]) r (some (fh.aA 26 [[.aA .i64 y.r.id,.aA .i64 y.r.aA.aD,.aA .i64 y.r.aA.aB,.aA .i64 y.r.aA.aE,.aA .i64 y.r.aA.aA.aA,.aA .i64 y.r.aA.aA.aB,en3,co3,cn3,cl3,sn3,.aA .i64 y.r.aI,.aA .i64 y.r.aO,.aA .i64 1,.aA .i64 y.r.aW,.aA .i64 0,.aA .i64 (jV draw),.aF H4.length 1 0 1 (some 1),f3',.aA .i64 y.r.aL,.aA .i64 y.r.aN,ma3,ca3,.aB,.aA .i64 0,.aD y.o.aB]] false)):=⟨_,rfl⟩;rw[<-hH5]at T5 row5 g5 ⊢;clear hH5;simp only[go_sem,k0,row5];obtain⟨L5,d5,l5,x5⟩:=id T5;have rg5:Rd (λ_=>True) H5 (fK z.r.aG) (.aF H4.length 1 0 1 (some 1)):=by rw[zg];exact⟨_,.inr (.inr ⟨_,0,1,some 1,_,_,rfl,Vp,g5,by simp,(λc hc=>by cases hc;simp),rfl⟩),by simp[gC,fu,Rd]⟩
 refine fR u8.1 (u8.2 L5 H5 r z k _ z.r.aG _ d5 zfit (by omega) rg5 (by rw[zg];simp)) ?_;have tail:∀(y:RX)(v:AV)(h':eZ),y=(if z.r.aE.aG z.r.aG then z.aP else z.aO (jo z.r.id z.r.aA.aD z.r.aA.aB z.r.aA.aA z.r.aE))->gQ L h r y.aD v h'->∃ma ca aa,v=.aE [ma,ca,aa,.aA .i64 y.aD.o.aA,.aD y.aD.o.aB]/\ma.aG=true/\ca.aG=true/\aa.aG=true/\h'[n]?=some (some (fh.aA 5 [[.aB,.aB,.aB,.aA .i64 0,.aD false]] false))/\n<h'.length:=by intro y v h' e d;have b5:=d.2.aC (.inr hn) B;obtain⟨ma5,ca5,aa5,rfl,q1,q2,q3⟩:=id d.1;exact⟨ma5,ca5,aa5,rfl,q1.aA,q2.aA,q3.aA,b5,(U_.1 b5).1⟩
 cases cw:z.r.aE.aG z.r.aG
 ·rw[cw]at hK sf;simp only[go_sem,k0,VO];refine fR u10.1 (u10.2 L5 H5 r z k d5 zfit (by omega)) ?_;simp only[go_sem,k0,fG.aD,iB];obtain⟨g6,f6',ma6,ca6,en6,co6,cn6,cl6,sn6,a5⟩:=id d5;have X6:=eY.b1 (h:=H5) (some (fh.aA 3 [[fA z.r.aE.aA,fA z.r.aE.aB,fA z.r.aE.aC]] false));have R6:=X6.aA a5.aA;have lg:=a5.aC.up X6;have rc:fu fj (H5++[some (fh.aA 3 [[fA z.r.aE.aA,fA z.r.aE.aB,fA z.r.aE.aC]] false)]) z.r.aE.c [fA z.r.aE.aA,fA z.r.aE.aB,fA z.r.aE.aC]:=by have:=my fj (H5++[some (fh.aA 3 [[fA z.r.aE.aA,fA z.r.aE.aB,fA z.r.aE.aC]] false)]) z.r.aE.c;rwa [show D.aB z.r.aE.c=_ from fG.aD _]at this
  have ak:=u11.2 _ fj _ z.r.id z.r.aA.aD z.r.aA.aB z.r.aA.aA z.r.aE _ _ lg rc (zfit.aB (by omega)) (zfit.aG (by decide));obtain⟨s1,s2,s3,s4,s5,s6,s7,s8,s9⟩:=a5.sc;simp only[RX.aB]at R6;simp only[go_sem,k0,R6];have d6:=d5.up X6;have z6:∀m,H5.length<=m->L5 m=0:=λm hm=>a5.z hm;have hl6:=X6.1;have B6:=gh H5 (some (fh.aA 3 [[fA z.r.aE.aA,fA z.r.aE.aB,fA z.r.aE.aC]] false));generalize H5++_=H6 at *;refine fq ⟨u11.1,ak⟩ ?_;rintro a H7 ⟨oo,X7⟩;have hno:=y0 (id:=z.r.id) (group:=z.r.aA.aD) (term:=z.r.aA.aB) (l:=z.r.aA.aA) (c:=z.r.aE);have hal:(jo z.r.id z.r.aA.aD z.r.aA.aB z.r.aA.aA z.r.aE).length<=14:=Vr (yZ _ _ _ _ _) (uW zfit.aM);generalize jo z.r.id z.r.aA.aD z.r.aA.aB z.r.aA.aA z.r.aE=ms at *;obtain⟨lna,sa⟩:=oo.aC;have B7:=X7.aA B6;have R7:=X7.aA R6;simp only[Vo]at lna;rw[gF];have d7:=d6.up X7;simp only[go_sem,B7,R7];have e7:eY (λm=>L m≠0/\L m≠11) h H7:=(x5.aB X6 (λ_ _ z=>z) (λ_ _ z=>z.elim)).aB X7 (λ_ _ z=>z) (λ_ _ z=>z.elim);obtain⟨I,hI⟩:∃I:Nat->fY->eZ->Prop,∀m Le h',I m Le h'↔∃i:Nat,lk 0 Le=.aC r 26 0 0/\lk 4 Le=.aC n 5 0 0/\lk 7 Le=a/\lk 8 Le=.aA .i64 i/\fX L5 H7 r (z.aO (ms.take i)) h'/\i<=ms.length/\m=ms.length-i:=⟨_,λ_ _ _=>Wu⟩;refine gJ I ms.length ((hI _ _ _).2 ⟨0,by simp[fi,k0],by simp[fi,k4],by simp[fi],by simp[fi],d7.to,by omega,by omega⟩) ?_;intro m Le h' hh;obtain⟨i,q0,q4,q7,q8,T,hi,rfl⟩:=(hI _ _ _).1 hh;simp only[FY,go_sem,q7,q8,lna];refine gx (λci=>?_) (λci=>?_)
  ·simp at ci;have ew:IntKind.i64.wrap ((i:Int)+1)=((i+1:Nat):Int):=by rw[fQ (by omega)];omega
   obtain⟨n',q,row,gr,i1,i2,i3,i4⟩:=oo.aA (i:=i) (e:=jY ms[i]) (by rw[VE,Vi ci];rfl);have tk:ms.take (i+1)=ms.take i++[ms[i]]:=Vv ci;obtain⟨ne1,ne2⟩:=hno _ (VU ci);have sr:=xI (ms.take i) z;have tl:=Wn i ms;have sn:=IC z (ms.take i) ms[i];generalize ms[i]=m at *;have i5:=T.aC (.inl (z6 n' (by omega))) i3;have ld:gX h' true 17 (.aC n' 17 q 0)=some (.aE (jY m)):=by rw[hP (cs:=jY m) (by simp[im,i5,i4])];rfl
   simp only[jY,fB.aB]at ld;simp only[go_sem,q0,q7,q8,i1,ld];have sd:=T.aA λL' s'=>u12.2 L' h' r _ fj m (jY m) s' (by rw[jY];exact qT (m:=m) (by rw[ne1];exact iS _ _ _) (by rw[ne2];exact iS _ _ _)) (by rw[ne1];exact⟨VP _,nofun⟩) (by rw[ne2];exact VP _) (by
    have h1:=sr.2.2;have h2:=zfew.1;have a:(z.aO (ms.take i)).o.aD.length+1<=2^21:=by omega
    exact Vr (Vx 168 a) (by decide))
   simp only[jY,fB.aB]at sd;refine fq ⟨u12.1,sd⟩ ?_;intro _ h2 T2;simp only[go_sem,q8,ew];exact⟨_,by omega,(hI _ _ _).2 ⟨i+1,by simp[fi,q0],by simp[fi,q4],by simp[fi,q7],by simp[fi],by rw[tk,sn];exact T2,by omega,rfl⟩⟩
  ·simp at ci;obtain rfl:i=ms.length:=by omega
   rw[VH]at T;simp only[go_sem,q0];refine fq ⟨u2.1,(fX.aE l5 e7 T).aF hz λL' s'=>u2.2 L' h' r _ (k+1) s' sf.1 (by omega) (by rw[(uS ms z).1,(uS ms z).2];exact zz)⟩ ?_;rintro v H8 d;obtain⟨ma7,ca7,aa7,rfl,p1,p2,p3,p4,p5⟩:=tail _ _ _ (by rw[cw];rfl) d;simp only[go_sem,q4,p1,p2,p3,p4,p5];exact hK _ _ _ d
 ·rw[cw]at hK sf;simp only[go_sem,k0,V3]at hK sf ⊢;refine fq ⟨u9.1,T5.aA λL' s'=>u9.2 L' H5 r z k 1 s' zfit (by omega) zfew (by omega)⟩ ?_;intro _ H6 T6;simp only[go_sem,k0];refine fq ⟨u2.1,T6.aF hz λL' s'=>u2.2 L' H6 r _ (k+1) s' sf.1 (by omega) (by rw[(CI z).1,(CI z).2];exact zz)⟩ ?_;rintro v H7 d;obtain⟨ma7,ca7,aa7,rfl,q1,q2,q3,q4,q5⟩:=tail _ _ _ (by rw[cw];rfl) d;simp only[go_sem,k4,q1,q2,q3,q4,q5];exact hK _ _ _ d
def vE (P:Program)(f:FuncId):Prop:=fI P f=true/\∀(L:Nat->Nat)(h:eZ)(r:Nat)(R:fm)(k:Nat)(draw:Int),DX L h r R.aC->R.aD k->k+2<2^28->fy P f [.aC r 26 0 0,.aA .i64 draw] h λv h'=>gQ L h r (R.aQ draw) v h'
theorem MT {P:Program}{f f1 f2 f3 f4 f5 f6 f7 f8 f9 f10 f11 f12:FuncId}(hf:Is P f (mH f1 f2 f3 f4 f5 f6 f7 f8 f9 f10 f11 f12))(u1:rq P f1)(u2:pn P f2)(u3:ry P f3)(u4:oz P f4)(u5:ru P f5)(u6:qg P f6)(u7:oK P f7)(u8:rz P f8)(u9:tB P f9)(u10:ou P f10)(u11:pZ P f11)(u12:oA P f12):vE P f:=by
 refine⟨hf.2,λL h r R k draw hx hR hk=>fN hf ?_⟩;have X:=eY.b1 (h:=h) (some (fh.aA 5 [[.aB,.aB,.aB,.aA .i64 0,.aD false]] false));obtain⟨E,hE⟩:∃E,E=(mH f1 f2 f3 f4 f5 f6 f7 f8 f9 f10 f11 f12).aA.tl.tl:=⟨_,rfl⟩;have hE':=hE;simp only[mH,AC.aA,fC]at hE';simp only[mH,fC];rw[<-hE'];clear hE';simp only[go_sem];have B:=gh h (some (fh.aA 5 [[.aB,.aB,.aB,.aA .i64 0,.aD false]] false));have lB:=(U_.1 B).1;have m0:=hx.aB X (Vg _) lB;have l0:(λm=>if m=h.length then 11 else L m) h.length=11:=Vf rfl;obtain⟨H,hH⟩:∃H,H=h++[some (fh.aA 5 [[.aB,.aB,.aB,.aA .i64 0,.aD false]] false)]:=⟨_,rfl⟩;rw[<-hH]at X B lB m0 ⊢;clear hH;obtain⟨L0,hL0⟩:∃L0,L0=λm=>if m=h.length then 11 else L m:=⟨_,rfl⟩
 rw[<-hL0]at m0 l0;have hz0:∀m,H.length<=m->L0 m=0:=λm hm=>m0.z hm;obtain⟨g,ff,ma,ca,e,co,cn,cl,sn,r1,r2,t1,t2,t3,t4,t5,go⟩:=m0.to.aD;simp only[RX.aB,fm.aC,hM.aE]at r1;have hb:=hR.aY;have he:=hR.aZ;have ewb:IntKind.i64.wrap (R.aN+1)=R.aN+1:=fQ (by omega);have ewe:IntKind.i64.wrap (R.aF+1)=R.aF+1:=fQ (by omega);have fin:∀(y:RX)(H2:eZ),R.aQ draw=y.aD->y.r.aD (k+2)->y.o.aF=[]/\y.o.aA=0->fX L0 H r y H2->fy P f2 [.aC r 26 0 0] H2 λv h'=>gQ L0 H r (R.aQ draw) v h':=by intro y H2 ey yf yz T;rw[ey];exact fX.aF hz0 T λL' s'=>u2.2 L' H2 r y (k+2) s' yf (by omega) yz
 have keepB:∀{z:RX}{H3:eZ}{v:AV},gQ L0 H r z v H3->H3[h.length]?=some (some (fh.aA 5 [[.aB,.aB,.aB,.aA .i64 0,.aD false]] false))/\h.length<H3.length:=λd=>by have:=d.2.aC (.inr l0) B;exact⟨this,(U_.1 this).1⟩
 have fill:∀{z:RX}{H3:eZ}{v:AV}(b:Option fh),gQ L0 H r z v H3->gQ L h r z v (H3.set h.length b):=λb d=>by rw[hL0]at d;exact gQ.aB (Vg _) lB X d b
 by_cases c1:R.aM=2
 ·simp only[go_sem,r1,Vc c1,ewb,Vd r2];by_cases c2:2<=R.aN+1
  ·have et:R.aQ draw=(({R with aN:=0}:fm).aC.on).aD:=by unfold fm.aQ;rw[Vf c1,Vf c2]
   have T1:=go ({R with aN:=0}:fm).aC [] g ff ma ca e co cn cl sn rfl;simp only[RX.aB,fm.aC,hM.aE]at T1;simp only[go_sem,Vc c2,Vd r2,V8];have f0:({R with aN:=0}:fm).aD k:=by obtain⟨g1,g2,g3,g4,g5,g6,g7,g8,g9,g10,g11,g12,g13,g14,g15⟩:=hR;exact⟨g1,g2,g3,g4,g5,g6,g7,g8,g9,g10,⟨Wm _,by show (0:Int)<=1;omega⟩,g12,g13,g14,g15⟩
   refine fq ⟨u1.1,T1.aA λL' s'=>u1.2 L' _ r _ k 0 s' f0 (by omega) (iM _) (by omega)⟩ ?_;intro _ H4 T4;simp only[go_sem];refine fq ⟨u2.1,fin _ H4 et ((sN (x:=({R with aN:=0}:fm).aC) f0 (iM _)).1.aA (by omega)) (sw _ _) T4⟩ ?_;rintro v H5 d;have⟨B5,lB5⟩:=keepB d;obtain⟨ma5,ca5,aa5,rfl,q1,q2,q3⟩:=id d.1;have sm:=q1.aA;have sc:=q2.aA;have sa:=q3.aA;simp only[go_sem,B5,lB5,sm,sc,sa];exact fill _ d
  ·have et:R.aQ draw=(({R with aN:=R.aN+1}:fm).aC).aD:=by unfold fm.aQ;rw[Vf c1,Ve c2]
   have T1:=go ({R with aN:=R.aN+1}:fm).aC [] g ff ma ca e co cn cl sn rfl;simp only[RX.aB,fm.aC,hM.aE]at T1;simp only[go_sem,Va c2];refine fq ⟨u2.1,fin _ _ et ?_ ⟨rfl,rfl⟩ T1⟩ ?_;·obtain⟨g1,g2,g3,g4,g5,g6,g7,g8,g9,g10,g11,g12,g13,g14,g15⟩:=hR.aA (show k<=k+2 by omega);exact⟨g1,g2,g3,g4,g5,g6,g7,g8,g9,g10,⟨by show 0<=R.aN+1;omega,by show R.aN+1<=1;omega⟩,g12,g13,g14,g15⟩
   rintro v H5 d;have⟨B5,lB5⟩:=keepB d;obtain⟨ma5,ca5,aa5,rfl,q1,q2,q3⟩:=id d.1;have sm:=q1.aA;have sc:=q2.aA;have sa:=q3.aA;simp only[go_sem,B5,lB5,sm,sc,sa];exact fill _ d
 ·simp only[go_sem,r1,Va c1];obtain⟨E2,hE2⟩:∃E2,E2=(mH f1 f2 f3 f4 f5 f6 f7 f8 f9 f10 f11 f12).aA.tl.tl.tl.tl:=⟨_,rfl⟩;obtain⟨rs,hrs⟩:∃rs,rs=(mH f1 f2 f3 f4 f5 f6 f7 f8 f9 f10 f11 f12).aB:=⟨_,rfl⟩;have hE3:=hE2;have hrs3:=hrs;simp only[mH,AC.aA,fC]at hE3 hrs3;rw[hE];simp only[mH,AC.aA,fC];rw[<-hE3];clear hE3;have T1:=go ({R with aF:=R.aF+1}:fm).aC [] g ff ma ca e co cn cl sn rfl;simp only[RX.aB,fm.aC,hM.aE]at T1;have fs:({R with aF:=R.aF+1}:fm).aD (k+1):=by obtain⟨g1,g2,g3,g4,g5,g6,g7,g8,g9,g10,g11,g12,g13,g14,g15⟩:=hR.aA (WB k);exact⟨g1,g2,g3,g4,g5,g6,g7,g8,g9,⟨by show 0<=R.aF+1;omega,by show R.aF+1<=((k+1:Nat):Int);omega⟩,g11,g12,g13,g14,g15⟩
  simp only[go_sem,r1,ewe,Vd r2,Vh];have r3:=Vd (a:=some (fh.aA 26 [({R with aF:=R.aF+1}:fm).aC.aB g ff ma ca e co cn cl sn] false)) r2;simp only[RX.aB,fm.aC,hM.aE]at r3;obtain⟨H1,hH1⟩:∃H1,H1=H.set r (some (fh.aA 26 [({R with aF:=R.aF+1}:fm).aC.aB g ff ma ca e co cn cl sn] false)):=⟨_,rfl⟩;simp only[RX.aB,fm.aC,hM.aE]at hH1;rw[<-hH1]at T1 r3 ⊢;obtain⟨s,hs⟩:∃s:fm,s={R with aF:=R.aF+1}:=⟨_,rfl⟩;have et:R.aQ draw=(if s.aT<=s.aF/\s.aV s.id=true/\s.aA.aB<2^40/\s.aK<2^40 then s.aC.aW draw else s.aC).aD:=by rw[hs];unfold fm.aQ;rw[Ve c1]
  have eq1:s.aT=R.aT/\s.aF=R.aF+1/\s.id=R.id/\s.aA=R.aA:=by rw[hs];exact⟨rfl,rfl,rfl,rfl⟩
  obtain⟨q1,q2,q3,q4⟩:=eq1;have eb:({r:={R with aF:=R.aF+1},o:=hM.aE}:RX)=s.aC:=by rw[hs];rfl
  have T1:fX L0 H r s.aC H1:=by rw[<-eb];exact T1
  rw[<-hs]at fs;clear eb hH1;have no:¬(s.aT<=s.aF/\s.aV s.id=true/\s.aA.aB<2^40/\s.aK<2^40)->R.aQ draw=s.aC.aD:=λc=>by rw[et,Ve c]
  have eL:(2:Int)^40=1099511627776:=by decide
  rw[q1,q2,q3,q4,eL]at no et;obtain⟨L1,d1,l1,e1⟩:=id T1;have lB1:h.length<H1.length:=by have:=e1.1;omega
  have stop:R.aQ draw=s.aC.aD->∀{K:AV->eZ->Prop},(∀v H5,(∃ma ca aa,v=.aE [ma,ca,aa,.aA .i64 (R.aQ draw).o.aA,.aD (R.aQ draw).o.aB]/\ma.aG=true/\ca.aG=true/\aa.aG=true)->H5[h.length]?=some (some (.aA 5 [[.aB,.aB,.aB,.aA .i64 0,.aD false]] false))->h.length<H5.length->gQ L0 H r (R.aQ draw) v H5->K v H5)->fy P f2 [.aC r 26 0 0] H1 K:=λey K hK=>by refine (fin s.aC H1 ey (fs.aA (by omega)) ⟨rfl,rfl⟩ T1).aA λv H5 d=>?_;obtain⟨ma5,ca5,aa5,e5,q1,q2,q3⟩:=id d.1;have kb:=keepB d;exact hK v H5 ⟨ma5,ca5,aa5,e5,q1.aA,q2.aA,q3.aA⟩ kb.1 kb.2 d
  clear fin;by_cases c2:R.aF+1<R.aT;·simp only[go_sem,Vc c2];refine fq ⟨u2.1,stop (no λz=>by omega) ?_⟩ (λ_ _ z=>z);rintro _ H5 ⟨ma5,ca5,aa5,rfl,sm,sc,sa⟩ B5 lB5 d;simp only[go_sem,B5,lB5,sm,sc,sa];exact fill _ d
  ·simp only[go_sem,r3,Va c2];refine fR u3.1 (u3.2 L1 H1 r _ (k+1) R.id d1 fs (by omega)) ?_;rw[gF];have es:s.aC.r=s:=rfl;rw[es];cases c3:s.aV R.id;·simp only[go_sem,r3,Vt];refine fq ⟨u2.1,stop (no (λz=>by rw[c3]at z;cases z.2.1)) ?_⟩ (λ_ _ z=>z);rintro _ H5 ⟨ma5,ca5,aa5,rfl,sm,sc,sa⟩ B5 lB5 d;simp only[go_sem,B5,lB5,sm,sc,sa];exact fill _ d
   ·simp only[go_sem,r3,Vq];by_cases c4:1099511627776<=R.aA.aB;·simp only[go_sem,Vc c4];refine fq ⟨u2.1,stop (no (λz=>by omega)) ?_⟩ (λ_ _ z=>z);rintro _ H5 ⟨ma5,ca5,aa5,rfl,sm,sc,sa⟩ B5 lB5 d;simp only[go_sem,B5,lB5,sm,sc,sa];exact fill _ d
    ·simp only[go_sem,Va c4];refine fR u4.1 (u4.2 L1 H1 r _ (k+1) d1 fs (by omega)) ?_;rw[gF,es];by_cases c5:1099511627776<=s.aK;·simp only[go_sem,r3,Vc c5];refine fq ⟨u2.1,stop (no (λz=>by omega)) ?_⟩ (λ_ _ z=>z);rintro _ H5 ⟨ma5,ca5,aa5,rfl,sm,sc,sa⟩ B5 lB5 d;simp only[go_sem,B5,lB5,sm,sc,sa];exact fill _ d
     ·simp only[go_sem,r3,Va c5];rw[hE2,<-hrs3,hrs];exact MU (draw:=draw) u2 u5 u6 u7 u8 u9 u10 u11 u12 T1 fs (by omega) (by rw[q4,eL];omega) l0 B hz0 (by simp[fi,ga]) (by simp[fi,ga]) (by simp[fi]) λv h' b d=>fill b (by rw[et,Vf ⟨by omega,c3,by omega,by omega⟩];exact d)
end Glb
