/-
  A library of its own.
-/
import Derived.Test.YtdeiamnhnfmilaaGreatGlbDocC
set_option linter.unusedSimpArgs false
set_option linter.unusedVariables false
set_option maxRecDepth 10000
set_option maxHeartbeats 8000000
namespace Glb
open Go
def lV:List Ty:=[.aA .i64,.aA .i64,.aA .i64,.aA .i64,.aA .i64,.aA .i64,.aA .i64,.aA .i64,.aA .i64,.aA .i64,.aA .i64,.aA .i64,.aA .i64,.aA .i64,.aB,.sl 3 kT,.sl 1 [.aA .u8]]
theorem JM {k:IntKind}{ts:List Ty}{F:Nat->Prop}{h:eZ}{l:List AV}:gW (.aA k :: ts) F h l↔∃n r,l=.aA k n :: r/\gW ts F h r:=by
 simp only[gW,gn];constructor;·rintro⟨a,r,rfl,⟨n,rfl⟩,h2⟩;exact⟨n,r,rfl,h2⟩
 ·rintro⟨n,r,rfl,h2⟩;exact⟨_,r,rfl,⟨n,rfl⟩,h2⟩
theorem JL {ts:List Ty}{F:Nat->Prop}{h:eZ}{l:List AV}:gW (.aB :: ts) F h l↔∃n r,l=.aD n :: r/\gW ts F h r:=by
 simp only[gW,gn];constructor;·rintro⟨a,r,rfl,⟨n,rfl⟩,h2⟩;exact⟨n,r,rfl,h2⟩
 ·rintro⟨n,r,rfl,h2⟩;exact⟨_,r,rfl,⟨n,rfl⟩,h2⟩
theorem Ht {F:Nat->Prop}{h:eZ}{l:List AV}:gW lV F h l↔∃(m:fB)(e d:AV),l=m.aB e d/\gn (.sl 3 kT) F h e/\gn (.sl 1 [.aA .u8]) F h d:=by
 simp only[lV,JM,JL];constructor;·rintro⟨a1,_,rfl,a2,_,rfl,a3,_,rfl,a4,_,rfl,a5,_,rfl,a6,_,rfl,a7,_,rfl,a8,_,rfl,a9,_,rfl,I,_,rfl,E,_,rfl,C,_,rfl,u,_,rfl,t,_,rfl,b,_,rfl,hh⟩;rw[gW]at hh;obtain⟨e,r,rfl,he,hh⟩:=hh;rw[gW]at hh;obtain⟨d,r,rfl,hd,hh⟩:=hh;rw[gW]at hh;subst hh;exact⟨⟨a1,a2,a3,a4,a5,a6,a7,a8,a9,I,E,C,u,t,b,[],[]⟩,e,d,rfl,he,hd⟩
 ·rintro⟨m,e,d,rfl,he,hd⟩;refine⟨_,_,rfl,_,_,rfl,_,_,rfl,_,_,rfl,_,_,rfl,_,_,rfl,_,_,rfl,_,_,rfl,_,_,rfl,_,_,rfl,_,_,rfl,_,_,rfl,_,_,rfl,_,_,rfl,_,_,rfl,?_⟩;rw[gW];refine⟨e,_,rfl,he,?_⟩;rw[gW];refine⟨d,_,rfl,hd,?_⟩;rw[gW]
theorem Jq {a b:Bool}{l l':List AV}(h:j9 l l'):j9 (.aD a :: l) (.aD b :: l'):=⟨_,_,rfl,.inr (.inr (.inr ⟨_,_,rfl,rfl⟩)),h⟩
theorem Kc {P:Program}{f g k:FuncId}(hf:Is P f (zM g k))(hg:iU P g (.sl 3 kT))(hk:iU P k (.sl 1 [.aA .u8])):iU P f (.sl 17 lV):=by
 refine⟨hf.2,λF h a ho=>fN hf ?_⟩;have lx:=ho.aD;simp only[zM,go_sem];refine gJ (λm L h'=>∃(i:Nat),lk 0 L=a/\lk 2 L=.aA .i64 i/\i<=jk a/\m=jk a-i/\eY F h h'/\ik h h') (jk a) ?_ ?_;·exact⟨0,by simp[fi,ga],by simp[fi],by omega,by omega,eY.aC _ _,ik.aB _⟩
 ·rintro m L h' ⟨i,h0,h2,hi,rfl,he,hp⟩;simp only[Fw,go_sem,lx,h0,h2];refine gx (λci=>?_) (λci=>?_)
  ·simp at ci;obtain⟨n,off,row,gr,cs,h5,h6,h7,h8,h9⟩:=(hp.1 _ _ _ ho).aC ci;obtain⟨x,ev,dv,rfl,C,M⟩:=Ht.1 h9;have hl:=ho.aE;have e:IntKind.i64.wrap (↑i+1)=(i:Int)+1:=fQ (by omega);simp only[fB.aB]at h8;simp only[go_sem,h0,h2,h5,h7,h8];refine fq ⟨hg.1,hg.2 _ h' ev C⟩ ?_;rintro _ h3 ⟨I,u⟩;have t:h3[n]?=some (some (.aA 17 row gr)):=by rw[I.2 n (U_.1 h7).1 (λx=>x.2 rfl)];exact h7
   simp only[go_sem,h0,h2,h5,t,h8];refine fq ⟨hk.1,hk.2 _ h3 dv (u.1 _ _ _ M)⟩ ?_;rintro _ h4 ⟨E,W⟩;have O:h4[n]?=some (some (.aA 17 row gr)):=by rw[E.2 n (U_.1 t).1 (λx=>x.2 rfl)];exact t
   have U:=oP (x:=.aE [.aA .i64 (-77),.aA .i64 0,.aA .i64 0,.aA .i64 0,.aA .i64 0,.aA .i64 0,.aA .i64 0,.aA .i64 0,.aA .i64 0,.aA .i64 0,.aA .i64 0,.aA .i64 0,.aA .i64 0,.aA .i64 0,.aD false,.aB,.aB]) O h8 rfl rfl rfl rfl;simp only[go_sem,h0,h2,h5,e,U];have b:j9 [.aA .i64 x.aD,.aA .i64 x.aC,.aA .i64 x.to,.aA .i64 x.aJ,.aA .i64 x.aF,.aA .i64 x.aA,.aA .i64 x.aI,.aA .i64 x.aK,.aA .i64 x.aM,.aA .i64 x.aQ,.aA .i64 x.aO,.aA .i64 x.aN,.aA .i64 x.aR,.aA .i64 x.aP,.aD x.ok,ev,dv]
    [.aA .i64 (-77),.aA .i64 0,.aA .i64 0,.aA .i64 0,.aA .i64 0,.aA .i64 0,.aA .i64 0,.aA .i64 0,.aA .i64 0,.aA .i64 0,.aA .i64 0,.aA .i64 0,.aA .i64 0,.aA .i64 0,.aD false,.aB,.aB]:=by
    iterate 14 apply vJ
    exact Jq ⟨_,_,rfl,mT.aA C,_,_,rfl,mT.aA M,rfl⟩
   refine⟨_,?_,i+1,by simp,ci,rfl,?_,((hp.aA u).aA W).aA (ik.aC O h8 b)⟩;·omega
   ·exact (((he.aB I (λ_ _ x=>x) (λ_ _ x=>x.1)).aB E (λ_ _ x=>x) (λ_ _ x=>x.1))).aB (eY.aG (F:=F) _ (λ_=>h6)) (λ_ _ x=>x) (λ_ _ x=>x)
  ·simp only[go_sem];exact⟨he,hp⟩
def ur:List Ty:=[.aA .i64,.aA .i64,.aA .i64,.aA .i64]
theorem NG {F:Nat->Prop}{h:eZ}{cs:List AV}(hh:gW ur F h cs):∃v:fO,cs=[.aA .i64 v.aB,.aA .i64 v.aD,.aA .i64 v.aC,.aA .i64 v.aF]:=by obtain⟨_,_,rfl,h1,hh⟩:=iG hh;obtain⟨_,_,rfl,h2,hh⟩:=iG hh;obtain⟨_,_,rfl,h3,hh⟩:=iG hh;obtain⟨_,_,rfl,h4,hh⟩:=iG hh;cases vX hh;simp only[gn]at h1 h2 h3 h4;obtain⟨a,rfl⟩:=h1;obtain⟨b,rfl⟩:=h2;obtain⟨c,rfl⟩:=h3;obtain⟨d,rfl⟩:=h4;exact⟨⟨a,b,c,d⟩,rfl⟩
theorem Ka {P:Program}{f:FuncId}(hf:Is P f zI):iU P f (.sl 4 ur):=by
 refine⟨hf.2,λF h a ho=>fN hf ?_⟩;have lx:=ho.aD;simp only[zI,go_sem];obtain⟨I,hI⟩:∃I:Nat->fY->eZ->Prop,∀m L h',I m L h'↔∃(i:Nat),lk 0 L=a/\lk 2 L=.aA .i64 i/\i<=jk a/\m=jk a-i/\eY F h h'/\ik h h':=⟨_,λ_ _ _=>Wu⟩;refine gJ I (jk a) ((hI _ _ _).2 ⟨0,by simp[fi,ga],by simp[fi],by omega,by omega,eY.aC _ _,ik.aB _⟩) ?_;intro m L h' hh;obtain⟨i,h0,h2,hi,rfl,he,hp⟩:=(hI _ _ _).1 hh;simp only[Fu,go_sem,lx,h0,h2];refine gx (λci=>?_) (λci=>?_)
 ·simp at ci;obtain⟨n,off,row,gr,cs,h5,h6,h7,h8,h9⟩:=(hp.1 _ _ _ ho).aC ci;obtain⟨v,rfl⟩:=NG h9;have hl:=ho.aE;have e:IntKind.i64.wrap (↑i+1)=(i:Int)+1:=fQ (by omega);have b:=λz=>oP (x:=.aE [.aA .i64 z,.aA .i64 0,.aA .i64 0,.aA .i64 0]) h7 h8 rfl rfl rfl rfl;have b:=b (tn IntKind.i64 v.aB 77);simp only[go_sem,h0,h2,h5,h7,h8,e,b];have t:j9 [.aA .i64 v.aB,.aA .i64 v.aD,.aA .i64 v.aC,.aA .i64 v.aF] [.aA .i64 (tn IntKind.i64 v.aB 77),.aA .i64 0,.aA .i64 0,.aA .i64 0]:=by
   iterate 4 apply vJ
   exact rfl
  exact⟨_,by omega,(hI _ _ _).2 ⟨i+1,by simp[fi,h0],by simp[fi],ci,rfl,he.aB (eY.aG (F:=F) _ (λ_=>h6)) (λ_ _ x=>x) (λ_ _ x=>x),hp.aA (ik.aC h7 h8 t)⟩⟩
 ·simp only[go_sem];exact⟨he,hp⟩
def Es (P:Program)(f:FuncId):Prop:=
 fI P f=true/\∀(F F':Nat->Prop)(h:eZ)(x y:List fO)(a b:AV),Rd F h (ig x) a->Rd F' h (ig y) b->x.length<=2^40->fy P f [a,b] h λr h'=>r=.aD (decide (x=y))/\h'=h
theorem NF (x y:fO):mE [(0,true),(1,true),(2,true),(3,true)] x.aA y.aA=some (decide (x=y)):=by cases x;cases y;simp only[fO.aA,mE,VB,VZ,V3,fO.mk.injEq];repeat' split;all_goals simp_all
theorem JX {P:Program}{f:FuncId}(hf:Is P f zy):Es P f:=by
 refine⟨hf.2,λF F' h x y a b hx hy hl=>fN hf ?_⟩;have lx:g_ a=some (.aA .i64 x.length):=by simpa using hx.aB
 have ly:g_ b=some (.aA .i64 y.length):=by simpa using hy.aB
 simp only[zy,go_sem,lx,ly];refine gx (λc=>?_) (λc=>?_);·simp only[go_sem];simp at c;simp;rintro rfl;exact c rfl
 ·simp only[go_sem];simp at c;have c':x.length=y.length:=by omega
  refine gJ (λm L h'=>∃i:Nat,lk 0 L=a/\lk 1 L=b/\lk 5 L=.aA .i64 i/\h'=h/\i<=x.length/\m=x.length-i/\∀j:Nat,j<i->x[j]?=y[j]?) x.length ?_ ?_;·exact⟨0,by simp[fi,ga],by simp[fi,ga],by simp[fi],rfl,by omega,by omega,by omega⟩
  ·rintro m L h' ⟨i,h0,h1,h5,rfl,hi,rfl,hj⟩;simp only[Fm,go_sem,lx,h0,h5];refine gx (λci=>?_) (λci=>?_)
   ·simp at ci;have iy:i<y.length:=by omega
    obtain⟨p,cs,hp,C,E⟩:=hx.aD .i64 (i:=i) (d:=x[i].c) (by omega) (by simp[ci]);obtain⟨q,cs',hq,u,t⟩:=hy.aD .i64 (i:=i) (d:=y[i].c) (by omega) (by simp[iy]);obtain rfl:=mP E;obtain rfl:=mP t;have fe:=NF x[i] y[i];simp only[fO.aA]at C u fe;have e:IntKind.i64.wrap (↑i+1)=(i:Int)+1:=fQ (by omega);have xv:∀g:fJ->AV,g (.aA 3)=.aE [.aA .i64 x[i].aB,.aA .i64 x[i].aD,.aA .i64 x[i].aC,.aA .i64 x[i].aF]->g (.aA 7)=.aE [.aA .i64 y[i].aB,.aA .i64 y[i].aD,.aA .i64 y[i].aC,.aA .i64 y[i].aF]->j8 g (.aB true [(0,true),(1,true),(2,true),(3,true)] (.aA 3) (.aA 7))=some (.aD (!decide (x[i]=y[i]))):=by intro g g1 g2;simp only[j8,g1,g2,fe,Wi];cases decide (x[i]=y[i])<;>rfl
    simp only[go_sem,h0,h1,h5,hp,hq,hP C,hP u,xD];rw[xv _ rfl rfl];simp only[go_sem];refine gx (λce=>?_) (λce=>?_);·simp only[go_sem];simp at ce;simp;rintro rfl;exact ce rfl
    ·simp only[go_sem,h0,h1,h5,e];simp at ce;refine⟨_,?_,i+1,by simp,ci,rfl,λj hj'=>?_⟩;·omega
     ·rcases Wc j i with hlt | hge;·exact hj j hlt
      ·obtain rfl:j=i:=by omega
       simp[ci,iy,ce]
   ·simp at ci;simp only[go_sem];obtain rfl:i=x.length:=by omega
    simp[Ct c' hj]
structure hM.sm (o:hM):Prop where
 m:o.aD.length<=2^40/\∀e∈o.aD,iK e.es/\e.aE.length<=2^40
 c:o.aC.length<=2^40/\∀e∈o.aC,e.aM
 a:iK o.aF
def tS (P:Program)(f:FuncId):Prop:=fI P f=true/\∀(F F':Nat->Prop)(h:eZ)(x:hM)(ma ca aa mb cb ab:AV),x.sm->Rd F h (ks x.aD) ma->Rd F h (jQ x.aC) ca->Rd F h (f_ x.aF) aa->Rd F' h (ks x.aD) mb->Rd F' h (jQ x.aC) cb->Rd F' h (f_ x.aF) ab->
 fy P f [.aE [ma,ca,aa,.aA .i64 x.aA,.aD x.aB],.aE [mb,cb,ab,.aA .i64 x.aA,.aD x.aB]] h λr h'=>r=.aD true/\h'=h
theorem J4 {P:Program}{f g1 g2 g3:FuncId}(hf:Is P f (zE g1 g2 g3))(h1:yP P g1)(h2:Ep P g2)(h3:tR P g3):tS P f:=by refine⟨hf.2,λF F' h x ma ca aa mb cb ab sm r1 r2 r3 r4 r5 r6=>iF rfl (fN hf ?_)⟩;have X:=eY.b2 (h:=h) (some (fh.aA 5 [[ma,ca,aa,.aA .i64 x.aA,.aD x.aB]] false)) (some (fh.aA 5 [[mb,cb,ab,.aA .i64 x.aA,.aD x.aB]] false));have q1:=h1.2 F F' _ x.aD x.aD _ _ (r1.up X) (r4.up X) sm.m.1 sm.m.2;have q2:=h2.2 F F' _ x.aC x.aC _ _ (r2.up X) (r5.up X) sm.c.1 sm.c.2;have q3:=h3.2 (λ_=>True) _ x.aF x.aF _ _ (Rd.aC (λ_ _=>Vp) (gz.lt _ _) _ _ (r3.up X)) (Rd.aC (λ_ _=>Vp) (gz.lt _ _) _ _ (r6.up X)) (by have:=sm.a.1;omega) (λe he=>by have:=sm.a.2 e he;omega);simp only[decide_true]at q1 q2 q3;simp only[zE,go_sem,r1.aA,r2.aA,r3.aA,r4.aA,r5.aA,r6.aA];refine fR h1.1 q1 ?_;simp only[go_sem];refine fR h2.1 q2 ?_;simp only[go_sem];refine fR h3.1 q3 ?_;simp only[go_sem];exact X
def J8 (P:Program)(f:FuncId):Prop:=fI P f=true/\∀(F:Nat->Prop)(h:eZ)(av:AV),gn (.sl 17 qH) F h av->(∀m,F m->m<h.length)->fy P f [av] h λ_ h'=>eY F h h'/\ik h h'
def tT (P:Program)(f:FuncId):Prop:=fI P f=true/\∀(F:Nat->Prop)(h:eZ)(ma ca aa:AV)(n:Int)(b:Bool),gn (.sl 17 lV) F h ma->gn (.sl 17 qH) F h ca->gn (.sl 3 kT) F h aa->(∀m,F m->m<h.length)->
 fy P f [.aE [ma,ca,aa,.aA .i64 n,.aD b]] h λ_ h'=>eY F h h'/\ik h h'
theorem Kd {P:Program}{f g1 g2 g3:FuncId}(hf:Is P f (zN g1 g2 g3))(h1:iU P g1 (.sl 17 lV))(h2:J8 P g2)(h3:iU P g3 (.sl 3 kT)):tT P f:=by
 refine⟨hf.2,λF h ma ca aa n b o1 o2 o3 hF=>fN hf ?_⟩;have p0:=ik.b1 h (some (fh.aA 5 [[ma,ca,aa,.aA .i64 n,.aD b]] false));have X0:=eY.b1 (h:=h) (some (fh.aA 5 [[ma,ca,aa,.aA .i64 n,.aD b]] false));have B:=gh h (some (fh.aA 5 [[ma,ca,aa,.aA .i64 n,.aD b]] false));simp only[zN,go_sem,o1.aB,o2.aB,o3.aB];refine fq ⟨h1.1,h1.2 F _ _ (o1.aA p0)⟩ ?_;rintro _ H1 ⟨X1,p1⟩;have nF:∀m,h.length<=m->¬F m:=λm hm z=>by have:=hF m z;omega
 have B1:=(X1.2 _ (U_.1 B).1 (nF _ (Vg _))).trans B;simp only[go_sem,B1];refine fq ⟨h2.1,h2.2 F _ _ (o2.aA (p0.aA p1)) (λm hm=>by have:=hF m hm;have:=X0.1;have:=X1.1;omega)⟩ ?_;rintro _ H2 ⟨X2,p2⟩;have B2:=(X2.2 _ (U_.1 B1).1 (nF _ (Vg _))).trans B1;simp only[go_sem,B2];refine fq ⟨h3.1,h3.2 F _ _ (o3.aA ((p0.aA p1).aA p2))⟩ ?_;rintro _ H3 ⟨X3,p3⟩;simp only[go_sem];exact⟨((X0.aB X1 (F'':=F) (λ_ _ x=>x.elim) (λ_ _ x=>x)).aB X2 (λ_ _ x=>x) (λ_ _ x=>x)).aB X3 (λ_ _ x=>x) (λ_ _ x=>x),((p0.aA p1).aA p2).aA p3⟩
def fB.aS (m:fB):Prop:=iK m.es/\m.aE.length<=2^40
def RX.sm (x:RX):Prop:=(∀m∈x.o.aD,m.aS)/\∀c∈x.o.aC,c.aM
section
variable {x:RX} {k:Nat} {m:fB}
theorem RX.sm.aA (h:x.sm)(hm:m.aS):(x.aG m).sm:=by
 refine⟨λe he=>?_,h.2⟩;have he:e∈x.o.aD++[{m with aC:=x.r.id,aJ:=x.r.aA.aD,aF:=x.r.aA.aB}]:=he;simp only[V7,W4]at he;rcases he with he | rfl;·exact h.1 e he
 ·exact hm
theorem RX.sm.aD (h:x.sm){c:fU}(hc:c.aM):(x.aU c).sm:=by
 refine⟨h.1,λe he=>?_⟩;have he:e∈x.o.aC++[{c with aI:=x.r.aA.aD}]:=he;simp only[V7,W4]at he;rcases he with he | rfl;·exact h.2 e he
 ·exact hc
theorem xU (kind b:Int)(ok:Bool)(i r:Int):({fB.aG with aD:=kind,to:=b,ok:=ok,aA:=i,aM:=r}:fB).aS:=⟨⟨VP _,nofun⟩,VP _⟩
theorem Th {w:fO}{id:Int}{x:fV}{c r:Int}(hf:x.aN)(hs:iK x.aA.es):(w.aG id x c r).aS:=by
 unfold fB.aS;constructor
 ·unfold fO.aG;split;·exact⟨by simp,λe he=>by cases he⟩
  ·exact⟨Vr (Hm _ _ _) hs.1,λe he=>hs.2 e (Hn he)⟩
 ·unfold fO.aG;split;·have:=hf.2.1;have h3:=hf.2.2;simp only[Vj,jy,tZ];simp only[fG.aF]at this;omega
  ·simp
theorem RX.sm.to (h:x.sm)(hR:x.r.aD k)(hk:k<=2^28)(w:fO):(x.to w).sm:=h.aA (Th (hR.aU hk) (hR.aQ hk))
theorem Dn (hk:k<=2^28):∀(l:List fO){x:RX},x.sm->x.r.aD k->(x.aJ l).sm
 | [],_,h,_=>h
 | w :: l,x,h,hR=>Dn hk l (x:=x.to w) (h.to hR hk w) hR
theorem IF:∀(l:List fB){x:RX},x.sm->(∀m∈l,m.aS)->(x.aO l).sm
 | [],_,h,_=>h
 | w :: l,x,h,hm=>IF l (x:=x.aG w) (h.aA (hm w (by simp))) λm b=>hm m (by simp[b])
theorem RX.sm.aG (h:x.sm){kind:Int}{data:List Int}(hd:data.length<=2^40):(x.aC kind data).sm:=by
 have e:=uE x kind data;unfold RX.sm;rw[e];refine⟨h.1,λc hc=>?_⟩;simp only[V7,W4]at hc;rcases hc with hc | rfl;·exact h.2 c hc
 ·exact⟨⟨by show 1<=2^30;decide,λe he=>by
   obtain rfl:e=⟨x.r.aA.aB,kind,data⟩:=by simpa using he
   exact hd⟩,⟨VP _,VP _,VP _⟩,VP _⟩
theorem RX.sm.aE (h:x.sm)(t v:Int):(x.aL t v).sm:=RX.sm.aD (x:={x with r:={x.r with aA:={x.r.aA with aB:=t,aE:=v}}}) h ⟨⟨VP _,nofun⟩,⟨VP _,VP _,VP _⟩,VP _⟩
theorem RX.sm.aI (h:x.sm)(hR:x.r.aD k)(hk:k<2^28):x.aP.sm:=by rw[Hi];have f1:(({x with r:=x.r.aU}:RX).aC 0 []).r.aD (k+1):=fm.aD.aP (x:={x with r:=x.r.aU}) (hR.aV (by omega)) (by omega) (kind:=0) (data:=[]) ⟨nofun,by simp⟩ ⟨by omega,by omega⟩;exact Dn (by omega) _ (RX.sm.aG (x:={x with r:=x.r.aU}) h (by simp)) f1
theorem RX.sm.aK (h:x.sm):(x.aR m).sm:=by
 have e:x.aR m=(if mq x.r.aA.aB x.r.aA.aE x.r.aA.aA m then (let z:RX:={x with r:={x.r with aF:=0}};if z.r.aA.aE=m.aC then z else z.aL z.r.aA.aB m.aC) else x).aG {fB.aG with aD:=2,to:=m.aC,ok:=mq x.r.aA.aB x.r.aA.aE x.r.aA.aA m}:=rfl;rw[e];refine RX.sm.aA ?_ (xU _ _ _ _ _);split
 ·simp only;split;·exact h
  ·exact RX.sm.aE (x:={x with r:={x.r with aF:=0}}) h _ _
 ·exact h
theorem RX.sm.aR (h:x.sm)(hR:x.r.aD k)(hk:k+1<2^28):(x.aQ m).sm:=by
 unfold RX.aQ;split;·exact h
 ·have f:({x.r with aG:=x.r.aG++[m.aC]}:fm).aD (k+1):=by obtain⟨g1,g2,g3,g4,g5,g6,g7,g8,g9,E,C,u,g13,t,b⟩:=hR.aA (WB k);have:=hR.aT;exact⟨g1,g2,g3,g4,g5,g6,g7,g8,g9,E,C,u,by show (x.r.aG++[m.aC]).length<=k+1+1;simp;omega,t,b⟩
  simp only;split;·exact RX.sm.aI (x:={x with r:={x.r with aG:=x.r.aG++[m.aC]}}) h f hk
  ·exact h
theorem RX.sm.aB (h:x.sm)(ok:Bool)(i:Int):(x.aM m ok i).sm:=h.aA (xU _ _ _ _ _)
theorem RX.sm.aJ (h:x.sm)(hR:x.r.aD k)(hk:k<=2^28)(hm:m.aL):(x.aE m).sm:=by
 unfold RX.aE;split;·exact h.aB _ _
 ·split;·exact h.aB _ _
  ·simp only;split;·exact h
   ·refine RX.sm.aB (x:={(if 0<x.r.aA.aA.aI m.aA m.es then _ else x:RX) with r:=_}) ?_ _ _;split
    ·refine RX.sm.aD (x:={x with r:={x.r with aA:={x.r.aA with aA:=x.r.aA.aA.aF m.aA m.es}}}) h ⟨Cs ?_ _ _,⟨VP _,VP _,VP _⟩,VP _⟩;have hs:=hR.aQ hk;have b:=hm.aC;have hl:=hR.aR;have hl2:=hm.es.1;unfold fE.aF;split
     ·refine⟨?_,λe he=>?_⟩;·simp only[Vj,Vw,VA];omega
      ·simp only[V7]at he;rcases he with he | he
       ·exact hs.2 e (V0 he)
       ·exact b.2 e (VM he)
     ·exact hs
    ·exact h
theorem RX.sm.aM (h:x.sm)(hR:x.r.aD k)(hk:k<=2^28)(hi:0<=m.aA/\m.aA<=2^40):(x.aK m).sm:=by
 unfold RX.aK;split;·exact h
 ·split;·exact h
  ·rename_i i b;simp only;have hw:(((x.r.aB[i]?).getD ⟨0,0,0,0⟩).aE m).aI:=by
    have hx:i<x.r.aB.length:=by unfold oV at b;exact (WS.1 b).1
    rw[Vi hx];exact (hR.aD.2 _ (VU hx)).aB m hi
   generalize ((x.r.aB[i]?).getD ⟨0,0,0,0⟩).aE m=w at *;have f:=hR.bC i hw;split
   ·split;·exact RX.sm.to (x:=(⟨{x.r with aB:=x.r.aB.set i w},x.o⟩:RX).aI) h f.aN hk _
    ·exact h
   ·split;·exact RX.sm.to (x:=⟨{x.r with aB:=x.r.aB.set i w},x.o⟩) h f hk _
    ·exact h
theorem RX.sm.aF (h:x.sm){b t:Int}{c:fG}{s:List Int}(hc:c.aF (2^40))(hs:s.length<=2^40):(x.aV b t c s).sm:=
 RX.sm.aD (x:={x with r:={x.r with aA:={x.r.aA with aA:=x.r.aS b t,aC:=c,aF:=s}}}) h ⟨⟨VP _,nofun⟩,hc,hs⟩
theorem RX.sm.aN (h:x.sm)(hm:m.aL):(x.aN m).sm:=by
 unfold RX.aN;split;·exact h.aB _ _
 ·simp only;split;·exact h
  ·rename_i c;obtain⟨tb1,tb2⟩:=Dt hm.aA.1 hm.aA.2;have c3:(gZ (jZ m.aE).1).2=0:=Vm λz=>c (.inr z);refine RX.sm.aB (x:=⟨_,_⟩) ?_ _ _;exact h.aF ((kP (uv c3)).le (by decide)) (by omega)
theorem RX.sm.aQ (h:x.sm)(hR:x.r.aD k)(hk:k+1<2^28)(hm:m.aL)(h1:1<=m.aD/\m.aD<=5):(x.aX m).sm:=by
 unfold RX.aX;split;·exact h.aK
 ·split;·exact h.aR hR hk
  ·split;·exact h.aM hR (by omega) (hm.aB (by omega))
   ·split;·exact h
    ·have f:({x.r.aR m.aC with aF:=0}:fm).aD k:=(hR.aF m.aC).aO;simp only;split;·exact RX.sm.aJ (x:={x with r:={x.r.aR m.aC with aF:=0}}) h f (by omega) hm
     ·exact RX.sm.aN (x:={x with r:={x.r.aR m.aC with aF:=0}}) h hm
theorem RX.sm.aC (h:x.sm):(x.aF m).sm:=by
 unfold RX.aF;split;·exact h.aE _ _
 ·exact h
theorem RX.sm.aP (h:x.sm)(hR:x.r.aD k)(hk:k+1<2^28)(hj:x.aA 0)(hm:m.aL):(x.aT m).sm:=by
 rw[pW];split;·exact h
 ·rename_i c;obtain⟨t1,-⟩:=xM hR hj hm;have b:1<=m.aD/\m.aD<=5:=⟨Vm λz=>c (.inr (.inl (by omega))),Vm λz=>c (.inr (.inr (.inl (by omega))))⟩;split
  ·split;·exact h.aC.aA (xU _ _ _ _ _)
   ·split;·exact h.aC.aA (xU _ _ _ _ _)
    ·exact h.aC
  ·exact h.aC.aQ t1 hk hm b
theorem RX.sm.aO (h:x.sm)(hR:x.r.aD k)(hk:k<2^28)(hj:x.aA 0)(ht:x.r.aA.aB<2^40)(draw:Int):(x.aW draw).sm:=by
 have h0:=hR.aJ;have f:=(hR.aW (t:=x.r.aA.aB+1) (v:=x.r.id) ⟨by omega,by omega⟩ ⟨by have:=hR.id;omega,by have:=hR.id;omega⟩).aF 0;obtain⟨z,hz⟩:∃z:RX,z={(x.aL (x.r.aA.aB+1) x.r.id).aS 0 with r:={((x.aL (x.r.aA.aB+1) x.r.id).aS 0).r with aM:=1,aF:=0,aT:=jV draw,aG:=[((x.aL (x.r.aA.aB+1) x.r.id).aS 0).r.id]}}:=⟨_,rfl⟩;have e:x.aW draw=if z.r.aE.aG z.r.aG then z.aP else z.aO (jo z.r.id z.r.aA.aD z.r.aA.aB z.r.aA.aA z.r.aE):=by rw[hz];rfl
 have zs:z.sm:=by rw[hz];exact h.aE _ _
 have zf:z.r.aD k:=by rw[hz];obtain⟨g1,g2,g3,g4,g5,g6,g7,g8,g9,g10,I,E,g13,C,u⟩:=f;exact⟨g1,g2,g3,g4,g5,g6,g7,g8,g9,⟨Wm _,by show (0:Int)<=k;omega⟩,I,E,by show [_].length<=k+1;simp,C,u⟩
 rw[e];split;·exact zs.aI zf hk
 ·exact IF _ zs λm hm=>by obtain⟨a,b⟩:=y0 m hm;unfold fB.aS;rw[a,b];exact⟨⟨VP _,nofun⟩,VP _⟩
theorem RX.sm.aL (h:x.sm)(hR:x.r.aD k)(hk:k<=2^28){j:Nat}(hj:x.aA j)(hj2:j<=2^40)(hz:x.Z):x.aD.o.sm:=by
 obtain⟨e1,e2,e3⟩:=xf hR;refine⟨by rw[e2];exact⟨by have:=hj.1;omega,h.1⟩,by rw[e3];exact⟨by have:=hj.2;omega,h.2⟩,?_⟩;have ea:x.aD.o.aF=[]\/∃a b,x.aD.o.aF=x.r.aA.aA.aE a b:=by
  have eh:x.r.aZ.aA=x.r.aA:=by unfold fm.aZ;split<;>rfl
  unfold RX.aD;simp only;split;·exact .inl hz.1
  ·exact .inr ⟨_,_,by rw[eh]⟩
 rcases ea with ea | ⟨a,b,ea⟩;·rw[ea];exact⟨VP _,nofun⟩
 ·rw[ea];exact Cs (hR.aQ hk) _ _
theorem pF (r:fm):r.aC.sm:=by unfold RX.sm fm.aC hM.aE;simp
end
def RX.aY (k:Nat)(y:RX):Prop:=y.r.aD k/\y.o.sm
theorem qN {y:RX}{k j:Nat}(f:y.r.aD k)(hk:k<=2^28)(w:y.aA j)(hj:j<=2^40)(s:y.sm)(z:y.Z):y.aD.aY k:=⟨(xf f).1,s.aL f hk w hj z⟩
theorem CV {k j:Nat}{x:RX}(h:x.r.aD k)(hk:k<=2^28)(hj:x.aA j)(s:x.sm)(z:x.Z):x.on.r.aD k/\x.on.aA (j+21)/\x.on.sm/\x.on.Z:=by have e:=sw x.r.aB x;exact⟨(sN h hj).1,(sN h hj).2,Dn hk _ s h,by show (x.aJ _).o.aF=[]/\(x.aJ _).o.aA=0;rw[e.1,e.2];exact z⟩
theorem Dr {k:Nat}{x:fm}(h:x.aD k)(hk:k+2<2^28)(draw:Int):(x.aQ draw).aY (k+2):=by
 unfold fm.aQ;split
 ·have hb:=h.aY;split
  ·have f:({x with aN:=0}:fm).aD k:=by obtain⟨g1,g2,g3,g4,g5,g6,g7,g8,g9,I,M,E,C,u,t⟩:=h;exact⟨g1,g2,g3,g4,g5,g6,g7,g8,g9,I,⟨Wm _,by show (0:Int)<=1;omega⟩,E,C,u,t⟩
   obtain⟨a,b,c,d⟩:=CV (x:=({x with aN:=0}:fm).aC) f (by omega) (iM _) (pF _) ⟨rfl,rfl⟩;exact qN (a.aA (by omega)) (by omega) b (by omega) c d
  ·rename_i c;have f:({x with aN:=x.aN+1}:fm).aD (k+2):=by obtain⟨g1,g2,g3,g4,g5,g6,g7,g8,g9,I,M,E,C,u,t⟩:=h.aA (show k<=k+2 by omega);exact⟨g1,g2,g3,g4,g5,g6,g7,g8,g9,I,⟨by show 0<=x.aN+1;omega,by show x.aN+1<=1;omega⟩,E,C,u,t⟩
   exact qN (y:=({x with aN:=x.aN+1}:fm).aC) f (by omega) (iM _) (by omega) (pF _) ⟨rfl,rfl⟩
 ·simp only;have f:({x with aF:=x.aF+1}:fm).aD (k+1):=by have he:=h.aZ;obtain⟨g1,g2,g3,g4,g5,g6,g7,g8,g9,I,M,E,C,u,t⟩:=h.aA (WB k);exact⟨g1,g2,g3,g4,g5,g6,g7,g8,g9,⟨by show 0<=x.aF+1;omega,by show x.aF+1<=((k+1:Nat):Int);omega⟩,M,E,C,u,t⟩
  split
  ·rename_i c;have sf:=xJ (x:=({x with aF:=x.aF+1}:fm).aC) f (by omega) (iM _) c.2.2.1 draw;refine qN sf.1 (by omega) sf.2 (by omega) (RX.sm.aO (pF _) f (by omega) (iM _) c.2.2.1 draw) ?_;unfold RX.aW;simp only;split;·exact RX.Z.aB ⟨rfl,rfl⟩
   ·unfold RX.Z;rw[(uS _ _).1,(uS _ _).2];exact⟨rfl,rfl⟩
  ·exact qN (y:=({x with aF:=x.aF+1}:fm).aC) (f.aA (by omega)) (by omega) (iM _) (by omega) (pF _) ⟨rfl,rfl⟩
theorem TC (x:fm)(m:fB):(x.aC.aT m).Z:=by
 rw[pW];have z0:x.aC.Z:=⟨rfl,rfl⟩;split;·exact z0
 ·split
  ·split;·exact z0.aA
   ·split<;>exact z0.aA
  ·exact z0.aA.aC
theorem xL {k:Nat}{x:fm}(h:x.aD k)(hk:k+200<2^28){m:fB}(hm:m.aL):(x.aY m).aY (k+200):=by have sf:=Glb.xK (x:=x.aC) h (by omega) (iM _) hm;exact qN (y:=x.aC.aT m) sf.1 (by omega) sf.2 (by omega) ((pF x).aP h (by omega) (iM _) hm) (TC x m)
theorem CP:hM.aE.sm:=⟨by simp[hM.aE],by simp[hM.aE],by simp[hM.aE,iK]⟩
theorem HQ {k:Nat}{x:fm}(h:x.aD k)(hk:k+1<2^28){kind:Int}{data:List Int}(hd:gK data/\data.length<=2^16)(hki:gO kind):(x.aP kind data).2.1.aY (k+1):=by
 have no:x.aC.aY (k+1):=⟨h.aA (WB k),CP⟩;unfold fm.aP;split;·exact no
 ·split;·exact no
  ·split;·exact no
   ·split;·exact no
    ·have f:=fm.aD.aP (x:=x.aC) h (by omega) (kind:=kind) hd hki;obtain⟨a,b,c,d⟩:=CV (x:=x.aC.aC kind data) f (by omega) (RX.aA.aD (iM x) kind data) ((pF x).aG (by omega)) (by unfold RX.Z;rw[uE];exact⟨rfl,rfl⟩);exact qN (y:=((x.aC.aC kind data).on).aI) a.aN (by omega) (RX.aA.aI b) (by omega) c d
theorem Ik {k:Nat}{x:fm}(h:x.aD k)(hk:k+1<2^28):x.aX.2.1.aY (k+1):=by
 have no:x.aC.aY (k+1):=⟨h.aA (WB k),CP⟩;unfold fm.aX;split;·exact no
 ·split;·exact no
  ·have f:({x with aL:=x.aL+1}:fm).aD (k+1):=by have hr:=h.bA;obtain⟨g1,g2,g3,g4,g5,g6,g7,g8,g9,I,E,g12,C,u,t⟩:=h.aA (WB k);exact⟨g1,g2,g3,g4,g5,g6,g7,g8,g9,I,E,⟨by show 0<=x.aL+1;omega,by show x.aL+1<=((k+1:Nat):Int);omega⟩,C,u,t⟩
   obtain⟨a,b,c,d⟩:=CV (x:=({x with aL:=x.aL+1}:fm).aC) f (by omega) (iM _) (pF _) ⟨rfl,rfl⟩;show RX.aY (k+1) ({x with aL:=x.aL+1}:fm).aC.on;generalize ({x with aL:=x.aL+1}:fm).aC.on=y at *;exact⟨a,⟨by have:=b.1;omega,c.1⟩,⟨by have:=b.2;omega,c.2⟩,by rw[d.1];simp[iK]⟩
theorem Gz {k:Nat}{x:fm}(h:x.aD k)(hk:k<2^28){index:Int}{snap:List Int}(hs:gK snap/\snap.length<=2^16):(x.a_ index snap).1.aY k:=by
 have no:x.aC.aY k:=⟨h,CP⟩;unfold fm.a_;split;·exact no
 ·rename_i c;have b:({x.aA with aA:={x.aA.aA with es:=x.aA.aA.es.take (index-x.aA.aA.aA).toNat}}:fV).aC.aI=true:=h.aL;have cr:=(fV.aQ b).1;simp only;refine qN (Cp h hs ⟨by omega,by omega⟩ cr) (by omega) (j:=1) (RX.aA.aC (x:={x.aC with r:=_}) (iM _) _) (by omega) (RX.sm.aF (pF x) ((kP cr).le (by decide)) (by omega)) ⟨rfl,rfl⟩
theorem DX.aA {L L':Nat->Nat}{h h':eZ}{r:Nat}{x:RX}(a:DX L h r x)(hl:h.length<=h'.length)(hL:∀m,m<h.length->L' m=L m) (hk:∀m,m<h.length->L m≠11->h'[m]?=h[m]?) (lt:∀m,L' m≠0->m<h'.length):DX L' h' r x:=by obtain⟨g,f,ma,ca,e,co,cn,cl,sn,a⟩:=a;have lr:=(U_.1 a.aA).1;exact⟨g,f,ma,ca,e,co,cn,cl,sn,(hk r lr (by rw[a.lr];decide)).trans a.aA,λp hp=>(a.aB p hp).aA (kt hp) hl hL λm hm h1=>hk m hm (by have:=kt hp;omega),(hL r lr).trans a.lr,lt⟩
theorem DX.lt {L:Nat->Nat}{h:eZ}{r:Nat}{x:RX}(a:DX L h r x){m:Nat}(hm:L m≠0):m<h.length:=Vm λz=>hm (a.z (by omega))
structure oI (Lr Lm:Nat->Nat)(h:eZ)(r r':Nat)(x:fm):Prop where
 m:iu Lr h r x
 d:DX Lm h r' x.aC
 a:∀n,Lr n≠0->Lm n=11
def tJ (Lm:Nat->Nat)(h:eZ)(r r':Nat)(x:fm)(h':eZ):Prop:=∃Lr' Lm',oI Lr' Lm' h' r r' x/\(∀n,n<h.length->Lm' n=Lm n)/\eY (λn=>Lm n≠0) h h'
theorem oI.aA {Lr Lm:Nat->Nat}{h h':eZ}{r r' n5:Nat}{x:fm}{y:RX}{v:AV}(p:oI Lr Lm h r r' x)(b:jI Lr h r y v h')(hn:n5<h.length)(z5:Lr n5=0)(m5:Lm n5=11):
  ∃C t ma ca aa A,v=.aE [ma,ca,aa,.aA .i64 y.o.aA,.aD y.o.aB]/\(ma.aG=true/\ca.aG=true/\aa.aG=true)/\n5<h'.length/\(∀n,n<h.length->t n=Lm n)/\(∀n,n<h.length->C n=Lr n)/\(∀n,A n->h.length<=n/\C n=0/\t n=11) /\
   ∀u,iu C (h'.set n5 u) r y.r/\DX t (h'.set n5 u) r' x.aC/\(∀n,C n≠0->t n=11)/\e_ (ks y.o.aD) A (h'.set n5 u) ma/\e_ (jQ y.o.aC) A (h'.set n5 u) ca/\e_ (f_ y.o.aF) A (h'.set n5 u) aa /\
    (∀n,n<h.length->Lr n=0->n≠n5->(h'.set n5 u)[n]?=h[n]?)/\h.length<=(h'.set n5 u).length:=by
 obtain⟨L',m1,e1,⟨ma,ca,aa,rfl,oa,ob,oc,-,-⟩,X⟩:=b.aA p.m;have hl:=X.1;have z:∀k,k=3\/k=4\/k=5->∀m,L' m=k->kL L' m=0:=λk hk m hm=>by unfold kL;rw[Ve (by omega)]
 obtain⟨t,E⟩:∃t:Nat->Nat,t=λn=>if n<h.length then Lm n else if n<h'.length then 11 else 0:=⟨_,rfl⟩
 have lo:∀n,n<h.length->t n=Lm n:=λn hn=>by rw[E];exact Vf hn
 have ln:∀n,h.length<=n->n<h'.length->t n=11:=λn h1 h2=>by rw[E];show (if _ then _ else if _ then _ else _)=_;rw[Ve (by omega),Vf h2]
 have lz:∀n,h'.length<=n->t n=0:=λn h1=>by rw[E];show (if _ then _ else if _ then _ else _)=_;rw[Ve (by omega),Ve (by omega)]
 refine⟨kL L',t,ma,ca,aa,λm=>(h.length<=m/\m<h'.length)/\(L' m=3\/L' m=4\/L' m=5),rfl,⟨oa.aA,ob.aA,oc.aA⟩,by omega,lo,e1,λn hn=>⟨hn.1.1,z _ hn.2 _ rfl,ln n hn.1.1 hn.1.2⟩,λu=>?_⟩;have st:∀n,n≠n5->(h'.set n5 u)[n]?=h'[n]?:=λn hn=>Vb (λe=>hn e.symm);have k5:kL L' n5=0:=(e1 n5 hn).trans z5;have ow:∀{d:D}{F:Nat->Prop}{a:AV},(∀m,F m->(h.length<=m/\m<h'.length)/\(L' m=3\/L' m=4\/L' m=5))->e_ d F h' a->e_ d (λm=>(h.length<=m/\m<h'.length)/\(L' m=3\/L' m=4\/L' m=5)) (h'.set n5 u) a:=fun {d F a} hF o=>e_.aB _ hF (λm hm y hy=>(st m (by have:=(hF m hm).1.1;omega)).trans hy) _ o;refine⟨m1.aC (by simp) (λm hm=>st m (by rintro rfl;exact hm k5)),p.d.aA (by simp;omega) lo (λm hm I=>?_) (λm hm=>?_),λn hn=>?_,ow (λm hm=>⟨hm.1,.inl hm.2⟩) oa,ow (λm hm=>⟨hm.1,.inr (.inl hm.2)⟩) ob,ow (λm hm=>⟨hm.1,.inr (.inr hm.2)⟩) oc,λn h1 h2 h3=>?_,by simp;omega⟩;·have hr:Lr m=0:=Vm λz=>I (p.a m z);exact (st m (by rintro rfl;exact I m5)).trans (X.2 m hm (λz=>z hr))
 ·rw[Vh];exact Vm λz=>hm (lz m (by omega))
 ·by_cases c:n<h.length
  ·rw[lo n c];rw[e1 n c]at hn;exact p.a n hn
  ·have:=(m1.aA n hn).1;exact ln n (by omega) this
 ·exact (st n h3).trans (X.2 n h1 (λz=>z h2))
theorem Qm {Lr Lm:Nat->Nat}{h h':eZ}{r r' n6:Nat}{x':fm}{y:RX}{w:AV}(hm:iu Lr h r x')(ha:∀n,Lr n≠0->Lm n=11)(b:gQ Lm h r' y w h')(hn:n6<h.length)(z6:Lr n6=0)(m6:Lm n6=11):
  ∃C mb cb ab,w=.aE [mb,cb,ab,.aA .i64 y.o.aA,.aD y.o.aB]/\(mb.aG=true/\cb.aG=true/\ab.aG=true)/\n6<h'.length/\(∀n,n<h.length->C n=Lm n) /\
   ∀t,iu Lr (h'.set n6 t) r x'/\DX C (h'.set n6 t) r' ⟨y.r,hM.aE⟩/\(∀n,Lr n≠0->C n=11)/\Rd (λ_=>True) (h'.set n6 t) (ks y.o.aD) mb/\Rd (λ_=>True) (h'.set n6 t) (jQ y.o.aC) cb/\Rd (λ_=>True) (h'.set n6 t) (f_ y.o.aF) ab /\
    (∀n,n<h.length->Lm n=0\/Lm n=11->n≠n6->(h'.set n6 t)[n]?=h[n]?)/\h.length<=(h'.set n6 t).length:=by
 obtain⟨⟨mb,cb,ab,rfl,q1,q2,q3⟩,L',d,l,X⟩:=b;have hl:=X.1;refine⟨L',mb,cb,ab,rfl,⟨q1.aA,q2.aA,q3.aA⟩,by omega,l,λt=>?_⟩;have st:∀n,n≠n6->(h'.set n6 t)[n]?=h'[n]?:=λn hn=>Vb (λe=>hn e.symm);have l6:L' n6=11:=(l n6 hn).trans m6;have rd:∀{d:D}{a:AV},Rd (λm=>Lm m≠11) h' d a->Rd (λ_=>True) (h'.set n6 t) d a:=fun {d a} q=>Rd.aC (λ_ _=>Vp) (λm hm y hy=>(st m (by rintro rfl;exact hm m6)).trans hy) _ _ q;refine⟨hm.aC (by simp;omega) (λm u=>?_),d.aA (by simp) (λ_ _=>rfl) (λm _ I=>st m (by rintro rfl;exact I l6)) (λm u=>by rw[Vh];exact d.lt u),λn E=>?_,rd q1,rd q2,rd q3,λn h1 h2 h3=>?_,by simp;omega⟩;·exact (st m (by rintro rfl;exact u z6)).trans (X.2 m (hm.aA m u).1 (λz=>z.2 (ha m u)))
 ·rw[l n (hm.aA n E).1];exact ha n E
 ·exact (st n h3).trans (X.2 n h1 (λz=>by omega))
structure h_ where
 aC:Int
 n:Int
 m:fB
 aA:List Int
def h_.aB (a:h_):List AV:=[.aA .i64 a.aC,.aA .i64 a.n,.aA .i64 a.m.aD,.aA .i64 a.m.aC,.aA .i64 a.m.to,.aA .i64 a.m.aJ,.aA .i64 a.m.aF,.aA .i64 a.m.aA,.aA .i64 a.m.aI,.aA .i64 a.m.aK,.aA .i64 a.m.aM,.aA .i64 a.m.aQ,.aA .i64 a.m.aO,.aA .i64 a.m.aN,.aA .i64 a.m.aR,.aA .i64 a.m.aP,.aD a.m.ok,iD a.m.es,gV a.m.aE,gV a.aA]
theorem LM {l:List fU}(h:l.length<=2^40)(hl:∀y∈l,y.aM):lu (jQ l) (.sl 17 qH):=by refine⟨_,rfl,by simpa using h,rI λd hd=>?_⟩;obtain⟨n,hn,rfl⟩:=Wl.1 hd;exact LL (hl n hn)
theorem PX {m:fB}(h:m.aS):mV m.c lV:=
 ⟨_,_,rfl,rfl,_,_,rfl,rfl,_,_,rfl,rfl,_,_,rfl,rfl,_,_,rfl,rfl,_,_,rfl,rfl,_,_,rfl,rfl,_,_,rfl,rfl,_,_,rfl,rfl,_,_,rfl,rfl,_,_,rfl,rfl,_,_,rfl,rfl,_,_,rfl,rfl,_,_,rfl,rfl,_,_,rfl,rfl,_,_,rfl,um h.1,_,_,rfl,rU h.2,rfl⟩
theorem PY {l:List fB}(h:l.length<=2^40)(hl:∀y∈l,y.aS):lu (ks l) (.sl 17 lV):=by refine⟨_,rfl,by simpa using h,rI λd hd=>?_⟩;obtain⟨n,hn,rfl⟩:=Wl.1 hd;exact PX (hl n hn)
theorem MA {P:Program}{f1 f2 f3 f4 f5 f6 f7 f8 f9 f10 f11 f12 f13 W U O M I E:FuncId}(u1:tS P W)(u2:qq P U)(u3:rJ P O)(u4:tT P M)(u5:iU P I (.sl 1 [.aA .u8]))(u6:iU P E (.sl 17 lV))
  {Lr Lm:Nat->Nat} {h:eZ} {r r' n3 n5 n6 n11:Nat} {y:RX} {c:h_} {ma ca aa mb cb ab e d al:AV} {A G:Nat->Prop} {a b:Int} (hm:iu Lr h r y.r) (hd:DX Lm h r' ⟨y.r,hM.aE⟩) (ha:∀n,Lr n≠0->Lm n=11)
  (b3:h[n3]?=some (some (.aA 20 [c.aB] false))) (b5:h[n5]?=some (some (.aA 5 [[ma,ca,aa,.aA .i64 y.o.aA,.aD y.o.aB]] false))) (b6:h[n6]?=some (some (.aA 5 [[mb,cb,ab,.aA .i64 y.o.aA,.aD y.o.aB]] false))) (b11:h[n11]?=some (some (.aA 17 [c.m.aB e d] false)))
  (oa:e_ (ks y.o.aD) A h ma) (oc:e_ (jQ y.o.aC) A h ca) (ob:e_ (f_ y.o.aF) A h aa) (rb:Rd (λ_=>True) h (ks y.o.aD) mb) (rc:Rd (λ_=>True) h (jQ y.o.aC) cb) (a0:Rd (λ_=>True) h (f_ y.o.aF) ab)
  (oe:e_ (f_ c.m.es) G h e) (od:e_ (fT c.m.aE) G h d) (ol:e_ (fT (jq c.aA)) G h al) (hA:∀n,A n->Lr n=0/\Lm n=11/\n≠n11) (hG:∀n,G n->Lr n=0/\Lm n=11/\n≠n11) (sm:y.o.sm) (ms:c.m.aS) (ds:c.aA.length<=2^16)
  {Λ:fY} (k3:lk 3 Λ=.aC n3 20 0 0) (k5:lk 5 Λ=.aC n5 5 0 0) (k6:lk 6 Λ=.aC n6 5 0 0) (k7:lk 7 Λ=.aA .i64 a) (k8:lk 8 Λ=.aA .i64 a) (k9:lk 9 Λ=.aA .i64 b) (a8:lk 10 Λ=.aA .i64 b) (a2:lk 11 Λ=.aC n11 17 0 0) (a1:lk 12 Λ=al)
  {K:AV->eZ->Prop} (hK:∀h' ac a3,oI ac a3 h' r r' y.r->(∀n,n<h.length->a3 n=Lm n)->eY (λn=>Lm n=11) h h'->K (.aD true) h'):
  vc P (kq f1 f2 f3 f4 f5 f6 f7 f8 f9 f10 f11 f12 f13 W U O M I E).aA.tl.tl.tl.tl.tl.tl.tl ⟨Λ,[],h⟩ (ia (kq f1 f2 f3 f4 f5 f6 f7 f8 f9 f10 f11 f12 f13 W U O M I E).aB K):=by
 simp only[h_.aB]at b3;have u:=b11;simp only[fB.aB]at u;have q1:=u1.2 A (λ_=>True) h y.o ma ca aa mb cb ab sm (e_.rd _ (λ_ x=>x) _ oa) (e_.rd _ (λ_ x=>x) _ oc) (e_.rd _ (λ_ x=>x) _ ob) rb rc a0;have a4:fu G h c.m.c (c.m.aB e d):=sV (e_.rd _ (λ_ x=>x) _ oe) (e_.rd _ (λ_ x=>x) _ od);have a5:fu G h c.m.c (c.m.aB (iD c.m.es) (gV c.m.aE)):=sV (uP _ _ _) (kO _ _ _);have q2:=u2.2 G G h c.m c.m _ _ a4 a5 ms.1 ms.2;have q3:=u3.2 G h c.aA al (gV c.aA) (e_.rd _ (λ_ x=>x) _ ol) (kO _ _ _) (by omega);have s1:=oa.aA;have s2:=oc.aA;have s3:=ob.aA;have t1:=rb.aA;have t2:=rc.aA;have t3:=a0.aA;have t4:=oe.aA;have t5:=od.aA;simp only[decide_true,fB.aB]at q1 q2;simp only[kq,AC.aA,go_sem,k5,k6,b5,b6];refine fR u1.1 q1 ?_;simp only[go_sem,k3,k7,k8,k9,a8,a2,b3,u];refine fR u2.1 q2 ?_;simp only[go_sem,k3,a1,b3];refine fR u3.1 q3 ?_;simp only[go_sem,k5,b5];obtain⟨F,hF⟩:∃F:Nat->Prop,F=λm=>A m/\m<h.length:=⟨_,rfl⟩;have w1:gn (.sl 17 lV) F h ma:=by rw[hF];exact e_.ty _ _ _ (PY sm.m.1 sm.m.2) (e_.lt _ _ oa)
 have w2:gn (.sl 17 qH) F h ca:=by rw[hF];exact e_.ty _ _ _ (LM sm.c.1 sm.c.2) (e_.lt _ _ oc)
 have w3:gn (.sl 3 kT) F h aa:=by rw[hF];exact e_.ty _ _ _ (um sm.a) (e_.lt _ _ ob)
 have g1:gn (.sl 3 kT) (λm=>G m/\m<h.length) h e:=e_.ty _ _ _ (um ms.1) (e_.lt _ _ oe);have g2:gn (.sl 1 [.aA .u8]) (λm=>G m/\m<h.length) h d:=e_.ty _ _ _ (rU ms.2) (e_.lt _ _ od);have g3:gn (.sl 1 [.aA .u8]) (λm=>G m/\m<h.length) h al:=e_.ty _ _ _ (rU (by simp[jq];omega)) (e_.lt _ _ ol);have a7:=(U_.1 b11).1;refine fq ⟨u4.1,u4.2 F h ma ca aa _ _ w1 w2 w3 (λm hm=>by rw[hF]at hm;exact hm.2)⟩ ?_;rintro _ H1 ⟨X1,p1⟩;simp only[go_sem,a1];refine fq ⟨u5.1,u5.2 _ H1 al (g3.aA p1)⟩ ?_;rintro _ H2 ⟨X2,p2⟩;have c1:H1[n11]?=_:=(X1.2 n11 a7 (λz=>by rw[hF]at z;exact (hA _ z.1).2.2 rfl)).trans u;have c2:H2[n11]?=_:=(X2.2 n11 (U_.1 c1).1 (λz=>(hG _ z.1).2.2 rfl)).trans c1;simp only[go_sem,a2,c2,t4,t5];have l1:=X1.1;have l2:=X2.1;have a6:=p1.aA p2;have p3:=a6.aA (ik.b1 H2 (some (fh.aA 17 [c.m.aB e d] false)));have oT:gn (.sl 17 lV) (λm=>(G m/\m<h.length)\/m=H2.length) (H2++[some (fh.aA 17 [c.m.aB e d] false)]) (.aF H2.length 17 0 1 (some 1)):=by
  simp only[gn];refine .inr (.inr ⟨_,0,1,some 1,_,_,rfl,.inr rfl,gh _ _,by simp,by omega,λi cs hi a9=>?_⟩);obtain rfl:i=0:=by omega
  obtain rfl:c.m.aB e d=cs:=by simpa using a9
  exact Ht.2 ⟨c.m,e,d,rfl,gn.aF _ (λm hm=>⟨.inl hm,by have:=hm.2;omega⟩) (λ_ _ _ y=>y) _ (g1.aA p3),gn.aF _ (λm hm=>⟨.inl hm,by have:=hm.2;omega⟩) (λ_ _ _ y=>y) _ (g2.aA p3)⟩
 simp only[fB.aB]at oT;refine fq ⟨u6.1,u6.2 _ _ _ oT⟩ ?_;rintro _ H3 ⟨X3,-⟩;simp only[go_sem];have l3:=X3.1;simp only[Vj,VD,VN]at l3;have same:∀m,m<h.length->¬A m->¬G m->H3[m]?=h[m]?:=λm hm h1 h2=>(X3.2 m (by simp;omega) (by rintro (z | z);exact h2 z.1;omega)).trans ((VK (by omega)).trans ((X2.2 m (by omega) (λz=>h2 z.1)).trans (X1.2 m hm (λz=>by rw[hF]at z;exact h1 z.1))));refine hK H3 Lr Lm ⟨hm.aC (by omega) (λm t=>same m (hm.aA m t).1 (λz=>t (hA m z).1) (λz=>t (hG m z).1)),hd.aA (by omega) (λ_ _=>rfl) (λm t C=>same m t (λz=>C (hA m z).2.1) (λz=>C (hG m z).2.1)) (λm t=>by have:=hd.lt t;omega),ha⟩ (λ_ _=>rfl) ⟨by omega,λm t C=>same m t (λz=>C (hA m z).2.1) (λz=>C (hG m z).2.1)⟩
def jd:Option (Option fh):=some (some (.aA 5 [[.aB,.aB,.aB,.aA .i64 0,.aD false]] false))
structure tD (H:eZ)(r r' n2 n3 n11:Nat)(c:h_)(e d al:AV)(G:Nat->Prop):Prop where
 b2:H[n2]?=some (some (.aA 2 [[.aC r 21 0 0,.aC r' 26 0 0]] false))
 b3:H[n3]?=some (some (.aA 20 [c.aB] false))
 aA:H[n11]?=some (some (.aA 17 [c.m.aB e d] false))
 oe:e_ (f_ c.m.es) G H e
 od:e_ (fT c.m.aE) G H d
 ol:e_ (fT (jq c.aA)) G H al
section
variable {Lr Lm:Nat->Nat} {H H' K:eZ} {lo r r' n2 n3 n5 n6 n11:Nat} {x:fm} {y:RX} {c:h_} {e d al v ma ca aa:AV} {G A:Nat->Prop}
theorem tD.aB (f:tD H r r' n2 n3 n11 c e d al G) (hk:∀n,(n=n2\/n=n3\/n=n11\/G n)->H'[n]?=H[n]?):tD H' r r' n2 n3 n11 c e d al G:=
 ⟨(hk _ (.inl rfl)).trans f.b2,(hk _ (.inr (.inl rfl))).trans f.b3,(hk _ (.inr (.inr (.inl rfl)))).trans f.aA,e_.aB _ (λ_ y=>y) (λm hm y hy=>(hk m (.inr (.inr (.inr hm)))).trans hy) _ f.oe,e_.aB _ (λ_ y=>y) (λm hm y hy=>(hk m (.inr (.inr (.inr hm)))).trans hy) _ f.od,e_.aB _ (λ_ y=>y) (λm hm y hy=>(hk m (.inr (.inr (.inr hm)))).trans hy) _ f.ol⟩
structure vf (Lr Lm:Nat->Nat)(H:eZ)(r r' n2 n3 n5 n6 n11:Nat)(x:fm)(c:h_)(e d al:AV)(G:Nat->Prop):Prop where
 p:oI Lr Lm H r r' x
 f:tD H r r' n2 n3 n11 c e d al G
 b5:H[n5]?=jd
 b6:H[n6]?=jd
 aA:∀n,(n=n2\/n=n3\/n=n5\/n=n6\/n=n11\/G n)->n<H.length/\Lr n=0/\Lm n=11
 ne:n2≠n5/\n3≠n5/\n6≠n5/\n11≠n5/\n2≠n6/\n3≠n6/\n11≠n6
 nG:∀n,G n->n≠n5/\n≠n6/\n≠n11
structure yr (Lr Lm:Nat->Nat)(lo:Nat)(K:eZ)(r r' n2 n3 n5 n6 n11:Nat)(x:fm)(y:RX)(c:h_)(e d al:AV)(G A:Nat->Prop)(ma ca aa:AV):Prop where
 mm:iu Lr K r y.r
 dx:DX Lm K r' x.aC
 ar:∀n,Lr n≠0->Lm n=11
 f:tD K r r' n2 n3 n11 c e d al G
 b5:K[n5]?=some (some (.aA 5 [[ma,ca,aa,.aA .i64 y.o.aA,.aD y.o.aB]] false))
 b6:K[n6]?=jd
 oa:e_ (ks y.o.aD) A K ma
 oc:e_ (jQ y.o.aC) A K ca
 ob:e_ (f_ y.o.aF) A K aa
 hA:∀n,A n->lo<=n/\n<K.length/\Lr n=0/\Lm n=11
 aA:∀n,(n=n2\/n=n3\/n=n5\/n=n6\/n=n11\/G n)->n<lo/\Lr n=0/\Lm n=11
 ll:lo<=K.length
 ne:n2≠n5/\n3≠n5/\n6≠n5/\n11≠n5/\n2≠n6/\n3≠n6/\n11≠n6
 nG:∀n,G n->n≠n5/\n≠n6/\n≠n11
theorem vf.aB (b:vf Lr Lm H r r' n2 n3 n5 n6 n11 x c e d al G)(o:jI Lr H r y v H'):
  ∃u t ma ca aa A,v=.aE [ma,ca,aa,.aA .i64 y.o.aA,.aD y.o.aB]/\(ma.aG=true/\ca.aG=true/\aa.aG=true)/\n5<H'.length/\H'[n5]?=jd/\(∀n,n<H.length->t n=Lm n) /\
   yr u t H.length (H'.set n5 (some (.aA 5 [[ma,ca,aa,.aA .i64 y.o.aA,.aD y.o.aB]] false))) r r' n2 n3 n5 n6 n11 x y c e d al G A ma ca aa/\(∀n,n<H.length->Lr n=0->n≠n5->(H'.set n5 (some (.aA 5 [[ma,ca,aa,.aA .i64 y.o.aA,.aD y.o.aB]] false)))[n]?=H[n]?):=by
 have l5:=b.aA n5 (.inr (.inr (.inl rfl)));have l6:=b.aA n6 (.inr (.inr (.inr (.inl rfl))));obtain⟨u,t,ma,ca,aa,A,rfl,ss,h5,lm,lr,hA,go⟩:=b.p.aA o l5.1 l5.2.1 l5.2.2;obtain⟨L0,o0,ma0,ca0,aa0,-,-,-,-,-,-,X0⟩:=o;have z5:H'[n5]?=jd:=(X0.2 n5 l5.1 (λz=>z l5.2.1)).trans b.b5;obtain⟨m1,d1,a1,oa,oc,ob,st,ll⟩:=go (some (.aA 5 [[ma,ca,aa,.aA .i64 y.o.aA,.aD y.o.aB]] false));obtain⟨e1,e2,e3,e4,e5,e6,e7⟩:=b.ne;refine⟨u,t,ma,ca,aa,λn=>A n/\n<(H'.set n5 (some (fh.aA 5 [[ma,ca,aa,.aA .i64 y.o.aA,.aD y.o.aB]] false))).length,rfl,ss,h5,z5,lm,⟨m1,d1,a1,b.f.aB λn hn=>?_,Vd h5,(st n6 l6.1 l6.2.1 e3).trans b.b6,e_.lt _ _ oa,e_.lt _ _ oc,e_.lt _ _ ob,λn hn=>⟨(hA n hn.1).1,hn.2,(hA n hn.1).2⟩,λn hn=>?_,ll,b.ne,b.nG⟩,st⟩;·have lw:=b.aA n (by rcases hn with h | h | h | h;exact .inl h;exact .inr (.inl h);exact .inr (.inr (.inr (.inr (.inl h))));exact .inr (.inr (.inr (.inr (.inr h)))));exact st n lw.1 lw.2.1 (by rcases hn with h | h | h | h;rw[h];exact e1;rw[h];exact e2;rw[h];exact e4;exact (b.nG n h).1)
 ·have lw:=b.aA n hn;exact⟨lw.1,(lr n lw.1).trans lw.2.1,(lm n lw.1).trans lw.2.2⟩
theorem yr.aB {P:Program}{f1 f2 f3 f4 f5 f6 f7 f8 f9 f10 f11 f12 f13 O M I E C u:FuncId}(u1:tS P O)(u2:qq P M)(u3:rJ P I)(u4:tT P E)(u5:iU P C (.sl 1 [.aA .u8]))(u6:iU P u (.sl 17 lV))
  (b:yr Lr Lm lo K r r' n2 n3 n5 n6 n11 x y c e d al G A ma ca aa) {w:AV} (o:gQ Lm K r' y w H') (sm:y.o.sm) (ms:c.m.aS) (ds:c.aA.length<=2^16):
  ∃mb cb ab,w=.aE [mb,cb,ab,.aA .i64 y.o.aA,.aD y.o.aB]/\(mb.aG=true/\cb.aG=true/\ab.aG=true)/\n6<H'.length/\H'[n6]?=jd /\
   ∀{Λ:fY}{a b:Int}{KK:AV->eZ->Prop},lk 3 Λ=.aC n3 20 0 0->lk 5 Λ=.aC n5 5 0 0->lk 6 Λ=.aC n6 5 0 0->lk 7 Λ=.aA .i64 a->lk 8 Λ=.aA .i64 a->lk 9 Λ=.aA .i64 b->lk 10 Λ=.aA .i64 b->lk 11 Λ=.aC n11 17 0 0->lk 12 Λ=al->(∀h',tJ Lm K r r' y.r h'->KK (.aD true) h')->
    vc P (kq f1 f2 f3 f4 f5 f6 f7 f8 f9 f10 f11 f12 f13 O M I E C u).aA.tl.tl.tl.tl.tl.tl.tl ⟨Λ,[],H'.set n6 (some (.aA 5 [[mb,cb,ab,.aA .i64 y.o.aA,.aD y.o.aB]] false))⟩ (ia (kq f1 f2 f3 f4 f5 f6 f7 f8 f9 f10 f11 f12 f13 O M I E C u).aB KK):=by
 have l6:=b.aA n6 (.inr (.inr (.inr (.inl rfl))));have W:n6<K.length:=by have:=b.ll;omega
 obtain⟨a9,mb,cb,ab,rfl,ss,h6,lm,go⟩:=Qm b.mm b.ar o W l6.2.1 l6.2.2;obtain⟨-,L0,-,-,X0⟩:=o;have z6:H'[n6]?=jd:=(X0.2 n6 W (λz=>z.2 l6.2.2)).trans b.b6;obtain⟨m1,d1,a1,rb,rc,a3,st,ll⟩:=go (some (.aA 5 [[mb,cb,ab,.aA .i64 y.o.aA,.aD y.o.aB]] false));obtain⟨e1,e2,e3,e4,e5,e6,e7⟩:=b.ne;refine⟨mb,cb,ab,rfl,ss,h6,z6,fun {Λ a b' KK} k3 k5 k6 k7 k8 k9 a6 a5 a4 hK=>?_⟩;have t:∀n,(n=n2\/n=n3\/n=n5\/n=n6\/n=n11\/G n)->n≠n6->(H'.set n6 (some (.aA 5 [[mb,cb,ab,.aA .i64 y.o.aA,.aD y.o.aB]] false)))[n]?=K[n]?:=λn hn h=>by have lw:=b.aA n hn;exact st n (by have:=b.ll;omega) (.inr lw.2.2) h
 have a2:∀n,A n->(H'.set n6 (some (.aA 5 [[mb,cb,ab,.aA .i64 y.o.aA,.aD y.o.aB]] false)))[n]?=K[n]?:=λn hn=>by have ha:=b.hA n hn;exact st n ha.2.1 (.inr ha.2.2.2) (by rintro rfl;omega)
 have a0:∀n,G n->(H'.set n6 (some (.aA 5 [[mb,cb,ab,.aA .i64 y.o.aA,.aD y.o.aB]] false)))[n]?=K[n]?:=λn hn=>t n (.inr (.inr (.inr (.inr (.inr hn))))) (b.nG n hn).2.1;have kA:∀{d:D}{a:AV},e_ d A K a->e_ d A (H'.set n6 (some (.aA 5 [[mb,cb,ab,.aA .i64 y.o.aA,.aD y.o.aB]] false))) a:=λo=>e_.aB _ (λ_ y=>y) (λm hm y hy=>(a2 m hm).trans hy) _ o;have kG:∀{d:D}{a:AV},e_ d G K a->e_ d G (H'.set n6 (some (.aA 5 [[mb,cb,ab,.aA .i64 y.o.aA,.aD y.o.aB]] false))) a:=λo=>e_.aB _ (λ_ y=>y) (λm hm y hy=>(a0 m hm).trans hy) _ o;have l11:=b.aA n11 (.inr (.inr (.inr (.inr (.inl rfl)))));have hlo:=b.ll;refine MA u1 u2 u3 u4 u5 u6 m1 d1 a1 ((t n3 (.inr (.inl rfl)) e6).trans b.f.b3) ((t n5 (.inr (.inr (.inl rfl))) (λz=>e3 z.symm)).trans b.b5) (Vd h6) ((t n11 (.inr (.inr (.inr (.inr (.inl rfl))))) e7).trans b.f.aA) (kA b.oa) (kA b.oc) (kA b.ob) rb rc a3 (kG b.f.oe) (kG b.f.od) (kG b.f.ol)
  (λn hn=>?_) (λn hn=>?_) sm ms ds k3 k5 k6 k7 k8 k9 a6 a5 a4 λh' a7 a8 p2 l2 X2=>hK h' ⟨a7,a8,p2,λn hn=>(l2 n (by omega)).trans (lm n hn),⟨by have:=X2.1;omega,λn hn hz=>?_⟩⟩
 ·have ha:=b.hA n hn;exact⟨ha.2.2.1,(lm n ha.2.1).trans ha.2.2.2,by rintro rfl;omega⟩
 ·have lw:=b.aA n (.inr (.inr (.inr (.inr (.inr hn)))));exact⟨lw.2.1,(lm n (by omega)).trans lw.2.2,(b.nG n hn).2.2⟩
 ·have U:Lm n=0:=Vm λz=>hz z;refine (X2.2 n (by omega) (λz=>?_)).trans (st n hn (.inl U) (by rintro rfl;omega));have z:a9 n=11:=z;rw[lm n hn,U]at z;omega
end
def fm.bC (x:fm)(c:h_):fm:=
 if lI c.aC 8=0\/lI c.aC 8=1 then (x.aQ c.n).r else
 if lI c.aC 8=2\/lI c.aC 8=3\/lI c.aC 8=4 then (x.aY c.m).r else
 if lI c.aC 8=5 then (x.aP c.n c.aA).2.1.r else
 if lI c.aC 8=6 then x.aX.2.1.r else (x.a_ c.n c.aA).1.r
structure h_.aD (c:h_):Prop where
 m:c.m.aL
 aA:gK c.aA/\c.aA.length<=2^16
 n:gO c.n
theorem MD {P:Program}{f1 f2 f3 f4 f5 f6 f7 f8 f9 f10 f11 f12 f13 a3 a2 a1 a0 W U:FuncId}(u3:tK P f3)(u4:tO P f4)(u5:vE P f5)(u6:wk P f6)(u7:vD P f7)(u8:tM P f8)(u9:vA P f9)(ag:wj P f10)(af:vB P f11)(ae:v7 P f12)(ad:vu P f13)
  (an:tS P a3) (am:qq P a2) (ak:rJ P a1) (aj:tT P a0) (ai:iU P W (.sl 1 [.aA .u8])) (ah:iU P U (.sl 17 lV)) {Lr Lm:Nat->Nat} {H:eZ} {r r' n2 n3 n5 n6 n11 k:Nat} {x:fm} {c:h_} {e d al:AV} {G:Nat->Prop} (b:vf Lr Lm H r r' n2 n3 n5 n6 n11 x c e d al G) (hR:x.aD k) (hk:k+200<2^28) (hc:c.aD)
  {Λ:fY} (k2:lk 2 Λ=.aC n2 2 0 0) (k3:lk 3 Λ=.aC n3 20 0 0) (k5:lk 5 Λ=.aC n5 5 0 0) (k6:lk 6 Λ=.aC n6 5 0 0) (k7:lk 7 Λ=.aA .i64 0) (k8:lk 8 Λ=.aA .i64 0) (k9:lk 9 Λ=.aA .i64 0) (O:lk 10 Λ=.aA .i64 0) (C:lk 11 Λ=.aC n11 17 0 0) (I:lk 12 Λ=al)
  {KK:AV->eZ->Prop} (hK:∀{K h':eZ}{t:Nat->Nat},(∀n,n<H.length->t n=Lm n)->(∀n,n<H.length->Lr n=0->n≠n5->K[n]?=H[n]?)->H.length<=K.length->tJ t K r r' (x.bC c) h'->KK (.aD true) h'):
  vc P (kq f1 f2 f3 f4 f5 f6 f7 f8 f9 f10 f11 f12 f13 a3 a2 a1 a0 W U).aA.tl.tl.tl.tl.tl.tl ⟨Λ,[],H⟩ (ia (kq f1 f2 f3 f4 f5 f6 f7 f8 f9 f10 f11 f12 f13 a3 a2 a1 a0 W U).aB KK):=by
 obtain⟨E,hE⟩:∃E,E=(kq f1 f2 f3 f4 f5 f6 f7 f8 f9 f10 f11 f12 f13 a3 a2 a1 a0 W U).aA.tl.tl.tl.tl.tl.tl.tl:=⟨_,rfl⟩;obtain⟨rs,a9⟩:∃rs,rs=(kq f1 f2 f3 f4 f5 f6 f7 f8 f9 f10 f11 f12 f13 a3 a2 a1 a0 W U).aB:=⟨_,rfl⟩;have ac:=hE;have a8:=a9;simp only[kq,AC.aA,fC]at ac a8;rw[<-a9];simp only[kq,AC.aA,fC];rw[<-ac];clear ac;have ms:c.m.aS:=⟨hc.m.aC,by have:=hc.m.aA.2;omega⟩;have ds:=hc.aA.2;have B2:=b.f.b2;have B3:=b.f.b3;have a6:=b.f.aA;have l5:=b.aA n5 (.inr (.inr (.inl rfl)));simp only[h_.aB]at B3;simp only[fB.aB]at a6;have se:=b.f.oe.aA;have sd:=b.f.od.aA;have w2:(n5=n2)=False:=Vs (λe=>b.ne.1 e.symm);have w3:(n5=n3)=False:=Vs (λe=>b.ne.2.1 e.symm);have two:∀{y:RX}{v:AV}{H':eZ}{KV:eZ->Prop},jI Lr H r y v H'->y.o.sm->y.r=x.bC c->
   (∀(t:Nat->Nat)(ma ca aa:AV)(K:eZ),v=.aE [ma,ca,aa,.aA .i64 y.o.aA,.aD y.o.aB]->(ma.aG=true/\ca.aG=true/\aa.aG=true)->n5<H'.length->H'[n5]?=jd->K=H'.set n5 (some (.aA 5 [[ma,ca,aa,.aA .i64 y.o.aA,.aD y.o.aB]] false))->
    DX t K r' x.aC->H'[n2]?=some (some (.aA 2 [[.aC r 21 0 0,.aC r' 26 0 0]] false))->H'[n3]?=some (some (.aA 20 [c.aB] false))->(∀n,n<H.length->t n=Lm n)->
    (∀{w:AV}{H6:eZ},gQ t K r' y w H6->∃mb cb ab,w=.aE [mb,cb,ab,.aA .i64 y.o.aA,.aD y.o.aB]/\(mb.aG=true/\cb.aG=true/\ab.aG=true)/\n6<H6.length/\H6[n6]?=jd /\
     ∀{Λ:fY}{a b:Int},lk 3 Λ=.aC n3 20 0 0->lk 5 Λ=.aC n5 5 0 0->lk 6 Λ=.aC n6 5 0 0->lk 7 Λ=.aA .i64 a->lk 8 Λ=.aA .i64 a->lk 9 Λ=.aA .i64 b->lk 10 Λ=.aA .i64 b->lk 11 Λ=.aC n11 17 0 0->lk 12 Λ=al->
      vc P E ⟨Λ,[],H6.set n6 (some (.aA 5 [[mb,cb,ab,.aA .i64 y.o.aA,.aD y.o.aB]] false))⟩ (ia rs KK))->KV H')->KV H':=by
  intro y v H' KV o sm ey hV;obtain⟨Lr2,t,ma,ca,aa,A,rfl,ss,h5,z5,l2,hf,sk⟩:=b.aB o;refine hV t ma ca aa _ rfl ss h5 z5 rfl hf.dx ((Vb (λe=>b.ne.1 e.symm)).symm.trans hf.f.b2) ((Vb (λe=>b.ne.2.1 e.symm)).symm.trans hf.f.b3) l2 fun {w H6} o2=>?_;obtain⟨mb,cb,ab,e1,s2,h6,z6,go⟩:=hf.aB (P:=P) (f1:=f1) (f2:=f2) (f3:=f3) (f4:=f4) (f5:=f5) (f6:=f6) (f7:=f7) (f8:=f8) (f9:=f9) (f10:=f10) (f11:=f11) (f12:=f12) (f13:=f13) an am ak aj ai ah o2 sm ms ds;refine⟨mb,cb,ab,e1,s2,h6,z6,fun {Λ a b'} q3 q5 q6 q7 q8 q9 aq ap ao=>?_⟩;rw[hE,a9];exact go q3 q5 q6 q7 q8 q9 aq ap ao λh' pt=>hK l2 sk hf.ll (by rw[<-ey];exact pt)
 simp only[go_sem,k3,B3];refine fR u3.1 (u3.2 c.aC 8 (by decide) _) ?_;obtain⟨j,hj⟩:∃j,j=lI c.aC 8:=⟨_,rfl⟩;have dx:x.bC c=if j=0\/j=1 then (x.aQ c.n).r else if j=2\/j=3\/j=4 then (x.aY c.m).r else if j=5 then (x.aP c.n c.aA).2.1.r else if j=6 then x.aX.2.1.r else (x.a_ c.n c.aA).1.r:=by rw[hj];rfl
 rw[<-hj];clear hj;have hG:∀n,G n->Lr n=0:=λn hn=>(b.aA n (.inr (.inr (.inr (.inr (.inr hn)))))).2.1;have mat:kH Lr H c.m (c.m.aB e d):=⟨G,sV (e_.rd _ (λ_ y=>y) _ b.f.oe) (e_.rd _ (λ_ y=>y) _ b.f.od),hG⟩;have a5:=u6.2 Lr H r x k c.m _ b.p.m hR (by omega) mat hc.m;have a4:∀{t:Nat->Nat}{K:eZ},DX t K r' x.aC->_:=fun {t K} dK=>u7.2 fj t K r' x c.m (c.m.aB (iD c.m.es) (gV c.m.aE)) k dK (sV (uP _ _ _) (kO _ _ _)) (λ_ z=>z.elim) hR hk hc.m;simp only[fB.aB]at a5 a4;have la:g_ (gV c.aA)=some (.aA .i64 c.aA.length):=(kO fj H c.aA).aG;obtain⟨q,hq,dq⟩:∃q,iR 1 al none (some (c.aA.length:Int)) none=some q/\vI Lr H (fT c.aA) q:=by
  have rl:Rd G H (fT (jq c.aA)) al:=e_.rd _ (λ_ y=>y) _ b.f.ol;obtain⟨q,h1,h2⟩:=rl.aI (lo:=none) (hi:=some (c.aA.length:Int)) (mx:=none) (by simp) (by simp) (by simp[jq];omega) (by simp) (by simp[jq];omega) (by simp);simp only[VG,Wh,W_,Wf,V6,<-WL]at h2;have e1:(jq c.aA).take c.aA.length=c.aA:=by simp[jq]
  rw[e1]at h2;exact⟨q,h1,G,h2,λn hn=>⟨hG n hn,(b.aA n (.inr (.inr (.inr (.inr (.inr hn)))))).1⟩⟩
 by_cases j0:j=0
 ·have ed:x.bC c=(x.aQ c.n).r:=by rw[dx,Vf (.inl j0)]
  simp only[go_sem,k2,k3,Vc j0,B2,B3];refine fq ⟨u4.1,u4.2 Lr H r x k c.n b.p.m hR (by omega)⟩ ?_;rintro v H' o;refine two (KV:=λ_=>_) o (Dr hR (by omega) c.n).2 ed.symm ?_;rintro t ma ca aa K rfl ⟨s1,s2,s3⟩ h5 z5 u dK C2 C3 l2 go;simp only[jd]at z5;simp only[h_.aB]at C3;simp only[go_sem,k2,k3,k5,z5,h5,s1,s2,s3,C2,C3,w2,w3];rw[<-u];refine fq ⟨u5.1,u5.2 t K r' x k c.n dK hR (by omega)⟩ ?_;rintro w H6 o2;obtain⟨mb,cb,ab,rfl,⟨t1,t2,t3⟩,h6,z6,fin⟩:=go o2;simp only[jd]at z6;simp only[go_sem,k6,z6,t1,t2,t3];exact fin (a:=0) (b:=0) (by simp[fi,k3]) (by simp[fi,k5]) (by simp[fi,k6]) (by simp[fi,k7]) (by simp[fi,k8]) (by simp[fi,k9]) (by simp[fi,O]) (by simp[fi,C]) (by simp[fi,I])
 by_cases j1:j=1
 ·have ed:x.bC c=(x.aQ c.n).r:=by rw[dx,Vf (.inr j1)]
  simp only[go_sem,k2,k3,Va j0,Vc j1,B2,B3];refine fq ⟨u4.1,u4.2 Lr H r x k c.n b.p.m hR (by omega)⟩ ?_;rintro v H' o;refine two (KV:=λ_=>_) o (Dr hR (by omega) c.n).2 ed.symm ?_;rintro t ma ca aa K rfl ⟨s1,s2,s3⟩ h5 z5 u dK C2 C3 l2 go;simp only[jd]at z5;simp only[h_.aB]at C3;simp only[go_sem,k2,k3,k5,z5,h5,s1,s2,s3,C2,C3,w2,w3];rw[<-u];refine fq ⟨u5.1,u5.2 t K r' x k c.n dK hR (by omega)⟩ ?_;rintro w H6 o2;obtain⟨mb,cb,ab,rfl,⟨t1,t2,t3⟩,h6,z6,fin⟩:=go o2;simp only[jd]at z6;simp only[go_sem,k6,z6,t1,t2,t3];exact fin (a:=0) (b:=0) (by simp[fi,k3]) (by simp[fi,k5]) (by simp[fi,k6]) (by simp[fi,k7]) (by simp[fi,k8]) (by simp[fi,k9]) (by simp[fi,O]) (by simp[fi,C]) (by simp[fi,I])
 have M:¬(j=0\/j=1):=by rintro (z | z);exact j0 z;exact j1 z
 by_cases j2:j=2
 ·have ed:x.bC c=(x.aY c.m).r:=by rw[dx,Ve M,Vf (.inl j2)]
  simp only[go_sem,k2,C,Va j0,Va j1,Vc j2,B2,a6];refine fq ⟨u6.1,a5⟩ ?_;rintro v H' o;refine two (KV:=λ_=>_) o (xL hR hk hc.m).2 ed.symm ?_;rintro t ma ca aa K rfl ⟨s1,s2,s3⟩ h5 z5 u dK C2 C3 l2 go;simp only[jd]at z5;simp only[h_.aB]at C3;simp only[go_sem,k2,k3,k5,z5,h5,s1,s2,s3,C2,C3,w2,w3];rw[<-u];refine fq ⟨u7.1,a4 dK⟩ ?_;rintro w H6 o2;obtain⟨mb,cb,ab,rfl,⟨t1,t2,t3⟩,h6,z6,fin⟩:=go o2;simp only[jd]at z6;simp only[go_sem,k6,z6,t1,t2,t3];exact fin (a:=0) (b:=0) (by simp[fi,k3]) (by simp[fi,k5]) (by simp[fi,k6]) (by simp[fi,k7]) (by simp[fi,k8]) (by simp[fi,k9]) (by simp[fi,O]) (by simp[fi,C]) (by simp[fi,I])
 by_cases j3:j=3
 ·have ed:x.bC c=(x.aY c.m).r:=by rw[dx,Ve M,Vf (.inr (.inl j3))]
  simp only[go_sem,k2,C,Va j0,Va j1,Va j2,Vc j3,B2,a6];refine fq ⟨u6.1,a5⟩ ?_;rintro v H' o;refine two (KV:=λ_=>_) o (xL hR hk hc.m).2 ed.symm ?_;rintro t ma ca aa K rfl ⟨s1,s2,s3⟩ h5 z5 u dK C2 C3 l2 go;simp only[jd]at z5;simp only[h_.aB]at C3;simp only[go_sem,k2,k3,k5,z5,h5,s1,s2,s3,C2,C3,w2,w3];rw[<-u];refine fq ⟨u7.1,a4 dK⟩ ?_;rintro w H6 o2;obtain⟨mb,cb,ab,rfl,⟨t1,t2,t3⟩,h6,z6,fin⟩:=go o2;simp only[jd]at z6;simp only[go_sem,k6,z6,t1,t2,t3];exact fin (a:=0) (b:=0) (by simp[fi,k3]) (by simp[fi,k5]) (by simp[fi,k6]) (by simp[fi,k7]) (by simp[fi,k8]) (by simp[fi,k9]) (by simp[fi,O]) (by simp[fi,C]) (by simp[fi,I])
 by_cases j4:j=4
 ·have ed:x.bC c=(x.aY c.m).r:=by rw[dx,Ve M,Vf (.inr (.inr j4))]
  simp only[go_sem,k2,C,Va j0,Va j1,Va j2,Va j3,Vc j4,B2,a6];refine fq ⟨u6.1,a5⟩ ?_;rintro v H' o;refine two (KV:=λ_=>_) o (xL hR hk hc.m).2 ed.symm ?_;rintro t ma ca aa K rfl ⟨s1,s2,s3⟩ h5 z5 u dK C2 C3 l2 go;simp only[jd]at z5;simp only[h_.aB]at C3;simp only[go_sem,k2,k3,k5,z5,h5,s1,s2,s3,C2,C3,w2,w3];rw[<-u];refine fq ⟨u7.1,a4 dK⟩ ?_;rintro w H6 o2;obtain⟨mb,cb,ab,rfl,⟨t1,t2,t3⟩,h6,z6,fin⟩:=go o2;simp only[jd]at z6;simp only[go_sem,k6,z6,t1,t2,t3];exact fin (a:=0) (b:=0) (by simp[fi,k3]) (by simp[fi,k5]) (by simp[fi,k6]) (by simp[fi,k7]) (by simp[fi,k8]) (by simp[fi,k9]) (by simp[fi,O]) (by simp[fi,C]) (by simp[fi,I])
 have a7:¬(j=2\/j=3\/j=4):=by rintro (z | z | z);exact j2 z;exact j3 z;exact j4 z
 by_cases j5:j=5
 ·have ed:x.bC c=(x.aP c.n c.aA).2.1.r:=by rw[dx,Ve M,Ve a7,Vf j5]
  simp only[go_sem,k2,k3,I,Va j0,Va j1,Va j2,Va j3,Va j4,Vc j5,B2,B3,la,hq];refine fq ⟨u8.1,u8.2 Lr H r x k c.n c.aA q b.p.m hR (by omega) dq hc.aA hc.n⟩ ?_;rintro _ H' ⟨v,rfl,o⟩;refine two (KV:=λ_=>_) o (HQ hR (by omega) hc.aA hc.n).2 ed.symm ?_;rintro t ma ca aa K rfl ⟨s1,s2,s3⟩ h5 z5 u dK C2 C3 l2 go;simp only[jd]at z5;simp only[h_.aB]at C3;rw[gF];simp only[go_sem,k2,k3,k5,z5,h5,s1,s2,s3,C2,C3,w2,w3];rw[<-u];refine fq ⟨u9.1,u9.2 fj t K r' x k c.n c.aA _ dK hR (by omega) (kO _ _ _) hc.aA hc.n⟩ ?_;rintro _ H6 ⟨w,rfl,o2⟩;obtain⟨mb,cb,ab,rfl,⟨t1,t2,t3⟩,h6,z6,fin⟩:=go o2;simp only[jd]at z6;simp only[go_sem,k6,z6,t1,t2,t3];exact fin (a:=(x.aP c.n c.aA).1) (b:=(x.aP c.n c.aA).2.2) (by simp[fi,k3]) (by simp[fi,k5]) (by simp[fi,k6]) (by simp[fi]) (by simp[fi]) (by simp[fi]) (by simp[fi]) (by simp[fi,C]) (by simp[fi,I])
 by_cases j6:j=6
 ·have ed:x.bC c=x.aX.2.1.r:=by rw[dx,Ve M,Ve a7,Ve j5,Vf j6]
  simp only[go_sem,k2,Va j0,Va j1,Va j2,Va j3,Va j4,Va j5,Vc j6,B2];refine fq ⟨ag.1,ag.2 Lr H r x k b.p.m hR (by omega)⟩ ?_;rintro _ H' ⟨v,rfl,o⟩;refine two (KV:=λ_=>_) o (Ik hR (by omega)).2 ed.symm ?_;rintro t ma ca aa K rfl ⟨s1,s2,s3⟩ h5 z5 u dK C2 C3 l2 go;simp only[jd]at z5;simp only[h_.aB]at C3;simp only[go_sem,k2,k5,z5,h5,s1,s2,s3,C2,w2];rw[<-u];refine fq ⟨af.1,af.2 t K r' x k dK hR (by omega)⟩ ?_;rintro _ H6 ⟨w,rfl,o2⟩;obtain⟨mb,cb,ab,rfl,⟨t1,t2,t3⟩,h6,z6,fin⟩:=go o2;simp only[jd]at z6;simp only[go_sem,k6,z6,t1,t2,t3];exact fin (a:=x.aX.1) (b:=x.aX.2.2) (by simp[fi,k3]) (by simp[fi,k5]) (by simp[fi,k6]) (by simp[fi]) (by simp[fi]) (by simp[fi]) (by simp[fi]) (by simp[fi,C]) (by simp[fi,I])
 have ed:x.bC c=(x.a_ c.n c.aA).1.r:=by rw[dx,Ve M,Ve a7,Ve j5,Ve j6]
 simp only[go_sem,k2,k3,I,Va j0,Va j1,Va j2,Va j3,Va j4,Va j5,Va j6,B2,B3,la,hq];refine fq ⟨ae.1,ae.2 Lr H r x k c.n c.aA q b.p.m hR (by omega) dq hc.aA⟩ ?_;rintro _ H' ⟨v,rfl,o⟩;refine two (KV:=λ_=>_) o (Gz hR (by omega) hc.aA).2 ed.symm ?_;rintro t ma ca aa K rfl ⟨s1,s2,s3⟩ h5 z5 u dK C2 C3 l2 go;simp only[jd]at z5;simp only[h_.aB]at C3;rw[gF];simp only[go_sem,k2,k3,k5,z5,h5,s1,s2,s3,C2,C3,w2,w3];rw[<-u];refine fq ⟨ad.1,ad.2 fj t K r' x k c.n c.aA _ dK hR (by omega) (kO _ _ _) (λ_ z=>z.elim) hc.aA⟩ ?_;rintro _ H6 ⟨w,rfl,o2⟩;obtain⟨mb,cb,ab,rfl,⟨t1,t2,t3⟩,h6,z6,fin⟩:=go o2;simp only[jd]at z6;simp only[go_sem,k6,z6,t1,t2,t3];exact fin (a:=0) (b:=(x.a_ c.n c.aA).2) (by simp[fi,k3]) (by simp[fi,k5]) (by simp[fi,k6]) (by simp[fi,k7]) (by simp[fi,k8]) (by simp[fi]) (by simp[fi]) (by simp[fi,C]) (by simp[fi,I])
def yl (P:Program)(f:FuncId):Prop:=fI P f=true/\∀(Lr Lm:Nat->Nat)(h:eZ)(r r':Nat)(x:fm)(k:Nat)(c:h_),oI Lr Lm h r r' x->x.aD k->k+200<2^28->c.aD->
 fy P f [.aE [.aC r 21 0 0,.aC r' 26 0 0],.aE c.aB] h λv h'=>v=.aD true/\tJ Lm h r r' (x.bC c) h'
theorem MC {P:Program}{f f1 f2 f3 f4 f5 f6 f7 f8 f9 f10 f11 f12 f13 W U O M I C:FuncId}(hf:Is P f (kq f1 f2 f3 f4 f5 f6 f7 f8 f9 f10 f11 f12 f13 W U O M I C))(u1:rk P f1)(u2:Ec P f2)(u3:tK P f3)(u4:tO P f4)(u5:vE P f5)(u6:wk P f6)(u7:vD P f7)(u8:tM P f8)(u9:vA P f9)(ag:wj P f10)(af:vB P f11)(ae:v7 P f12)(ad:vu P f13)
  (ac:tS P W) (ab:qq P U) (a9:rJ P O) (a8:tT P M) (a7:iU P I (.sl 1 [.aA .u8])) (a6:iU P C (.sl 17 lV)):yl P f:=by
 refine⟨hf.2,λLr Lm h r r' x k c p hR hk hc=>fN hf ?_⟩;obtain⟨E,hE⟩:∃E,E=(kq f1 f2 f3 f4 f5 f6 f7 f8 f9 f10 f11 f12 f13 W U O M I C).aA.tl.tl.tl.tl.tl.tl.tl:=⟨_,rfl⟩;obtain⟨E6,a3⟩:∃E6,E6=(kq f1 f2 f3 f4 f5 f6 f7 f8 f9 f10 f11 f12 f13 W U O M I C).aA.tl.tl.tl.tl.tl.tl:=⟨_,rfl⟩;obtain⟨rs,a2⟩:∃rs,rs=(kq f1 f2 f3 f4 f5 f6 f7 f8 f9 f10 f11 f12 f13 W U O M I C).aB:=⟨_,rfl⟩;have aj:=hE;have b:=a3;have u:=a2;simp only[kq,AC.aA,fC]at aj b u;simp only[kq,fC];rw[<-b,<-u];clear b;simp only[h_.aB,go_sem,n7,l7];obtain⟨H,hH⟩:∃H,H=h++[some (fh.aA 2 [[.aC r 21 0 0,.aC r' 26 0 0]] false)]++[some (fh.aA 20 [c.aB] false)]++[some (fh.aA 5 [[.aB,.aB,.aB,.aA .i64 0,.aD false]] false)]++[some (fh.aA 5 [[.aB,.aB,.aB,.aA .i64 0,.aD false]] false)]:=⟨_,rfl⟩;have X:eY fj h H:=by rw[hH];exact (eY.b3 _ _ _).tr (eY.b1 _)
 have B2:H[h.length]?=some (some (.aA 2 [[.aC r 21 0 0,.aC r' 26 0 0]] false)):=by rw[hH];exact (eY.b1 _).aA (oS _ _ _ _)
 have B3:H[h.length+1]?=some (some (.aA 20 [c.aB] false)):=by rw[hH];exact (eY.b1 _).aA (pG _ _ _ _)
 have B5:H[h.length+1+1]?=jd:=by rw[hH];exact (eY.b1 _).aA (rT _ _ _ _)
 have B6:H[h.length+1+1+1]?=jd:=by have:=gh (h++[some (fh.aA 2 [[.aC r 21 0 0,.aC r' 26 0 0]] false)]++[some (fh.aA 20 [c.aB] false)]++[some (fh.aA 5 [[.aB,.aB,.aB,.aA .i64 0,.aD false]] false)]) (some (fh.aA 5 [[.aB,.aB,.aB,.aA .i64 0,.aD false]] false));rw[kU,kU,kU]at this;rw[hH];exact this
 have lH:H.length=h.length+1+1+1+1:=by rw[hH];simp
 have a5:=B3;simp only[h_.aB]at hH a5;rw[<-hH];clear hH;have rm:fu fj H c.m.c (c.m.aB (iD c.m.es) (gV c.m.aE)):=sV (uP _ _ _) (kO _ _ _);have ms:c.m.aS:=⟨hc.m.aC,by have:=hc.m.aA.2;omega⟩;have cm:=u1.2 fj H c.m _ rm ms.1 ms.2;simp only[fB.aB]at cm;refine fq ⟨u1.1,cm⟩ ?_;rintro _ H2 ⟨e,d,rfl,oe,od,X2⟩;have se:=oe.aA;have sd:=od.aA;have C3:=X2.aA a5;have R3:∀y,(H2++[y])[h.length+1]?=_:=λy=>(eY.b1 y).aA C3;simp only[go_sem,se,sd,R3];have lx2:=X2.1;refine fq ⟨u2.1,u2.2 c.aA _ (by have:=hc.aA.2;omega)⟩ ?_;rintro al H4 ⟨ol,X4⟩;have ah:=X4.1;simp only[kU]at ah ol;have XX:=X2.tr ((eY.b1 (some (fh.aA 17 [c.m.aB e d] false))).tr X4);have X0:=X.tr XX;have hlt:=p.m.lt;obtain⟨G,hG⟩:∃G:Nat->Prop,G=λm=>(H.length<=m/\m<H2.length)\/(H2.length+1<=m/\m<H4.length):=⟨_,rfl⟩;obtain⟨t,a0⟩:∃t:Nat->Nat,t=λn=>if n<h.length then Lm n else if n<H4.length then 11 else 0:=⟨_,rfl⟩
 have lo:∀n,n<h.length->t n=Lm n:=λn hn=>by rw[a0];exact Vf hn
 have ln:∀n,h.length<=n->n<H4.length->t n=11:=λn h1 h2=>by rw[a0];show (if _ then _ else if _ then _ else _)=_;rw[Ve (by omega),Vf h2]
 have lz:∀n,H4.length<=n->t n=0:=λn h1=>by rw[a0];show (if _ then _ else if _ then _ else _)=_;rw[Ve (by have:=X0.1;omega),Ve (by omega)]
 have a4:eY fj H2 H4:=(eY.b1 (some (fh.aA 17 [c.m.aB e d] false))).tr X4;have base:vf Lr t H4 r r' h.length (h.length+1) (h.length+1+1) (h.length+1+1+1) H2.length x c e d al G:=by
  refine⟨⟨p.m.up X0,p.d.aA X0.1 lo (λm hm _=>X0.2 m hm (λz=>z)) (λm hm=>Vm λz=>hm (lz m (by omega))),λn hn=>by rw[lo n (p.m.aA n hn).1];exact p.a n hn⟩,
   ⟨XX.aA B2,XX.aA B3,X4.aA (gh _ _),?_,?_,?_⟩,XX.aA B5,XX.aA B6,λn hn=>?_,by omega,λn hn=>by rw[hG]at hn;omega⟩
  ·exact e_.aB _ (λm hm=>by rw[hG];exact .inl hm) (λm hm y hy=>a4.aA hy) _ (e_.lt _ _ oe)
  ·exact e_.aB _ (λm hm=>by rw[hG];exact .inl hm) (λm hm y hy=>a4.aA hy) _ (e_.lt _ _ od)
  ·exact e_.aB _ (λm hm=>by rw[hG];exact .inr hm) (λ_ _ _ y=>y) _ (e_.lt _ _ ol)
  ·have hh:h.length<=n/\n<H4.length:=by rw[hG]at hn;omega
   exact⟨hh.2,Vm λz=>by have:=(p.m.aA n z).1;omega,ln n hh.1 hh.2⟩
 have fin:∀{x':fm}{K h':eZ}{a1:Nat->Nat},(∀n,n<H4.length->a1 n=t n)->(∀n,n<H4.length->Lr n=0->n≠h.length+1+1->K[n]?=H4[n]?)->H4.length<=K.length->tJ a1 K r r' x' h'->tJ Lm h r r' x' h':=by
  intro x' K h' a1 l2 sk lk ⟨ak,am,p3,l3,X3⟩;have l04:=X0.1;refine⟨ak,am,p3,λn hn=>(l3 n (by omega)).trans ((l2 n (by omega)).trans (lo n hn)),⟨by have:=X3.1;omega,λn hn hz=>?_⟩⟩;have ai:Lm n=0:=Vm λz=>hz z;have zr:Lr n=0:=Vm λz=>by have:=p.a n z;omega
  exact (X3.2 n (by omega) (λz=>z (((l2 n (by omega)).trans (lo n hn)).trans ai))).trans ((sk n (by omega) zr (by omega)).trans (X0.2 n hn (λz=>z)))
 simp only[go_sem];rw[a3,a2];exact MD u3 u4 u5 u6 u7 u8 u9 ag af ae ad ac ab a9 a8 a7 a6 base hR hk hc (by simp[fi]) (by simp[fi]) (by simp[fi]) (by simp[fi]) (by simp[fi]) (by simp[fi]) (by simp[fi]) (by simp[fi]) (by simp[fi]) (by simp[fi]) λl2 sk lk pt=>⟨rfl,fin l2 sk lk pt⟩
def xV (P:Program)(f:FuncId):Prop:=fI P f=true/\∀(Lr Lm:Nat->Nat)(h:eZ)(r r':Nat)(x:fm)(k:Nat)(round:Int),oI Lr Lm h r r' x->x.aD k->k<=2^28->
 fy P f [.aE [.aC r 21 0 0,.aC r' 26 0 0],.aA .i64 round] h λv h'=>v=.aD true/\eY fj h h'
theorem NH {l:List fO}(h:l.length<=2^40):lu (ig l) (.sl 4 ur):=by refine⟨_,rfl,by simpa using h,rI λd hd=>?_⟩;obtain⟨n,hn,rfl⟩:=Wl.1 hd;exact⟨_,_,rfl,rfl,_,_,rfl,rfl,_,_,rfl,rfl,_,_,rfl,rfl,rfl⟩
theorem KD {P:Program}{f f1 f2 f3 f4 f5 f6 f7 f8 f9 f10 f11:FuncId}(hf:Is P f (zS f1 f2 f3 f4 f5 f6 f7 f8 f9 f10 f11))(u1:yG P f1)(u2:yF P f2)(u3:wy P f3)(u4:Es P f4)(u5:mW P f5 fm.aM)(u6:mW P f6 fm.aW)(u7:mW P f7 fm.aI)(u8:yK P f8)(u9:yk P f9)(u10:qw P f10 oW)(u11:iU P f11 (.sl 4 ur)):xV P f:=by
 refine⟨hf.2,λLr Lm h r r' x k round p hR hk=>fN hf ?_⟩;have hfew:x.aA.aK:=⟨hR.aQ hk,(kP hR.aL).le (by decide),by have:=hR.aX.2;omega⟩;have hb:=hR.aC;have hl:=hR.aR;have hfl:=hR.aD.1;simp only[zS,go_sem];have X0:=eY.b1 (h:=h) (some (fh.aA 2 [[.aC r 21 0 0,.aC r' 26 0 0]] false));have B0:=gh h (some (fh.aA 2 [[.aC r 21 0 0,.aC r' 26 0 0]] false));have rw0:=(p.m.up X0).aD;refine fq ⟨u1.1,u1.2 _ r x rw0 (hR.aB hk) hfew.2.1 hfew.2.2 ⟨by omega,hb.1,by omega⟩⟩ ?_;rintro _ H1 ⟨b,rfl,ob,X1⟩;obtain⟨e,o,n,l,s,rfl,qe,qo,qn,ql,qs⟩:=kW (fW.rd _ (F':=λ_=>True) (λ_ _=>Vp) _ ob);have se:=qe.aA;have so:=qo.aA;have sn:=qn.aA;have sl:=ql.aA;have ss:=qs.aA;have B1:=X1.aA B0;have R1:∀y,(H1++[y])[h.length]?=_:=λy=>(eY.b1 y).aA B1;simp only[fV.aG,go_sem,R1,se,so,sn,sl,ss];obtain⟨H2,hH2⟩:∃H2,H2=H1++[some (fh.aA 10 [x.aA.aG e o n l s] false)]:=⟨_,rfl⟩;have B5:H2[H1.length]?=some (some (fh.aA 10 [x.aA.aG e o n l s] false)):=by rw[hH2];exact gh _ _
 have X12:eY fj H1 H2:=by rw[hH2];exact eY.b1 _
 simp only[fV.aG]at hH2 B5;rw[<-hH2];clear hH2;have X2:=(X0.tr X1).tr X12;have B2:=X12.aA B1;refine fq ⟨u2.1,u2.2 Lr H2 r x (p.m.up X2) (by omega)⟩ ?_;rintro fv H3 ⟨ofl,X3⟩;have X03:=X2.tr X3;have C2:=X3.aA B2;have C5:=X3.aA B5;obtain⟨g,ff,ma,ca,en,co,cn,cl,sn',a⟩:=p.d.up X03;have row:=a.aA;obtain⟨s1,s2,s3,s4,s5,s6,s7,s8,s9⟩:=a.sc;simp only[RX.aB,fm.aC]at row;have rw3:=(p.m.up X03).aD;have q3:=u3.2 _ _ H3 x.aA x.aA _ _ (fu.up (fW.rd _ (F':=λ_=>True) (λ_ _=>Vp) _ ob) (X12.tr X3)) (a.aF) hfew;have q4:=u4.2 _ _ H3 x.aB x.aB _ _ (e_.rd _ (F':=λ_=>True) (λ_ _=>Vp) _ ofl) (a.rd (p:=(2,ig x.aB,ff)) (by simp[dl,fm.aC])) (by omega);simp only[fV.aG,decide_true]at q3 q4;simp only[go_sem,C2,C5,row];refine fR u3.1 q3 ?_;rw[gF];simp only[go_sem,C2,C5,row];refine fR u4.1 q4 ?_;rw[gF];simp only[go_sem,C2,C5,row];refine fR u5.1 (u5.2 H3 r x rw3) ?_;rw[gF];simp only[go_sem,C2,C5,row];refine fR u6.1 (u6.2 H3 r x rw3) ?_;rw[gF];simp only[go_sem,C2,C5,row];refine fR u7.1 (u7.2 H3 r x rw3) ?_;rw[gF];simp only[go_sem,C2,C5,row];refine fR u8.1 (u8.2 Lr H3 r x k round (p.m.up X03) hR hk) ?_;rw[gF];simp only[go_sem,C2,C5,row];refine fR u9.1 (u9.2 Lm H3 r' x k round (p.d.up X03) hR hk) ?_;rw[gF];simp only[go_sem,C2,C5,row];have oh:gW oW (λm=>h.length+1<=m/\m<H3.length) H3 [.aA .i64 x.aA.aD,.aA .i64 x.aA.aB,.aA .i64 x.aA.aE,.aA .i64 x.aA.aA.aA,.aA .i64 x.aA.aA.aB,e,o,n,l,s]:=by have o1:=fW.aA (F':=λm=>h.length+1<=m/\m<H1.length) _ (λm hm=>by simpa using hm) (λ_ _ _ y=>y) _ (fW.lt _ _ ob);exact gW.aB _ (λm hm=>⟨hm.1,by have:=hm.2;have:=X12.1;have:=X3.1;omega⟩) ((X12.tr X3).aF _) _ (fW.ty _ _ _ (G4 hfew) o1)
 refine fq ⟨u10.1,u10.2 _ H3 _ oh (λm hm=>hm.2)⟩ ?_;rintro _ H4 ⟨X4,p4⟩;simp only[go_sem];have of':gn (.sl 4 ur) (λm=>H2.length<=m) H3 fv:=e_.ty _ _ _ (NH (by omega)) ofl;refine fq ⟨u11.1,u11.2 _ H4 fv (of'.aA p4)⟩ ?_;rintro _ H5 ⟨X5,-⟩;simp only[go_sem];have e1:=X03.1;have e2:=X2.1;have e4:=X4.1;have e5:=X5.1;exact⟨by omega,λm hm _=>(X5.2 m (by omega) (λz=>by have z:H2.length<=m:=z;omega)).trans ((X4.2 m (by omega) (λz=>by have:=z.1;omega)).trans (X03.2 m hm (λz=>z)))⟩
end Glb
