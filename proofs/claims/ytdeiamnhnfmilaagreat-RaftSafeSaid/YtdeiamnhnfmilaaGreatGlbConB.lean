/-
  A library of its own.
-/
import Derived.Test.YtdeiamnhnfmilaaGreatGlbConA
import Derived.Test.YtdeiamnhnfmilaaGreatGlbQuoC
set_option linter.unusedSimpArgs false
set_option linter.unusedVariables false
set_option maxRecDepth 10000
set_option maxHeartbeats 8000000
namespace Glb
open Go
attribute [go_sem] HY
def DE (P:Program)(f:FuncId):Prop:=
 fK P f=true/\∀(F:Nat->Prop)(h:eX)(x:fq)(a:List AV),fu F h x.c a->x.aG (2^38)->fC P f [.aF a] h λr h'=>∃cs,r=.aF cs/\fI (fq.mk x.aC [] []).c (λm=>h.length<=m) h' cs/\eW eZ h h'
def Ef (P:Program)(f:FuncId):Prop:=
 fK P f=true/\∀(F:Nat->Prop)(h:eX)(x:fq)(a:List AV),fu F h x.c a->x.aG (2^38)->x.aA≠[]->fC P f [.aF a] h λr h'=>∃cs,r=.aF cs/\fI (fq.mk x.aA (jo (x.aA++x.aD)) []).c (λm=>h.length<=m) h' cs/\eW eZ h h'
theorem Kb {P:Program}{f k:FuncId}(hf:Is P f (zK k))(hk:o8 P k):DE P f:=by
 refine⟨hf.2,λF h x a ha hx=>fS hf ?_⟩;obtain⟨o,n,e,rfl,ho,hn,he⟩:=kI ha;obtain⟨h1,h2,h3⟩:=id hx;simp only[zK,go_sem,ho.aA,hn.aA,he.aA];refine fy ⟨hk.1,hk.2 F _ x.aC n (hn.up (eW.b2 _ _)) (by omega)⟩ ?_;rintro r H ⟨ro,_,rx⟩;have B:=rx.aA (iF _ _ _);have hl:=rx.1;simp only[nD]at hl;have l2:h.length+1<H.length:=by omega
 simp only[go_sem,B,ro.aA,gz ro.aA,l2];refine⟨_,rfl,n_ ?_ (eY.aD 1) (eY.aD 1),?_⟩;·simp only[nD]at ro;exact jH ro (by omega) _ (by omega)
 ·exact ((eW.b2 _ _).tr rx).aG (by omega) _
theorem NV {P:Program}{f k s:FuncId}(hf:Is P f (zN k s))(hk:o8 P k)(hs:zj P s):Ef P f:=by
 refine⟨hf.2,λF h x a ha hx C=>fS hf ?_⟩;obtain⟨o,n,e,rfl,ho,hn,he⟩:=kI ha;obtain⟨h1,h2,h3⟩:=id hx;simp only[zN,go_sem,ho.aA,hn.aA,he.aA];refine fy ⟨hk.1,hk.2 F _ x.aA o (ho.up (eW.b2 _ _)) (by omega)⟩ ?_;rintro r H ⟨ro,rc,rx⟩;obtain⟨ys,y1,y2⟩:=(((he.up (eW.b2 _ _)).up rx)).aH;obtain⟨q,H2,s1,s2,s3,s4⟩:=l_ (bytes:=8) ro (rc C) (eW.aC eZ H) (rP y2) rx.1 (by simp;omega);rw[<-iv y1]at s1;have A:=rx.aA (jx _ _ _);have B:=rx.aA (iF _ _ _);simp only[go_sem,A,s1];have u:eY (fN (x.aA++x.aD)) (λm=>(h++[some (e_.aA 3 [[o,n,e]] false)]++[some (e_.aA 3 [[.aD,.aD,.aD]] false)]).length<=m) H2 q:=by rw[fN,VJ];exact s2
 refine fy ⟨hs.1,hs.2 _ _ _ q u (by simp;omega)⟩ ?_;rintro _ H3 ⟨so,sx⟩;have X2:=rx.aJ s4 (λm hm E=>by omega);have X3:=X2.aJ sx (λm hm E=>by omega);simp only[go_sem,X3.aA (jx _ _ _)];refine fy ⟨hk.1,hk.2 F _ x.aA o ((ho.up (eW.b2 _ _)).up X3) (by omega)⟩ ?_;rintro v H4 ⟨vo,_,vx⟩;have X4:=X3.tr vx;have B4:=X4.aA (iF h (some (e_.aA 3 [[o,n,e]] false)) (some (.aA 3 [[.aD,.aD,.aD]] false)));have hl:=X3.1;have hl4:=vx.1;simp only[nD]at hl;have l2:h.length+1<H4.length:=by omega
 simp only[go_sem,B4,vo.aA,gz vo.aA,so.aA,gz so.aA,l2];refine⟨_,rfl,n_ ?_ ?_ (eY.aD 1),?_⟩;·exact jH vo (by omega) _ (by omega)
 ·simp only[nD]at so;exact jH (eY.aC (F':=λm=>h.length+1+1<=m) _ (λm hm=>hm) (vx.aE _) _ so) (by omega) _ (by omega)
 ·exact ((eW.b2 _ _).tr X4).aG (by omega) _
theorem vv {x:fq}{F:Nat->Prop}{h:eX}{a:List AV}(hh:fI x.c F h a):∃o n e,a=[o,n,e]/\eY (fN x.aA) F h o/\eY (fN x.aC) F h n/\eY (fN x.aD) F h e:=by simp only[fq.c,fI]at hh;obtain⟨o,_,rfl,ho,n,_,rfl,hn,e,_,rfl,he,rfl⟩:=hh;exact⟨o,n,e,rfl,ho,hn,he⟩
def wk (P:Program)(f:FuncId):Prop:=
 fK P f=true/\∀(F G:Nat->Prop)(h:eX)(x:fq)(far:List Int)(a:List AV)(b:AV),fu F h x.c a->Rd G h (fN far) b->x.aG (2^38)->far.length<=2^38->
  fC P f [.aF a,b] h λr h'=>∃cs,r=.aI [.aF cs,.aE (x.aJ far).2]/\fI (x.aJ far).1.c (λm=>h.length<=m) h' cs/\eW eZ h h'
theorem Ej {P:Program}{f g:FuncId}(hf:Is P f (wV g))(hg:mo P g){F:Nat->Prop}{h:eX}{e:List Int}{b q:AV}(hb:Rd F h (fN e) b)(hy:e.length<=2^38)(hq:ir h false 1 q=some b)(n:Int):
  fC P f ([]++[.aA .i64 n]++[q]) h λr h'=>r=.aE (!decide (n∈e))/\h'=h:=by
 refine fS hf ?_;simp only[wV,go_sem,hq];refine fZ hg.1 (hg.2 F _ e b n hb (by omega)) ?_;simp only[go_sem]
theorem LX {P:Program}{f f1 q b c k j l s:FuncId}(hf:Is P f (zI f1 q b c k j l))(h1:Is P f1 (wV s))(hs:mo P s)(hq:ug P q)(hb:yu P b)(hc:DG P c)(hk:o8 P k)(hj:Ef P j)(hl:DE P l):wk P f:=by
 refine⟨hf.2,λF G h x I a y ha hy hx W=>fS hf ?_⟩;have E:=ha;obtain⟨o,n,e,rfl,ho,hn,he⟩:=kI ha;obtain⟨l1,l2,l3⟩:=id hx;simp only[zI,go_sem,ho.aA,hn.aA,he.aA,hy.aA,gz hy.aA];have b0:=KY h (some (e_.aA 3 [[o,n,e]] false)) (some (.aA 1 [[y]] false)) (some (.aA 3 [[.aD,.aD,.aD]] false)) (some (.aA 3 [[o,n,e]] false));have b1:=KZ h (some (e_.aA 3 [[o,n,e]] false)) (some (.aA 1 [[y]] false)) (some (.aA 3 [[.aD,.aD,.aD]] false)) (some (.aA 3 [[o,n,e]] false));have b2:=K4 h (some (e_.aA 3 [[o,n,e]] false)) (some (.aA 1 [[y]] false)) (some (.aA 3 [[.aD,.aD,.aD]] false)) (some (.aA 3 [[o,n,e]] false));have b3:=K6 h (some (e_.aA 3 [[o,n,e]] false)) (some (.aA 1 [[y]] false)) (some (.aA 3 [[.aD,.aD,.aD]] false)) (some (.aA 3 [[o,n,e]] false));have hX:=eW.b4 (h:=h) (some (e_.aA 3 [[o,n,e]] false)) (some (.aA 1 [[y]] false)) (some (.aA 3 [[.aD,.aD,.aD]] false)) (some (.aA 3 [[o,n,e]] false));have hlen:(h++[some (e_.aA 3 [[o,n,e]] false)]++[some (e_.aA 1 [[y]] false)]++[some (e_.aA 3 [[AV.aD,AV.aD,AV.aD]] false)]++[some (e_.aA 3 [[o,n,e]] false)]).length=h.length+4:=by simp
 generalize h++[some (e_.aA 3 [[o,n,e]] false)]++[some (e_.aA 1 [[y]] false)]++[some (e_.aA 3 [[AV.aD,AV.aD,AV.aD]] false)]++[some (e_.aA 3 [[o,n,e]] false)]=H0 at *;have le:=(he.up hX).aF;have ln:=(hn.up hX).aF;refine fZ hq.1 (hq.2 F _ x _ (fu.up E hX) hx) ?_;by_cases C:x.aV I=true
 ·have e0:x.aJ I=(x,false):=by simp[fq.aJ,C]
  rw[e0];have M:x.aE=false\/(x.aE=true/\x.aN=false)\/(x.aE=true/\x.aN=true/\x.aC.length=0/\(x.aD.any λn=>!decide (n∈I))=true):=by simp only[fq.aV,We,Vq,Xg,VD]at C;cases c:x.aE<;>cases c':x.aN<;>simp_all
  rcases M with d0 | ⟨d0,d1⟩ | ⟨d0,d1,d2,d3⟩;focus
   simp only[go_sem,d0,Vn,VI,Hl,b0]
  rotate_left
  focus
   simp only[go_sem,d0,VS,b3];refine fZ hb.1 (hb.2 F _ x _ (fu.up E hX) hx) ?_;simp only[go_sem,d1,b0]
  rotate_left
  focus
   simp only[go_sem,d0,VS,b3];refine fZ hb.1 (hb.2 F _ x _ (fu.up E hX) hx) ?_;have a1:(x.aC.length:Int)=0:=by omega
   simp only[go_sem,d1,b0,ln,U3 a1];refine fZ hc.1 (hc.2 F _ x.aD e f1 [] [.aC (h.length+1) 1 0 0] _ (he.up hX) (by omega) h1.2 (λm=>Ej h1 hs (hy.up hX) W (by rw[wN,b1];rfl) m)) ?_;simp only[go_sem,d3,b0]
  rotate_left
  all_goals
   refine fy ⟨hk.1,hk.2 F _ x.aA o (ho.up hX) (by omega)⟩ ?_;rintro r H1 ⟨ro,_,rx⟩;simp only[go_sem,rx.aA b0];refine fy ⟨hk.1,hk.2 F _ x.aC n ((hn.up hX).up rx) (by omega)⟩ ?_;rintro u H2 ⟨uo,_,ux⟩;simp only[go_sem,ux.aA (rx.aA b0)];refine fy ⟨hk.1,hk.2 F _ x.aD e (((he.up hX).up rx).up ux) (by omega)⟩ ?_;rintro v H3 ⟨vo,_,vx⟩;have X:=(rx.tr ux).tr vx;have g1:=rx.1;have g2:=ux.1;have g3:=vx.1;have O:h.length+1+1<H3.length:=by omega
   simp only[go_sem,X.aA b0,X.aA b2,ro.aA,gz ro.aA,uo.aA,gz uo.aA,vo.aA,gz vo.aA,O,U9];refine⟨_,rfl,n_ ?_ ?_ ?_,?_⟩;·exact jH (eY.aC (F':=λm=>h.length+3<=m) _ (λm hm=>by omega) ((ux.tr vx).aE _) _ ro) (by omega) _ (by omega)
   ·exact jH (eY.aC (F':=λm=>h.length+3<=m) _ (λm hm=>by omega) (vx.aE _) _ uo) (by omega) _ (by omega)
   ·exact jH (eY.aC (F':=λm=>h.length+3<=m) _ (λm hm=>by omega) (gY.lt _ _) _ vo) (by omega) _ (by omega)
   ·exact (hX.tr X).aG (by omega) _
 ·simp only[Xn]at C;have U:=C;simp only[fq.aV,Wj,Bool.and_eq_false_iff,Bool.not_eq_false',V7]at C;obtain⟨⟨d0,d1⟩,d2⟩:=C;simp only[go_sem,d0,VS,b3];refine fZ hb.1 (hb.2 F _ x _ (fu.up E hX) hx) ?_;by_cases d3:x.aC.length=0
  ·have Z:(x.aC.length:Int)=0:=by omega
   have d5:¬(0:Int)<x.aC.length:=by omega
   have d4:(x.aD.any λn=>!decide (n∈I))=false:=by
    rcases d2 with d2 | d2;·exact absurd d3 d2
    ·exact d2
   have e0:x.aJ I=(⟨x.aA,jo (x.aA++x.aD),[]⟩,true):=by simp[fq.aJ,U,d3]
   rw[e0];simp only[go_sem,d1,b0,ln,U3 Z];refine fZ hc.1 (hc.2 F _ x.aD e f1 [] [.aC (h.length+1) 1 0 0] _ (he.up hX) (by omega) h1.2 (λm=>Ej h1 hs (hy.up hX) W (by rw[wN,b1];rfl) m)) ?_;simp only[go_sem,d4,b0,b3,ln,U2 d5];refine fy ⟨hj.1,hj.2 F _ x _ (fu.up E hX) hx (λe=>(Df d0).1 (by rw[e];rfl))⟩ ?_;rintro _ H1 ⟨cs,rfl,ro,rx⟩;obtain⟨p1,p2,p3,rfl,q1,q2,q3⟩:=vv ro;have g1:=rx.1;have O:h.length+1+1<H1.length:=by omega
   simp only[go_sem,rx.aA b2,q1.aA,q2.aA,q3.aA,O];refine⟨_,rfl,n_ ?_ ?_ ?_,(hX.tr rx).aG (by omega) _⟩;·exact jH q1 (by omega) _ (by omega)
   ·exact jH q2 (by omega) _ (by omega)
   ·exact jH q3 (by omega) _ (by omega)
  ·have Z:¬(x.aC.length:Int)=0:=by omega
   have d5:(0:Int)<x.aC.length:=by omega
   have e0:x.aJ I=(⟨x.aC,[],[]⟩,true):=by simp only[fq.aJ,U];rw[U6 (by simp),U4 (by omega)]
   rw[e0];simp only[go_sem,d1,b0,ln,U2 Z,U3 d5,b3];refine fy ⟨hl.1,hl.2 F _ x _ (fu.up E hX) hx⟩ ?_;rintro _ H1 ⟨cs,rfl,ro,rx⟩;obtain⟨p1,p2,p3,rfl,q1,q2,q3⟩:=vv ro;have g1:=rx.1;have O:h.length+1+1<H1.length:=by omega
   simp only[go_sem,rx.aA b2,q1.aA,q2.aA,q3.aA,O];refine⟨_,rfl,n_ ?_ ?_ ?_,(hX.tr rx).aG (by omega) _⟩;·exact jH q1 (by omega) _ (by omega)
   ·exact jH q2 (by omega) _ (by omega)
   ·exact jH q3 (by omega) _ (by omega)
theorem S7 (l:List Int):(jo l).Pairwise (·<=·):=by have:=List.pairwise_mergeSort (le:=λx y:Int=>decide (x<=y)) (λa b c h1 h2=>by simp at *;omega) (λa b=>by simp;omega) l;exact this.imp λh=>by simpa using h
theorem Iv (l:List Int):(jo l).Perm l:=List.mergeSort_perm _ _
theorem S8 {l:List Int}(h:l.Nodup):jC (jo l):=by have h1:=S7 l;have h2:(jo l).Nodup:=(Iv l).nodup_iff.2 h;exact (List.Pairwise.and h1 h2).imp λ⟨a,b⟩=>by omega
theorem jC.aA {l:List Int}(h:jC l):l.Nodup:=h.imp λa=>by omega
theorem uj.g {P:Program}{f:FuncId}(hc:uj P f){F:Nat->Prop}{h:eX}{x:fq}{a:List AV}(ha:fu F h x.c a)(hl:x.aG (2^40)):fC P f [.aF a] h λr h'=>r=.aF x.v/\h'=h:=
 (hc.2 F h x a ha hl.1 hl.2.1 hl.2.2).aC λ_ _ ⟨o,n,e,h1,h2,h3,h4,h5⟩=>⟨h5,_,h1▸gU.aA (fI.fz x.c (λ_ x=>x) _ (n_ h2 h3 h4)),rfl⟩
def zk (P:Program)(f:FuncId)(t:fq->Int->fq×Int):Prop:=
 fK P f=true/\∀(F:Nat->Prop)(h:eX)(x:fq)(a:List AV)(n:Int),fu F h x.c a->x.aG (2^38)->fC P f [.aF a,.aA .i64 n] h λr h'=>r=.aI [.aF (t x n).1.v,.aA .i64 (t x n).2]/\h'=h
theorem sJ.p {P:Program}{f:FuncId}{t:fq->Int->fq×Int}(hc:sJ P f t):zk P f t:=⟨hc.1,λF h x a n ha hx=>(hc.2 F h x a n ha hx).aC λ_ _ ⟨cs,h1,h2,h3⟩=>⟨h3,_,h1▸gU.aC (gU.aA (fI.fz _ (λ_ x=>x) _ h2)) (gU.aD _ _),rfl⟩⟩
def Ei (P:Program)(f:FuncId):Prop:=
 fK P f=true/\∀(F G:Nat->Prop)(h:eX)(x:fq)(far:List Int)(a:List AV)(b:AV),fu F h x.c a->Rd G h (fN far) b->x.aG (2^38)->far.length<=2^38->
  fC P f [.aF a,b] h λr h'=>r=.aI [.aF (x.aJ far).1.v,.aE (x.aJ far).2]/\h'=h
theorem wk.p {P:Program}{f:FuncId}(hc:wk P f):Ei P f:=⟨hc.1,λF G h x e a b ha hb hx hf=>(hc.2 F G h x e a b ha hb hx hf).aC λ_ _ ⟨cs,h1,h2,h3⟩=>⟨h3,_,h1▸gU.aC (gU.aA (fI.fz _ (λ_ x=>x) _ h2)) (gU.aE _),rfl⟩⟩
theorem Dg:∀{l:List Int}{p:Option Int},ku p l=true↔jC l/\(∀y,p=some y->∀m∈l,y<m)/\∀m∈l,1<=m/\m<=7
 | l,p=>by
  refine⟨qy,?_⟩;induction l generalizing p with
  | nil=>intro _;rfl
  | cons x r ih=>
   rintro⟨h1,h2,h3⟩;have h4:=Wx.1 h1;have h5:=h3 x (by simp);simp only[ku,Vq,Xg,Wj,V7];refine⟨⟨⟨by omega,by omega⟩,?_⟩,ih _ ⟨h4.2,λy hy m hm=>?_,λm hm=>h3 m (by simp[hm])⟩⟩
   ·cases p with
    | none=>rfl
    | some y=>have:=h2 y rfl x (by simp);simp;omega
   ·cases hy;exact h4.1 m hm
theorem mY {x:fq}:x.aE=true↔x.aA≠[]/\(jC x.aA/\∀m∈x.aA,1<=m/\m<=7)/\(jC x.aC/\∀m∈x.aC,1<=m/\m<=7)/\(jC x.aD/\∀m∈x.aD,1<=m/\m<=7)/\∀m∈x.aD,m∉x.aA/\m∉x.aC:=by
 constructor;·intro h;obtain⟨h0,h1,h2,h3,h4,h5,h6,h7⟩:=Df h;exact⟨λe=>h0 (by rw[e];rfl),⟨h1,h4⟩,⟨h2,h5⟩,⟨h3,h6⟩,h7⟩
 ·rintro⟨h0,⟨h1,h4⟩,⟨h2,h5⟩,⟨h3,h6⟩,h7⟩;have r1:ku none x.aA=true:=Dg.2 ⟨h1,by simp,h4⟩;have r2:ku none x.aC=true:=Dg.2 ⟨h2,by simp,h5⟩;have r3:ku none x.aD=true:=Dg.2 ⟨h3,by simp,h6⟩;have r4:x.aD.any x.aO=false:=by rw[<-Xn,Xc];rintro⟨n,g1,g2⟩;have:=h7 n g1;simp[fq.aO,this.1,this.2]at g2
  have r0:x.aA.length≠0:=λe=>h0 (U7 e);simp[fq.aU,r0,r1,r2,r3,r4]
def zc (x y:fq):Prop:=y.aE=true/\y≠x/\∃l:List Int,(∀n∈l,n∈x.aK/\n∈y.aK)/\(∀a,x.aH a=true->lK l a=true)/\∀b,y.aH b=true->lK l b=true
theorem JR {x:fq}{n:Int}(h:(x.aM n).2=0):x.aL n=0/\n∉x.aA/\(x.aM n).1=⟨x.aA,[],[n]⟩:=by
 unfold fq.aM at h ⊢;split at h;·rename_i h1;exact absurd h h1
 ·rename_i h1;split at h;·simp at h
  ·rename_i h2;rw[U6 h1,U6 h2];exact⟨by simpa using h1,h2,rfl⟩
theorem Mh {x:fq}{n:Int}(h:(x.aI n).2=0):x.aL n=0/\n∈x.aA/\x.aA.length≠1/\(x.aI n).1=⟨x.aA,x.aA.filter (λm=>!decide (m=n)),[]⟩:=by
 unfold fq.aI at h ⊢;split at h;·rename_i h1;exact absurd h h1
 ·rename_i h1;split at h;·simp at h
  ·rename_i h2;split at h;·simp at h
   ·rename_i h3;rw[U6 h1,U6 h2,U6 h3];exact⟨by simpa using h1,by simpa using h2,h3,rfl⟩
theorem F4 {n:Int}:∀{l:List Int},l.Nodup->n∈l->l.count n=1
 | [],_,h=>by cases h
 | x :: r,hd,h=>by
  have h1:=Xf.1 hd;by_cases e:x=n;·subst e;simp[List.count_eq_zero_of_not_mem h1.1]
  ·rw[List.count_cons_of_ne e];exact F4 h1.2 ((VP.1 h).resolve_left λq=>e q.symm)
theorem MB {l:List Int}{n:Int}(h:jC l)(hn:n∈l):(l.filter λm=>!decide (m=n)).length+1=l.length:=by
 have h1:=List.length_eq_countP_add_countP (λm=>decide (m=n)) (l:=l);have h2:l.countP (λm=>decide (m=n))=1:=by have:=F4 h.aA hn;rw[List.count]at this;rw[<-this];congr 1
 rw[<-List.countP_eq_length_filter,h1,h2,Nat.add_comm];congr 2;funext m;simp
theorem JS {x:fq}{n:Int}(h:(x.aM n).2=0):x.aE=true/\zc x (x.aM n).1:=by obtain⟨h1,h2,h3⟩:=JR h;obtain⟨r,n1,n7,e1,e2⟩:=CB h1;obtain⟨g0,g1,_,_,_⟩:=mY.1 r;refine⟨r,?_⟩;rw[h3];refine⟨mY.2 ⟨g0,g1,⟨List.Pairwise.nil,by simp⟩,⟨List.pairwise_singleton _ _,by simp;omega⟩,by simp;exact h2⟩,λe=>?_,x.aA,λm hm=>⟨qq.2 (.inl hm),qq.2 (.inl hm)⟩,λa ha=>rW ha,λb hb=>by have:=rW hb;exact this⟩;have:=W_ fq.aD e;rw[e2]at this;simp at this
theorem Mi {x:fq}{n:Int}(h:(x.aI n).2=0):x.aE=true/\zc x (x.aI n).1:=by obtain⟨h1,h2,h3,h4⟩:=Mh h;obtain⟨r,n1,n7,e1,e2⟩:=CB h1;obtain⟨g0,g1,_,_,_⟩:=mY.1 r;refine⟨r,?_⟩;rw[h4];have fl:=MB g1.1 h2;refine⟨mY.2 ⟨g0,g1,⟨g1.1.filter _,λm hm=>g1.2 m (WV.1 hm).1⟩,⟨List.Pairwise.nil,by simp⟩,by simp⟩,λe=>?_,x.aA,λm hm=>⟨qq.2 (.inl hm),qq.2 (.inl hm)⟩,λa ha=>rW ha,λb hb=>by have:=rW hb;exact this⟩;have:=W_ (λy=>(fq.aC y).length) e;rw[e1]at this;simp only[Ve]at this;omega
theorem Tc {x:fq}{u:List Int}(h:x.aV u=false):x.aE=true/\x.aN=true/\(x.aC=[]->∀n∈x.aD,n∈u):=by
 simp only[fq.aV,Wj,Bool.and_eq_false_iff,Bool.not_eq_false',V7]at h;refine⟨h.1.1,h.1.2,λe n hn=>?_⟩;rcases h.2 with h2 | h2
 ·exact absurd (by rw[e];rfl) h2
 ·rw[<-Xn,Xc]at h2;exact Vb λhc=>h2 ⟨n,hn,by simp[hc]⟩
theorem Pq {x:fq}{u:List Int}(h:(x.aJ u).2=true):x.aE=true/\x.aN=true/\((x.aC≠[]/\(x.aJ u).1=⟨x.aC,[],[]⟩)\/(x.aC=[]/\x.aD≠[]/\(x.aJ u).1=⟨x.aA,jo (x.aA++x.aD),[]⟩)):=by
 unfold fq.aJ at h ⊢;split at h;·cases h
 ·rename_i h1;rw[U6 h1];simp only[Xn]at h1;obtain⟨s1,s2,s3⟩:=Tc h1;refine⟨s1,s2,?_⟩;by_cases c:0<x.aC.length;·rw[U4 c];exact .inl ⟨by rintro e;rw[e]at c;simp at c,rfl⟩
  ·rw[U6 c];have:x.aC=[]:=U7 (by omega);refine .inr ⟨this,?_,rfl⟩;rintro e;simp[fq.aN,this,e]at s2
theorem NW {x:fq}(r:x.aE=true):jC (jo (x.aA++x.aD))/\∀m∈jo (x.aA++x.aD),1<=m/\m<=7:=by
 obtain⟨g0,g1,g2,g3,g4⟩:=mY.1 r;refine⟨S8 (List.nodup_append.2 ⟨g1.1.aA,g3.1.aA,λa ha b hb e=>(g4 b hb).1 (e▸ha)⟩),λm hm=>?_⟩;rcases VK.1 ((Iv _).mem_iff.1 hm) with h | h;·exact g1.2 m h
 ·exact g3.2 m h
theorem Pr {x:fq}{u:List Int}(h:(x.aJ u).2=true):x.aE=true/\zc x (x.aJ u).1:=by
 obtain⟨r,b,c⟩:=Pq h;obtain⟨g0,g1,g2,g3,g4⟩:=mY.1 r;refine⟨r,?_⟩;rcases c with⟨c1,c2⟩ | ⟨c1,c2,c3⟩;·rw[c2];refine⟨mY.2 ⟨c1,g2,⟨List.Pairwise.nil,by simp⟩,⟨List.Pairwise.nil,by simp⟩,by simp⟩,λe=>c1 (W_ fq.aC e).symm,x.aC,λm hm=>⟨qq.2 (.inr hm),qq.2 (.inl hm)⟩,λa ha=>UP ha c1,λb hb=>by have:=rW hb;exact this⟩
 ·rw[c3];refine⟨mY.2 ⟨g0,g1,NW r,⟨List.Pairwise.nil,by simp⟩,by simp⟩,λe=>?_,x.aA,λm hm=>⟨qq.2 (.inl hm),qq.2 (.inl hm)⟩,λa ha=>rW ha,λb hb=>by have:=rW hb;exact this⟩;have:=W_ (λy=>(fq.aD y).length) e;simp only[Ve]at this;exact c2 (U7 this.symm)
end Glb
