/-
  A library of its own.
-/
import Derived.Test.YtdeiamnhnfmilaaGreatGlbImgC
set_option linter.unusedSimpArgs false
set_option linter.unusedVariables false
set_option maxRecDepth 10000
set_option maxHeartbeats 8000000
namespace Glb
open Go
theorem Nh {P:Program}{f g:FuncId}(hf:Is P f (wT g))(hg:Is P g pK){F:Nat->Prop}{h:eZ}{s q:Nat}{st:fZ}(hs:rM F h s q st):
  fy P f [.aC s 2 0 0] h λr h'=>r=.aA .i64 st.aB/\h'=h:=by
 refine fN hf ?_;obtain⟨b,st',hs,rfl⟩:=hs;have B:=hs.1;simp only[wT,go_sem,B];cases b with
 | true=>simp only[go_sem];exact rfl
 | false=>simp only[go_sem,B];refine fR hg.2 (HM hg hs.2.1) ?_;simp only[go_sem];exact rfl
def gZ (l:List Int):fG×Int:=
 if (iI.aA (some l)).2.aB≠0 then (⟨[],[],[]⟩,(iI.aA (some l)).2.aB) else if (iI.aA (some l)).1.aI=true then ((iI.aA (some l)).1,0) else (⟨[],[],[]⟩,29)
theorem rM.up {F:Nat->Prop}{h h':eZ}{s q:Nat}{st:fZ}(hs:rM F h s q st)(e:eY fj h h'):rM F h' s q st:=by obtain⟨b',s',S',e'⟩:=hs;exact⟨b',s',S'.up e,e'⟩
theorem TA {F:Nat->Prop}{h:eZ}{q:Nat}{st:fZ}(hr:iC F h q st)(hF:∀m,F m->m<q):kI F (h++[some (.aA 2 [[.aC q 2 0 0,.aD false]] false)]) h.length q false st:=
 ⟨gh _ _,hr.up (eY.b1 _),hF,hr.lt⟩
theorem fZ.aC {st:fZ}(h:st.aB=0):st=some []:=by
 cases st with
 | none=>cases h
 | some l=>cases l with
  | nil=>rfl
  | cons a l=>simp[fZ.aB]at h
def tF (P:Program)(f:FuncId):Prop:=fI P f=true/\∀(G:Nat->Prop)(h:eZ)(l:List Int)(b:AV),Rd G h (fT l) b->gK l->l.length<=2^37->
 fy P f [b] h λr h'=>∃az,r=.aI [.aE az,.aA .i64 (gZ l).2]/\fW (gZ l).1.c (λm=>h.length<=m) h' az/\eY fj h h'
theorem GD {l r:List Int}{x:fG}(hb:gK l)(h:iI.aA (some l)=(x,some r)):8*x.aA.length<=l.length/\8*x.aB.length<=l.length/\8*x.aC.length<=l.length/\l=iI.aB x++r/\iI.ok x:=by obtain⟨e,ok⟩:=iI.aD l x r hb h;have h1:=ny x.aA;have h2:=ny x.aB;have h3:=ny x.aC;have e2:=Xq List.length e;rw[LV]at e2;simp only[fG.aK,Vj]at e2;exact⟨by omega,by omega,by omega,e,ok⟩
theorem Jz {P:Program}{f rd co en e0 ck:FuncId}(hf:Is P f (A7 rd co en ck))(hr:wm P rd)(hc:rD P co fG.c iI.aA)(he:Is P en (wT e0))(W:Is P e0 pK)(hk:p9 P ck):tF P f:=by
 refine⟨hf.2,λG h l b hb u hlen=>fN hf ?_⟩;simp only[A7,go_sem];have A0:=gh h (some (.aA 3 [[.aB,.aB,.aB]] false));have X0:eY fj h (h++[some (.aA 3 [[.aB,.aB,.aB]] false)]):=eY.b1 _;have l0:h.length+1=(h++[some (fh.aA 3 [[.aB,.aB,.aB]] false)]).length:=by simp
 have hb:=hb.up X0;generalize h++[some (fh.aA 3 [[.aB,.aB,.aB]] false)]=H0 at *;refine fq ⟨hr.1,hr.2 G H0 l b hb u (by omega)⟩ ?_;rintro _ h1 ⟨q,rfl,hq,r1,x1⟩;simp only[go_sem];have S1:=TA r1 (λm hm=>hm.2);have lq:=r1.lt;have X1:eY fj H0 (h1++[some (.aA 2 [[.aC q 2 0 0,.aD false]] false)]):=x1.tr (eY.b1 _);have lb:h1.length<(h1++[some (fh.aA 2 [[.aC q 2 0 0,.aD false]] false)]).length:=by simp
 generalize h1++[some (fh.aA 2 [[.aC q 2 0 0,.aD false]] false)]=H1 at *;refine fq ⟨hc.1,hc.2 _ H1 h1.length q _ ⟨false,_,S1,rfl⟩⟩ ?_;rintro _ H2 ⟨y,az,rfl,hO,S2,X2,hy⟩;obtain⟨o,n,e,rfl,M,I,E⟩:=Qt hO;have lx:=x1.1;have l2:=X2.1;have A2:H2[h.length]?=_:=((X1.aB X2 (F'':=xN h1.length q) (λ_ _ x=>x.elim) (λ_ _ x=>x)).2 _ (by omega) (by simp only[xN];omega)).trans A0;have XX:eY fj h (H2++[some (.aA 3 [[o,n,e]] false)]):=((((X0.aB X1 (λ_ _ x=>x) (λ_ _ x=>x)).aB X2 (F'':=fj) (λ_ _ x=>x) (λm hm U=>by simp only[xN]at U;omega)))).tr (eY.b1 _);simp only[go_sem,M.aA,I.aA,E.aA];have S3:=S2.up (eY.b1 (some (.aA 3 [[o,n,e]] false)));have A3:=gh H2 (some (.aA 3 [[o,n,e]] false));have A4:(H2++[some (.aA 3 [[o,n,e]] false)])[h.length]?=_:=(HG (by omega) _).trans A2;have l3:H2.length+1=(H2++[some (fh.aA 3 [[o,n,e]] false)]).length:=by simp
 have C:fW y.c (λm=>h.length<=m/\m≠h.length) (H2++[some (.aA 3 [[o,n,e]] false)]) [o,n,e]:=fW.aA _ (λm hm=>by omega) ((eY.b1 _).aF _) _ hO;generalize H2++[some (fh.aA 3 [[o,n,e]] false)]=H3 at *;have ef:fZ.aD false (some l)=some l:=rfl;rw[ef]at hy S3;simp only[gZ];have few:iI.aA (some l)=((iI.aA (some l)).1,some [])->(iI.aA (some l)).1.aF (2^38):=λhh=>by obtain⟨n1,n2,n3,-⟩:=GD u hh;exact⟨by omega,by omega,by omega⟩
 generalize iI.aA (some l)=R at *;refine fR he.2 (Nh he W S3) ?_;have l4:h.length<H3.length:=by omega
 have fin:∀(d w z:AV)(x:fG),fW x.c (λm=>h.length<=m/\m≠h.length) H3 [d,w,z]->fW x.c (λm=>h.length<=m) (H3.set h.length (some (.aA 3 [[d,w,z]] false))) [d,w,z]/\eY fj h (H3.set h.length (some (.aA 3 [[d,w,z]] false))):=by intro d w z x o1;exact⟨fW.aA _ (λm hm=>hm.1) (λm hm y hy=>by rw[Vb (by omega)];exact hy) _ o1,XX.aK (by omega) _⟩
 have t:=fin .aB .aB .aB ⟨[],[],[]⟩ ⟨_,_,rfl,e_.aC _,_,_,rfl,e_.aC _,_,_,rfl,e_.aC _,rfl⟩;simp only[go_sem];by_cases c:R.2.aB=0
 ·have es:=fZ.aC c;have ey:=hy (by rw[es];simp);subst ey;have fw:=few (by rw[<-es]);have R3:fu (λ_=>True) H3 R.1.c [o,n,e]:=fW.rd _ (λ_ _=>Vp) _ C;have c':¬R.2.aB≠0:=by simpa using c
  rw[Ve c'];simp only[go_sem,c,A3];refine fR hk.1 (hk.2 _ H3 R.1 _ R3 fw) ?_;cases cr:R.1.aI with
  | true=>simp only[go_sem,A3,A4,l4,M.aA,I.aA,E.aA];exact⟨_,rfl,fin o n e _ C⟩
  | false=>have O:decide ((29:Int)=0)=false:=rfl;simp only[go_sem,O,A4,l4];exact⟨_,rfl,t⟩
 ·have c':R.2.aB≠0:=c;rw[Vf c'];simp only[go_sem,Va c,A4,l4];exact⟨_,rfl,t⟩
end Glb
