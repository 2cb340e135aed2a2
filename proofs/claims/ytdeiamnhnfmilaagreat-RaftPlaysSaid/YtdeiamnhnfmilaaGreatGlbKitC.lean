/-
  A library of its own.
-/
import Derived.Test.YtdeiamnhnfmilaaGreatGlbImgK
import Derived.Test.YtdeiamnhnfmilaaGreatGlbImgE
import Derived.Test.YtdeiamnhnfmilaaGreatGlbFitI
set_option linter.unusedSimpArgs false
set_option linter.unusedVariables false
set_option maxRecDepth 10000
set_option maxHeartbeats 16000000
namespace Glb
open Go
def fU.aM (x:fU):Prop:=iK x.aA.es/\x.aE.aF (2^40)/\x.aJ.length<=2^40
def Eo (P:Program)(f:FuncId):Prop:=
 fI P f=true/\∀(F F':Nat->Prop)(h:eZ)(x y:fU)(a b:List AV),fu F h x.c a->fu F' h y.c b->x.aM->fy P f [.aE a,.aE b] h λr h'=>r=.aD (decide (x=y))/\h'=h
def Ep (P:Program)(f:FuncId):Prop:=
 fI P f=true/\∀(F F':Nat->Prop)(h:eZ)(x y:List fU)(a b:AV),Rd F h (jQ x) a->Rd F' h (jQ y) b->x.length<=2^40->(∀e∈x,e.aM)->fy P f [a,b] h λr h'=>r=.aD (decide (x=y))/\h'=h
theorem fU.aO (x y:fU):decide (x=y)=(decide (x.aC=y.aC) && (decide (x.aI=y.aI) && (decide (x.aK=y.aK) && (decide (x.aL=y.aL) && (decide (x.aF=y.aF) && (decide (x.aA=y.aA) && (decide (x.aE=y.aE) && (decide (x.aJ=y.aJ) && decide (x.aB=y.aB))))))))):=by cases x;cases y;simp[Xo]
theorem RY (g:fJ->AV)(h:eZ)(n:Bool)(p q:fJ)(x y:na) (hp:g p=.aE [.aA .i64 x.aD,.aA .i64 x.aB,.aA .i64 x.aC,.aA .i64 x.aA,.aA .i64 x.aE]) (hq:g q=.aE [.aA .i64 y.aD,.aA .i64 y.aB,.aA .i64 y.aC,.aA .i64 y.aA,.aA .i64 y.aE]):
  gB g h (.x (.aB n [(0,true),(1,true),(2,true),(3,true),(4,true)] p q))=some (.aD (decide (x=y) != n)):=by
 rw[xD];simp only[j8,hp,hq,IU,Wi]
theorem JU {P : Program} {f g k b : FuncId} (hf : Is P f (zp g k b)) (hg : wz P g) (hk : wu P k) (hb : m_ P b .u8) : Eo P f := by
 refine ⟨hf.2, λF F' h x y a c hx hy hl => iF rfl (fN hf ?_)⟩;obtain ⟨e1, o1, n1, l1, s1, rfl, he1, ho1, hn1, hl1, hs1⟩ := xB (fu.aA (F' := λ_ => True) (λ_ _ => Vp) (gz.lt _ _) _ _ hx);obtain ⟨e2, o2, n2, l2, s2, rfl, he2, ho2, hn2, hl2, hs2⟩ := xB (fu.aA (F' := λ_ => True) (λ_ _ => Vp) (gz.lt _ _) _ _ hy);have hv := IU x.aB y.aB;simp only [zp, fU.aG, go_sem, he1.aA, ho1.aA, hn1.aA, hl1.aA, hs1.aA, he2.aA, ho2.aA, hn2.aA, hl2.aA, hs2.aA];repeat' (first
  | refine ph (λ_ => ?_) (λ_ => ?_)
  | (refine fq ⟨hg.1, hg.2 (λ_ => True) _ x.aA y.aA _ _ ((pS he1).up (eY.b2 _ _)) ((pS he2).up (eY.b2 _ _)) (by have := hl.1.1; omega) (λe he => by have := hl.1.2 e he; omega)⟩ ?_; rintro _ _ ⟨rfl, rfl⟩)
  | (refine fq ⟨hk.1, hk.2 (λ_ => True) (λ_ => True) _ x.aE y.aE _ _ ((nd ho1 hn1 hl1).up (eY.b2 _ _)) ((nd ho2 hn2 hl2).up (eY.b2 _ _)) hl.2.1⟩ ?_; rintro _ _ ⟨rfl, rfl⟩)
  | (refine fq ⟨hb.1, hb.2 (λ_ => True) _ x.aJ y.aJ _ _ (hs1.up (eY.b2 _ _)) (hs2.up (eY.b2 _ _)) hl.2.2⟩ ?_; rintro _ _ ⟨rfl, rfl⟩)
  | rw [RY _ _ _ _ _ x.aB y.aB rfl rfl]
  | simp only [go_sem, *])
 all_goals exact ⟨by simp [fU.aO, *], eY.b2 _ _⟩
theorem JV {P:Program}{f g:FuncId}(hf:Is P f (zq g))(hg:Eo P g):Ep P f:=by
 refine⟨hf.2,λF F' h x y a b hx hy hl hd=>fN hf ?_⟩;have lx:g_ a=some (.aA .i64 x.length):=by simpa using hx.aB
 have ly:g_ b=some (.aA .i64 y.length):=by simpa using hy.aB
 simp only[zq,go_sem,lx,ly];refine gx (λc=>?_) (λc=>?_);·simp only[go_sem];simp at c;simp;rintro rfl;exact c rfl
 ·simp only[go_sem];simp at c;have c':x.length=y.length:=by omega
  refine gJ (λm L h'=>∃i:Nat,lk 0 L=a/\lk 1 L=b/\lk 5 L=.aA .i64 i/\h'=h/\i<=x.length/\m=x.length-i/\∀j:Nat,j<i->x[j]?=y[j]?) x.length ?_ ?_;·exact⟨0,by simp[fi,ga],by simp[fi,ga],by simp[fi],rfl,by omega,by omega,by omega⟩
  ·rintro m L h' ⟨i,h0,h1,h5,rfl,hi,rfl,hj⟩;simp only[Fj,go_sem,lx,h0,h5];refine gx (λci=>?_) (λci=>?_)
   ·simp at ci;have iy:i<y.length:=by omega
    obtain⟨p,cs,hp,C,E⟩:=hx.aD .i64 (i:=i) (d:=x[i].c) (by omega) (by simp[ci]);obtain⟨q,cs',hq,u,t⟩:=hy.aD .i64 (i:=i) (d:=y[i].c) (by omega) (by simp[iy]);have e:IntKind.i64.wrap (↑i+1)=(i:Int)+1:=fQ (by omega);have l1:cs.length=17:=by rw[qp E];rfl
    have l2:cs'.length=17:=by rw[qp t];rfl
    have t1:cs.take 17=cs:=V5 (by omega);have t2:cs'.take 17=cs':=V5 (by omega);simp only[go_sem,h0,h1,h5,hp,hq,hP C,hP u,l1,l2,t1,t2];refine fR hg.1 (hg.2 F F' _ x[i] y[i] _ _ E t (hd _ (by simp))) ?_;simp only[go_sem,hP C,hP u,l1,l2,t1,t2,or_true];refine gx (λce=>?_) (λce=>?_);·simp only[go_sem];simp at ce;simp;rintro rfl;exact ce rfl
    ·simp only[go_sem,h0,h1,h5,e];simp at ce;refine⟨_,?_,i+1,by simp,ci,rfl,λj hj'=>?_⟩;·omega
     ·rcases Wc j i with hlt | hge;·exact hj j hlt
      ·obtain rfl:j=i:=by omega
       simp[ci,iy,ce]
   ·simp at ci;simp only[go_sem];obtain rfl:i=x.length:=by omega
    simp[Ct c' hj]
end Glb
