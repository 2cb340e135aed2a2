/-
  A library of its own.
-/
import Derived.Test.YtdeiamnhnfmilaaGreatGlbFlow
import Derived.Test.YtdeiamnhnfmilaaGreatGlbKitB
import Derived.Test.YtdeiamnhnfmilaaGreatGlbLogA
set_option linter.unusedSimpArgs false
set_option linter.unusedVariables false
set_option maxRecDepth 10000
set_option maxHeartbeats 4000000
namespace Glb
open Go
def wo (d:D)(a:AV):Prop:=∀(F:Nat->Prop)(h:eZ),Rd F h d a
theorem Rn (sz:Nat):wo (.sl sz []) .aB:=λ_ _=>Rd.aJ sz
theorem Rm (l:List Int):wo (fT l) (gV l):=λ_ _=>kO _ _ l
def Jr (P:Program)(f:FuncId):Prop:=fI P f=true/\∀(l p:List Int)(a b:AV),wo (fT l) a->wo (fT p) b->l.length<=2^41->p.length<=2^41->pz P f [a,b] (gV (l++ij p.length++p))
theorem qY.fp {P:Program}{f:FuncId}(hc:qY P f):Jr P f:=⟨hc.1,λl p a b ha hb h1 h2=>HR (d:=fT _) λh=>(hc.2 fj h l p _ _ (ha _ _) (hb _ _) h1 h2).aA λ_ _ hk=>⟨hk.1,hk.2.2⟩⟩
def DP (P:Program)(f:FuncId):Prop:=fI P f=true/\∀x:fG,x.aF (2^33)->pz P f [.aE x.v] (gV x.aK)
theorem tx.fp {P:Program}{f:FuncId}(hc:tx P f):DP P f:=⟨hc.1,λx hx=>HR (d:=fT _) λh=>(hc.2 fj h x _ (sR _ _ x) hx.1 hx.2.1 hx.2.2).aA λ_ _ hk=>⟨hk.1,hk.2.2⟩⟩
def EA (P:Program)(f:FuncId):Prop:=fI P f=true/\∀(l:fE)(i:Int),jl l->pz P f [.aE l.v,.aA .i64 i] (.aI [.aA .i64 (l.aG i),.aD (l.aD i)])
theorem jP.p {P:Program}{f:FuncId}(hc:jP P f):EA P f:=⟨hc.1,λl i hl h=>hc.2 fj h l _ i (Dg _ _ l) hl⟩
def fO.aG (w:fO)(id:Int)(x:fV)(commit round:Int):fB:=
 if w.aD<=x.aA.aA then ⟨5,id,w.aB,x.aD,x.aB,x.aA.aA,x.aA.aB,0,round,0,0,0,0,0,false,[],ij x.aC.aK.length++x.aC.aK++ij x.aF.length++x.aF⟩
 else ⟨3,id,w.aB,x.aD,x.aB,w.aD-1,x.aA.aG (w.aD-1),commit,round,0,0,0,0,0,false,x.aA.aE w.aD 8,[]⟩
def fV.aN (x:fV):Prop:=jl x.aA/\x.aC.aF (2^33)/\x.aF.length<=2^33
def ym (P:Program)(f:FuncId):Prop:=
 fI P f=true/\∀(h:eZ)(w:fO)(id:Int)(x:fV)(commit round:Int),w.aJ->x.aN->
  fy P f [.aE w.aA,.aA .i64 id,.aE x.v,.aA .i64 commit,.aA .i64 round] h λr h'=>∃e d,r=.aE ((w.aG id x commit round).aB e d) /\
   e_ (f_ (w.aG id x commit round).es) (λk=>h.length<=k) h' e/\e_ (fT (w.aG id x commit round).aE) (λk=>h.length<=k) h' d/\eY fj h h'
theorem xw {d : D} {lo : Nat} {H H' j : eZ} {r : AV} (ho : e_ d (λm => H.length <= m) (H ++ j) r) (hl : H'.length = H.length) (b : lo <= H.length) : e_ d (λm => lo <= m) (H' ++ j) r :=
 e_.aB d (λm hm=>Vr b hm) (λm hm x hx=>by rw[VQ (by omega)]at hx ⊢;rw[hl];exact hx) r ho
theorem tZ (x:fG):x.aK.length=24+8*(x.aA.length+x.aB.length+x.aC.length):=by simp only[fG.aK,Vj,jy,ny];omega
theorem ND {P:Program}{f p b t s:FuncId}(hf:Is P f (y8 p b t s))(hp:DP P p)(hb:qY P b)(ht:EA P t)(hs:kS P s):ym P f:=by
 refine⟨hf.2,λh w id x commit round hw hx=>fN hf ?_⟩;have u:=hb.fp;have e1:=hp.2 x.aC hx.2.1;have e2:=ht.2 x.aA (w.aD-1) hx.1;simp only[fE.aM,fG.aD]at e1 e2;have ew:IntKind.i64.wrap (w.aD-1)=w.aD-1:=fQ (by obtain⟨⟨_,h1,_⟩,_,h2,_⟩:=hw;omega);simp only[y8,fV.aM,fO.aA,go_sem];by_cases c:w.aD<=x.aA.aA;·simp only[go_sem,Vc c];refine e1.aA hp.1 ?_;simp only[go_sem];refine (u.2 [] x.aC.aK .aB (gV x.aC.aK) (Rn 1) (Rm _) (by simp) (by have:=hx.2.1;rw[tZ];simp only[fG.aF]at this;omega)).aA hb.1 ?_;simp only[go_sem];refine fq ⟨hb.1,hb.2 fj _ _ x.aF _ _ (kO _ _ _) (kO _ _ _) (by have:=hx.2.1;simp only[Vj,jy,tZ];simp only[fG.aF]at this;simp;omega) (by have:=hx.2.2;omega)⟩ ?_;rintro r h2 ⟨ro,_,rx⟩;obtain⟨j,rfl⟩:=rx.aL;simp only[go_sem,ro.aA,gH ro.aA];have hm:w.aG id x commit round=⟨5,id,w.aB,x.aD,x.aB,x.aA.aA,x.aA.aB,0,round,0,0,0,0,0,false,[],ij x.aC.aK.length++x.aC.aK++ij x.aF.length++x.aF⟩:=Vf c;rw[hm];exact⟨.aB,r,rfl,e_.aC 3,xw ro (by simp) (by simp),(eY.b3 _ _ _).tr (eY.aE _ _ _)⟩
 ·simp only[go_sem,Va c];rw[ew];refine e2.aA ht.1 ?_;simp only[go_sem,ew];refine fq ⟨hs.1,hs.2 fj _ x.aA _ _ _ (by simpa only[fE.aM] using Dg _ _ x.aA) hx.1⟩ ?_;rintro r h2 ⟨ro,_,rx⟩;obtain⟨j,rfl⟩:=rx.aL;simp only[go_sem,ro.aA,gH ro.aA];have hm:w.aG id x commit round=⟨3,id,w.aB,x.aD,x.aB,w.aD-1,x.aA.aG (w.aD-1),commit,round,0,0,0,0,0,false,x.aA.aE w.aD 8,[]⟩:=Ve c;rw[hm];exact⟨r,.aB,rfl,xw ro (by simp) (by simp),e_.aC 1,(eY.b3 _ _ _).tr (eY.aE _ _ _)⟩
end Glb
