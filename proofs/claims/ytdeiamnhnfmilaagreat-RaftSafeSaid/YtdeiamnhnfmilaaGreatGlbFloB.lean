/-
  A library of its own.
-/
import Derived.Test.YtdeiamnhnfmilaaGreatGlbFlow
import Derived.Test.YtdeiamnhnfmilaaGreatGlbKitB
import Derived.Test.YtdeiamnhnfmilaaGreatGlbLogA
set_option linter.unusedSimpArgs false
set_option linter.unusedVariables false
set_option maxRecDepth 10000
set_option maxHeartbeats 4000000
namespace Glb
open Go
def wF (d:D)(a:AV):Prop:=∀(F:Nat->Prop)(h:eX),Rd F h d a
theorem Q3 (sz:Nat):wF (.sl sz []) .aD:=λ_ _=>Rd.aK sz
theorem Q2 (l:List Int):wF (gq l) (iS l):=λ_ _=>kS _ _ l
def Ji (P:Program)(f:FuncId):Prop:=fK P f=true/\∀(l p:List Int)(a b:AV),wF (gq l) a->wF (gq p) b->l.length<=2^41->p.length<=2^41->lT P f [a,b] (iS (l++gO p.length++p))
theorem r7.fp {P:Program}{f:FuncId}(hc:r7 P f):Ji P f:=⟨hc.1,λl p a b ha hb h1 h2=>HF (d:=gq _) λh=>(hc.2 eZ h l p _ _ (ha _ _) (hb _ _) h1 h2).aA λ_ _ hk=>⟨hk.1,hk.2.2⟩⟩
def vV (P:Program)(f:FuncId):Prop:=fK P f=true/\∀x:fq,x.aG (2^33)->lT P f [.aF x.v] (iS x.aF)
theorem vU.fp {P:Program}{f:FuncId}(hc:vU P f):vV P f:=⟨hc.1,λx hx=>HF (d:=gq _) λh=>(hc.2 eZ h x _ (vE _ _ x) hx.1 hx.2.1 hx.2.2).aA λ_ _ hk=>⟨hk.1,hk.2.2⟩⟩
def Ez (P:Program)(f:FuncId):Prop:=fK P f=true/\∀(l:fA)(i:Int),jL l->lT P f [.aF l.v,.aA .i64 i] (.aI [.aA .i64 (l.aH i),.aE (l.aF i)])
theorem nQ.p {P:Program}{f:FuncId}(hc:nQ P f):Ez P f:=⟨hc.1,λl i hl h=>hc.2 eZ h l _ i (Dd _ _ l) hl⟩
def fV.aI (w:fV)(id:Int)(x:fF)(commit round:Int):fJ:=
 if w.aC<=x.aA.aA then ⟨5,id,w.aE,x.aE,x.aC,x.aA.aA,x.aA.aD,0,round,0,0,0,0,0,false,[],gO x.aD.aF.length++x.aD.aF++gO x.aG.length++x.aG⟩
 else ⟨3,id,w.aE,x.aE,x.aC,w.aC-1,x.aA.aH (w.aC-1),commit,round,0,0,0,0,0,false,x.aA.aJ w.aC 8,[]⟩
def fF.aQ (x:fF):Prop:=jL x.aA/\x.aD.aG (2^33)/\x.aG.length<=2^33
def yC (P:Program)(f:FuncId):Prop:=
 fK P f=true/\∀(h:eX)(w:fV)(id:Int)(x:fF)(commit round:Int),w.aJ->x.aQ->
  fC P f [.aF w.aA,.aA .i64 id,.aF x.v,.aA .i64 commit,.aA .i64 round] h λr h'=>∃e d,r=.aF ((w.aI id x commit round).aD e d) /\
   eY (gK (w.aI id x commit round).es) (λk=>h.length<=k) h' e/\eY (gq (w.aI id x commit round).aF) (λk=>h.length<=k) h' d/\eW eZ h h'
theorem Hw {d : D} {lo : Nat} {H H' j : eX} {r : AV} (ho : eY d (λm => H.length <= m) (H ++ j) r) (hl : H'.length = H.length) (e : lo <= H.length) : eY d (λm => lo <= m) (H' ++ j) r :=
 eY.aC d (λm hm => Vh e hm) (λm hm x hx => by rw [Vp (by omega)] at hx ⊢; rw [hl]; exact hx) r ho
theorem zC (x:fq):x.aF.length=24+8*(x.aA.length+x.aC.length+x.aD.length):=by simp only[fq.aF,U1,js,lL];omega
theorem MP {P : Program} {f p b t s : FuncId} (hf : Is P f (zQ p b t s)) (hp : vV P p) (hb : r7 P b) (ht : Ez P t) (hs : nP P s) : yC P f := by
 refine ⟨hf.2, λh w id x commit round hw hx => fS hf ?_⟩;have e := hb.fp;have e1 := hp.2 x.aD hx.2.1;have e2 := ht.2 x.aA (w.aC - 1) hx.1;simp only [fA.aM, fq.aP] at e1 e2;have ew : IntKind.i64.wrap (w.aC - 1) = w.aC - 1 := gj (by obtain ⟨⟨_, h1, _⟩, _, h2, _⟩ := hw; omega);simp only [zQ, fF.aM, fV.aA, go_sem];by_cases c : w.aC <= x.aA.aA;·simp only [go_sem, U3 c];refine e1.aA hp.1 ?_;simp only [go_sem];refine (e.2 [] x.aD.aF .aD (iS x.aD.aF) (Q3 1) (Q2 _) (by simp) (by have := hx.2.1; rw [zC]; simp only [fq.aG] at this; omega)).aA hb.1 ?_;simp only [go_sem];refine fy ⟨hb.1, hb.2 eZ _ _ x.aG _ _ (kS _ _ _) (kS _ _ _) (by have := hx.2.1; simp only [U1, js, zC]; simp only [fq.aG] at this; simp; omega) (by have := hx.2.2; omega)⟩ ?_;rintro r h2 ⟨ro, _, rx⟩;obtain ⟨j, rfl⟩ := rx.aN;simp only [go_sem, ro.aA, gz ro.aA];have hm : w.aI id x commit round = ⟨5, id, w.aE, x.aE, x.aC, x.aA.aA, x.aA.aD, 0, round, 0, 0, 0, 0, 0, false, [], gO x.aD.aF.length ++ x.aD.aF ++ gO x.aG.length ++ x.aG⟩ := U4 c;rw [hm];exact ⟨.aD, r, rfl, eY.aD 3, Hw ro (by simp) (by simp), (eW.b3 _ _ _).tr (eW.aF _ _ _)⟩
 ·simp only [go_sem, U2 c];rw [ew];refine e2.aA ht.1 ?_;simp only [go_sem, ew];refine fy ⟨hs.1, hs.2 eZ _ x.aA _ _ _ (by simpa only [fA.aM] using Dd _ _ x.aA) hx.1⟩ ?_;rintro r h2 ⟨ro, _, rx⟩;obtain ⟨j, rfl⟩ := rx.aN;simp only [go_sem, ro.aA, gz ro.aA];have hm : w.aI id x commit round = ⟨3, id, w.aE, x.aE, x.aC, w.aC - 1, x.aA.aH (w.aC - 1), commit, round, 0, 0, 0, 0, 0, false, x.aA.aJ w.aC 8, []⟩ := U6 c;rw [hm];exact ⟨r, .aD, rfl, Hw ro (by simp) (by simp), eY.aD 1, (eW.b3 _ _ _).tr (eW.aF _ _ _)⟩
end Glb
