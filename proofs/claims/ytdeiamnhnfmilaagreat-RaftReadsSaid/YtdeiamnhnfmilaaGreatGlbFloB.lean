/-
  A library of its own.
-/
import Derived.Test.YtdeiamnhnfmilaaGreatGlbFlow
import Derived.Test.YtdeiamnhnfmilaaGreatGlbKitB
import Derived.Test.YtdeiamnhnfmilaaGreatGlbLogA
set_option linter.unusedSimpArgs false
set_option linter.unusedVariables false
set_option maxRecDepth 10000
set_option maxHeartbeats 4000000
namespace Glb
open Go
def wo (d:D)(a:AV):Prop:=∀(F:Nat->Prop)(h:eW),Rd F h d a
theorem Qo (sz:Nat):wo (.sl sz []) .aD:=λ_ _=>Rd.aK sz
theorem Qi (l:List Int):wo (gj l) (i9 l):=λ_ _=>kZ _ _ l
def Iu (P:Program)(f:FuncId):Prop:=fP P f=true/\∀(l p:List Int)(a b:AV),wo (gj l) a->wo (gj p) b->l.length<=2^41->p.length<=2^41->nk P f [a,b] (i9 (l++gJ p.length++p))
theorem si.fp {P:Program}{f:FuncId}(hc:si P f):Iu P f:=⟨hc.1,λl p a b ha hb h1 h2=>GV (d:=gj _) λh=>(hc.2 eY h l p _ _ (ha _ _) (hb _ _) h1 h2).aA λ_ _ hk=>⟨hk.1,hk.2.2⟩⟩
def De (P:Program)(f:FuncId):Prop:=fP P f=true/\∀x:fq,x.aH (2^33)->nk P f [.aF x.v] (i9 x.aG)
theorem yj.fp {P:Program}{f:FuncId}(hc:yj P f):De P f:=⟨hc.1,λx hx=>GV (d:=gj _) λh=>(hc.2 eY h x _ (tO _ _ x) hx.1 hx.2.1 hx.2.2).aA λ_ _ hk=>⟨hk.1,hk.2.2⟩⟩
def DP (P:Program)(f:FuncId):Prop:=fP P f=true/\∀(l:fu)(i:Int),jH l->nk P f [.aF l.v,.aA .i64 i] (.aI [.aA .i64 (l.aJ i),.aE (l.aF i)])
theorem nU.p {P:Program}{f:FuncId}(hc:nU P f):DP P f:=⟨hc.1,λl i hl h=>hc.2 eY h l _ i (CD _ _ l) hl⟩
def fR.aI (w:fR)(id:Int)(x:fF)(commit round:Int):fE:=
 if w.aC<=x.aA.aA then ⟨5,id,w.aD,x.aE,x.aC,x.aA.aA,x.aA.aD,0,round,0,0,0,0,0,false,[],gJ x.aD.aG.length++x.aD.aG++gJ x.aG.length++x.aG⟩
 else ⟨3,id,w.aD,x.aE,x.aC,w.aC-1,x.aA.aJ (w.aC-1),commit,round,0,0,0,0,0,false,x.aA.aI w.aC 8,[]⟩
def fF.aP (x:fF):Prop:=jH x.aA/\x.aD.aH (2^33)/\x.aG.length<=2^33
def yq (P:Program)(f:FuncId):Prop:=
 fP P f=true/\∀(h:eW)(w:fR)(id:Int)(x:fF)(commit round:Int),w.aJ->x.aP->
  fC P f [.aF w.aA,.aA .i64 id,.aF x.v,.aA .i64 commit,.aA .i64 round] h λr h'=>∃e d,r=.aF ((w.aI id x commit round).aE e d) /\
   eX (gN (w.aI id x commit round).es) (λk=>h.length<=k) h' e/\eX (gj (w.aI id x commit round).aG) (λk=>h.length<=k) h' d/\eV eY h h'
theorem GM {d : D} {lo : Nat} {H H' j : eW} {r : AV} (ho : eX d (λm => H.length <= m) (H ++ j) r) (hl : H'.length = H.length) (e : lo <= H.length) : eX d (λm => lo <= m) (H' ++ j) r :=
 eX.aC d (λm hm => UH e hm) (λm hm x hx => by rw [U1 (by omega)] at hx ⊢; rw [hl]; exact hx) r ho
theorem ze (x:fq):x.aG.length=24+8*(x.aA.length+x.aC.length+x.aD.length):=by simp only[fq.aG,Ut,jr,lU];omega
theorem L_ {P : Program} {f p b t s : FuncId} (hf : Is P f (zm p b t s)) (hp : De P p) (hb : si P b) (ht : DP P t) (hs : nT P s) : yq P f := by
 refine ⟨hf.2, λh w id x commit round hw hx => fU hf ?_⟩;have e := hb.fp;have e1 := hp.2 x.aD hx.2.1;have e2 := ht.2 x.aA (w.aC - 1) hx.1;simp only [fu.aM, fq.aK] at e1 e2;have ew : IntKind.i64.wrap (w.aC - 1) = w.aC - 1 := gi (by obtain ⟨⟨_, h1, _⟩, _, h2, _⟩ := hw; omega);simp only [zm, fF.aL, fR.aA, go_sem];by_cases c : w.aC <= x.aA.aA;·simp only [go_sem, Uu c];refine e1.aA hp.1 ?_;simp only [go_sem];refine (e.2 [] x.aD.aG .aD (i9 x.aD.aG) (Qo 1) (Qi _) (by simp) (by have := hx.2.1; rw [ze]; simp only [fq.aH] at this; omega)).aA hb.1 ?_;simp only [go_sem];refine fA ⟨hb.1, hb.2 eY _ _ x.aG _ _ (kZ _ _ _) (kZ _ _ _) (by have := hx.2.1; simp only [Ut, jr, ze]; simp only [fq.aH] at this; simp; omega) (by have := hx.2.2; omega)⟩ ?_;rintro r h2 ⟨ro, _, rx⟩;obtain ⟨j, rfl⟩ := rx.aN;simp only [go_sem, ro.aA, gC ro.aA];have hm : w.aI id x commit round = ⟨5, id, w.aD, x.aE, x.aC, x.aA.aA, x.aA.aD, 0, round, 0, 0, 0, 0, 0, false, [], gJ x.aD.aG.length ++ x.aD.aG ++ gJ x.aG.length ++ x.aG⟩ := Uv c;rw [hm];exact ⟨.aD, r, rfl, eX.aD 3, GM ro (by simp) (by simp), (eV.b3 _ _ _).tr (eV.aF _ _ _)⟩
 ·simp only [go_sem, Us c];rw [ew];refine e2.aA ht.1 ?_;simp only [go_sem, ew];refine fA ⟨hs.1, hs.2 eY _ x.aA _ _ _ (by simpa only [fu.aM] using CD _ _ x.aA) hx.1⟩ ?_;rintro r h2 ⟨ro, _, rx⟩;obtain ⟨j, rfl⟩ := rx.aN;simp only [go_sem, ro.aA, gC ro.aA];have hm : w.aI id x commit round = ⟨3, id, w.aD, x.aE, x.aC, w.aC - 1, x.aA.aJ (w.aC - 1), commit, round, 0, 0, 0, 0, 0, false, x.aA.aI w.aC 8, []⟩ := Uw c;rw [hm];exact ⟨r, .aD, rfl, GM ro (by simp) (by simp), eX.aD 1, (eV.b3 _ _ _).tr (eV.aF _ _ _)⟩
end Glb
