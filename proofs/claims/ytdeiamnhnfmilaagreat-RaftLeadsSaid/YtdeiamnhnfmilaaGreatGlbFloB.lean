/-
  A library of its own.
-/
import Derived.Test.YtdeiamnhnfmilaaGreatGlbFlow
import Derived.Test.YtdeiamnhnfmilaaGreatGlbKitB
import Derived.Test.YtdeiamnhnfmilaaGreatGlbLogA
set_option linter.unusedSimpArgs false
set_option linter.unusedVariables false
set_option maxRecDepth 10000
set_option maxHeartbeats 4000000
namespace Glb
open Go
variable {P:Program}{f:FuncId}
variable {P:Program}{f:FuncId}
def xX (d:D)(a:AV):Prop:=∀(F:Nat->Prop)(h:fu),Rd F h d a
theorem Ta (sz:Nat):xX (.sl sz []) .aC:=λ_ _=>Rd.aK sz
theorem S_ (l:List Int):xX (gG l) (jx l):=λ_ _=>l_ _ _ l
def KE (P:Program)(f:FuncId):Prop:=fZ P f=true/\∀(l p:List Int)(a b:AV),xX (gG l) a->xX (gG p) b->l.length<=2^41->p.length<=2^41->oO P f [a,b] (jx (l++gW p.length++p))
theorem tS.fp (hc:tS P f):KE P f:=⟨hc.1,λl p a b ha hb h1 h2=>Je (d:=gG _) λh=>(hc.2 fB h l p _ _ (ha _ _) (hb _ _) h1 h2).aA λ_ _ hk=>⟨hk.1,hk.2.2⟩⟩
def Fm (P:Program)(f:FuncId):Prop:=fZ P f=true/\∀x:fI,x.aH (2^33)->oO P f [.aF x.v] (jx x.aG)
theorem Ae.fp (hc:Ae P f):Fm P f:=⟨hc.1,λx hx=>Je (d:=gG _) λh=>(hc.2 fB h x _ (w9 _ _ x) hx.1 hx.2.1 hx.2.2).aA λ_ _ hk=>⟨hk.1,hk.2.2⟩⟩
def FX (P:Program)(f:FuncId):Prop:=fZ P f=true/\∀(l:fG)(i:Int),kh l->oO P f [.aF l.v,.aD .i64 i] (.aI [.aD .i64 (l.aJ i),.aE (l.aF i)])
theorem pO.p (hc:pO P f):FX P f:=⟨hc.1,λl i hl h=>hc.2 fB h l _ i (EC _ _ l) hl⟩
def fS.aH (w:fS)(id:Int)(x:fP)(commit round:Int):fF:=
 if w.aD<=x.aA.aA then ⟨5,id,w.aA,x.aE,x.aC,x.aA.aA,x.aA.aD,0,round,0,0,0,0,0,false,[],gW x.aD.aG.length++x.aD.aG++gW x.aG.length++x.aG⟩
 else ⟨3,id,w.aA,x.aE,x.aC,w.aD-1,x.aA.aJ (w.aD-1),commit,round,0,0,0,0,0,false,x.aA.aH w.aD 8,[]⟩
def fP.aP (x:fP):Prop:=kh x.aA/\x.aD.aH (2^33)/\x.aG.length<=2^33
def Ai (P:Program)(f:FuncId):Prop:=
 fZ P f=true/\∀(h:fu)(w:fS)(id:Int)(x:fP)(commit round:Int),w.aJ->x.aP->
  fO P f [.aF w.aF,.aD .i64 id,.aF x.v,.aD .i64 commit,.aD .i64 round] h λr h'=>∃e d,r=.aF ((w.aH id x commit round).aF e d) /\
   fA (gZ (w.aH id x commit round).es) (λk=>h.length<=k) h' e/\fA (gG (w.aH id x commit round).aG) (λk=>h.length<=k) h' d/\fq fB h h'
theorem I6 {d : D} {lo : Nat} {H H' j : fu} {r : AV} (ho : fA d (λm => H.length <= m) (H ++ j) r) (hl : H'.length = H.length) (e : lo <= H.length) : fA d (λm => lo <= m) (H' ++ j) r :=
 fA.aC d (λm hm=>Xg e hm) (λm hm x hx=>by rw[XA ω]at hx ⊢;rw[hl];exact hx) r ho
theorem AZ (x:fI):x.aG.length=24+8*(x.aA.length+x.aC.length+x.aD.length):=by simp only[fI.aG,WT,jO,mK];omega
theorem OD {p b t s:FuncId}(hf:Is P f (Bb p b t s))(hp:Fm P p)(hb:tS P b)(ht:FX P t)(hs:oT P s):Ai P f:=by
 refine⟨hf.2,λh w id x commit round hw hx=>gy hf ?_⟩;have e:=hb.fp;have e1:=hp.2 x.aD hx.2.1;have e2:=ht.2 x.aA (w.aD-1) hx.1;simp only[fG.aN,fI.aN]at e1 e2;have ew:IntKind.i64.wrap (w.aD-1)=w.aD-1:=gF (by obtain⟨⟨_,h1,_⟩,_,h2,_⟩:=hw;omega);simp only[Bb,fP.aL,fS.aF,go_sem];by_cases c:w.aD<=x.aA.aA;·simp only[go_sem,WZ c];refine e1.aA hp.1 ?_;simp only[go_sem];refine (e.2 [] x.aD.aG .aC (jx x.aD.aG) (Ta 1) (S_ _) ς (by have:=hx.2.1;rw[AZ];simp only[fI.aH]at this;omega)).aA hb.1 ?_;simp only[go_sem];refine fK ⟨hb.1,hb.2 fB _ _ x.aG _ _ (l_ _ _ _) (l_ _ _ _) (by have:=hx.2.1;simp only[WT,jO,AZ];simp only[fI.aH]at this;simp;omega) (by have:=hx.2.2;omega)⟩ ?_;rintro r h2 ⟨ro,_,rx⟩;obtain⟨j,rfl⟩:=rx.aN;simp only[go_sem,ro.aA,gV ro.aA];have hm:w.aH id x commit round=⟨5,id,w.aA,x.aE,x.aC,x.aA.aA,x.aA.aD,0,round,0,0,0,0,0,false,[],gW x.aD.aG.length++x.aD.aG++gW x.aG.length++x.aG⟩:=WW c;rw[hm];exact⟨.aC,r,rfl,fA.aD 3,I6 ro ς ς,(fq.b3 _ _ _).tr (fq.aF _ _ _)⟩
 ·simp only[go_sem,WV c];rw[ew];refine e2.aA ht.1 ?_;simp only[go_sem,ew];refine fK ⟨hs.1,hs.2 fB _ x.aA _ _ _ (by simpa only[fG.aN] using EC _ _ x.aA) hx.1⟩ ?_;rintro r h2 ⟨ro,_,rx⟩;obtain⟨j,rfl⟩:=rx.aN;simp only[go_sem,ro.aA,gV ro.aA];have hm:w.aH id x commit round=⟨3,id,w.aA,x.aE,x.aC,w.aD-1,x.aA.aJ (w.aD-1),commit,round,0,0,0,0,0,false,x.aA.aH w.aD 8,[]⟩:=WY c;rw[hm];exact⟨r,.aC,rfl,I6 ro ς ς,fA.aD 1,(fq.b3 _ _ _).tr (fq.aF _ _ _)⟩
end Glb
