/-
  A library of its own.
-/
import Derived.Test.YtdeiamnhnfmilaaGreatGlbQuoB
import Derived.Test.YtdeiamnhnfmilaaGreatGlbMorA
set_option linter.unusedSimpArgs false
set_option linter.unusedVariables false
set_option maxRecDepth 10000
set_option maxHeartbeats 8000000
namespace Glb
open Go
theorem fO.bA {G : Gh} {w w' : World} {h : eW} (g : fO G w h) (hr : jU w w') (same : ∀ b, b < w.heap.size -> w'.heap[b]? = w.heap[b]?) : fO G w' h /\ gy G w G w' := by
  have e := hr.2.2.1
  have sh : ∀ b, (w.shape? b).isSome -> w'.shape? b = w.shape? b := λb hb => by
    have hlt : b < w.heap.size := by
      apply UC; intro hn
      simp only [World.shape?, Array.getElem?_eq_none (Nat.le_of_not_lt hn)] at hb
      exact absurd hb (by simp)
    simp only [World.shape?, same b hlt]
  have k : ib G w G w' := ⟨Uy _, λ_ _ _ h => h, λ_ _ h => h, λ_ _ h => h, λt b hp => same b (g.aQ hp), sh⟩
  exact ⟨{ aA := g.aA, aD := g.aD, aE := g.aE, inj := g.inj, aF := g.aF, aG := g.aG, aL := g.aL, aM := g.aM,
           aH := λn b hb => UM (g.aH n b hb) e, aJ := λb hb => UM (g.aJ b hb) e,
           aC := λn sz es gr b hn hb => (g.aC n sz es gr b hn hb).aA k (same b (g.aO (g.aN hn hb) hb)), aI := g.aI, aK := g.aK },
    k, ⟨λ_ h => h, λ_ h => .inl h⟩, λ_ _ => rfl, λ_ _ => VW, e, λb hb _ => same b hb, λb hb => .inl hb, hr⟩
structure vN (P:Program)(f:FuncId):Prop where
 aA:∀(a:Addr)(c:Nat)(w:World),Calls P f #[.slice (some a) 0 c] w λe w'=>∃a' c',e=.returned (.slice (some a') 0 c')/\a'.spot=none/\jU w w'/\∀k,k<w.heap.size->w'.heap[k]?=w.heap[k]?
def vO (P:Program)(f:FuncId):Prop:=
 fP P f=true/\∀(F:Nat->Prop)(h:eW)(l:List Int)(a:AV),Rd F h (fM l) a->l.length<=2^40->fC P f [a] h λr h'=>eX (fM l) (λm=>h.length<=m) h' r/\(l≠[]->gP h' r)/\eV eY h h'
def pC (b:Bool)(x:AV):Option AV:=if qI x then (kE x).map λc=>.aE (c != b) else none
theorem xF (g:fB->AV)(h:eW)(b:Bool)(x:fB):gx g h (.aG b x)=pC b (g x):=UE rfl rfl
theorem GF {G w}{a:AV}{vs:Array Value} (hv:VL G w [a] vs):∃v,vs=#[v]/\V G w a v:=by
 have:=hv.1;match vs with
 | ⟨[v]⟩=>exact⟨v,rfl,hv.2 0 a v rfl rfl⟩
 | ⟨[]⟩=>simp at this
 | ⟨_ :: _ :: _⟩=>simp at this
theorem GG {G w}{a:AV}{v:Value}(hv:V G w a v):VL G w [a] #[v]:=⟨rfl,λj c v' hc e=>by
 cases j with
 | zero=>simp at hc e;subst hc;subst e;exact hv
 | succ j=>simp at hc⟩
theorem Ih {P:Program}{f:FuncId}(hf:Is P f qm)(hk:vN P f):vO P f:=by
 refine⟨hf.2,λF h l a ha hl=>?_⟩;by_cases h0:l=[]
 ·subst h0;intro G w vs g hv;obtain⟨v,rfl,hV⟩:=GF hv;have hz:v=.slice none 0 0\/∃p c,v=.slice (some p) 0 c:=by
   simp only[fM,Vl,Rd,fY]at ha;obtain⟨es,he,rfl⟩:=ha;rcases he with⟨rfl,_⟩ | ⟨t,c,rfl⟩ | ⟨n,off,len,cap,row,gr,rfl,_,hrow,hle,hcl,hes⟩
   ·cases hV;exact .inl rfl
   ·generalize hee:([]:List (List AV))=es at hV;cases hV with
    | aG=>exact .inl rfl
    | aE=>subst hee;exact .inr ⟨_,_,rfl⟩
   ·have h1:len=0:=by have:=WQ List.length hes;simp at this;omega
    subst h1;cases hV with
    | aH=>exact .inl rfl
    | aD=>exact .inr ⟨_,_,rfl⟩
  rcases hz with rfl | ⟨p,c,rfl⟩
  ·have:fC P f [.aD] h λr h'=>eX (fM []) (λm=>h.length<=m) h' r/\(([]:List Int)≠[]->gP h' r)/\eV eY h h':=by refine tj hf.1 (Vx rfl) ?_;show vc P qm.aA ⟨[(0,.aD)],[],h⟩ (i_ qm.aC _);have an:pC false .aD=some (.aE true):=rfl;simp only[qm,go_sem,xF,an];exact⟨eX.aD 1,λh=>absurd rfl h,eV.aC _ _⟩
   exact this G w _ g (GG .aO)
  ·refine (hk.aA p c w).mono ?_;rintro e w' ⟨a',c',rfl,hsp,hr,hs⟩;obtain⟨g',s'⟩:=g.bA hr hs;refine⟨_,.aM 0 false 1 [],h,G,rfl,⟨?_,λh=>absurd rfl h,eV.aC _ _⟩,g',?_,s'⟩;·simp only[fM,Vl,eX];exact .inr (.inl ⟨0,false,rfl,UF⟩)
   ·exact V.aE (G:=G) (w:=w') 0 false 1 [] a' c' (λ_ _=>undef) (UK _) (λe=>by cases e) (λ_=>hsp) (λhne=>absurd rfl hne) (λe he=>by simp at he) (λi j c hj=>by simp[gn]at hj) (λi j c hj=>by simp[gn]at hj)
 ·refine tj hf.1 (Vx rfl) ?_;show vc P qm.aA ⟨[(0,a)],[],h⟩ (i_ qm.aC _);have an:pC false a=some (.aE false):=by
   have hpos:0<l.length:=WG.2 h0;have hl':=ha.aF;simp only[fM,Rd]at ha;obtain⟨es,he,hes⟩:=ha;have hlen:=lF hes;rw[UI]at hlen;rcases he with⟨rfl,rfl⟩ | ⟨t,c,rfl⟩ | ⟨n,off,len,cap,row,gr,rfl,_,hrow,hle,hcl,rfl⟩;·simp at hlen;omega
   ·simp only[pC,qI,kE,Vm];rw[Uv (by omega)];rfl
   ·simp only[UD,UP]at hlen;simp only[pC,qI,kE,Vm];rw[Uv (by omega)];rfl
  obtain⟨ys,hys,hyr⟩:=(ha.up (eV.b1 (some (.aA 1 [] false)))).aH;obtain⟨o,h',hap,ho',hc',he'⟩:=m7 (lo:=h.length) (sz:=1) (bytes:=8) (ds:=[]) (h0:=h++[some (.aA 1 [] false)]) (h:=h++[some (.aA 1 [] false)]) (av:=.aG h.length 1 0 0 (some 0))
   (by simp only[eX];exact .inr (.inr ⟨_,0,some 0,[],false,rfl,Uy _,gH _ _,by simp,(λc hc=>by cases hc;simp),by simp[fG]⟩))
   ⟨[],false,gH _ _,(λh=>by cases h),λc hc=>by cases hc;simp⟩ (eV.aC eY _) (vk hyr) (by simp) (by simp;omega)
  have ha2:=iq hys 8 (.aG h.length 1 0 0 (some 0));rw[hap]at ha2;simp only[qm,go_sem,xF,an,ha2];exact⟨by simpa [fM] using ho',λ_=>hc',(eV.b1 _).aJ he' (λm hm hm'=>by omega)⟩
def fq.aR (x:fq):Bool:=decide (0<x.aC.length+x.aD.length)
def fq.aP (x:fq)(n:Int):Int:=if x.aE=false then 29 else if n<1\/7<n then 28 else if x.aR=true then 11 else 0
def fq.no:fq:=⟨[],[],[]⟩
def fq.aS (x:fq)(n:Int):fq×Int:=if x.aP n≠0 then (.no,x.aP n) else if n∈x.aA then (.no,7) else (⟨x.aA,[],[n]⟩,0)
def fq.aT (x:fq)(n:Int):fq×Int:=if x.aP n≠0 then (.no,x.aP n) else if n∉x.aA then (.no,6) else if x.aA.length=1 then (.no,29) else (⟨x.aA,x.aA.filter (λm=>!decide (m=n)),[]⟩,0)
def fq.aV (x:fq)(far:List Int):Bool:=!x.aE || !x.aR || (decide (x.aC.length=0) && x.aD.any λn=>!decide (n∈far))
def fq.aU (x:fq)(far:List Int):fq×Bool:=if x.aV far=true then (x,false) else if 0<x.aC.length then (⟨x.aC,[],[]⟩,true) else (⟨x.aA,kv (x.aA++x.aD),[]⟩,true)
theorem Cp {F:Nat->Prop}{h:eW}{x:fq}{o n e:AV}(ho:eX (fM x.aA) F h o)(hn:eX (fM x.aC) F h n)(he:eX (fM x.aD) F h e):fI x.c F h [o,n,e]:=by simp only[fq.c,fI];exact⟨_,_,rfl,ho,_,_,rfl,hn,_,_,rfl,he,rfl⟩
theorem nK {d:D}{lo n:Nat}{h:eW}{a:AV}(ho:eX d (λm=>lo<=m) h a)(hn:n<lo)(x:Option e_){k:Nat}(hk:k<=lo):eX d (λm=>k<=m) (h.set n x) a:=
 eX.aC _ (λm hm=>by omega) (λm hm y hy=>by rw[Uq (by omega)];exact hy) _ ho
theorem qE:∀{l:List Int}{p:Option Int},kI p l=true->jV l/\(∀y,p=some y->∀m∈l,y<m)/\∀m∈l,1<=m/\m<=7
 | [],_,_=>⟨List.Pairwise.nil,by simp,by simp⟩
 | x :: r,p,h=>by
  simp only[kI,US,Bool.not_eq_true',V3,VD]at h;obtain⟨⟨⟨h1,h2⟩,h3⟩,h4⟩:=h;obtain⟨g1,g2,g3⟩:=qE h4;refine⟨Wb.2 ⟨g2 x rfl,g1⟩,λy hy m hm=>?_,λm hm=>?_⟩
  ·subst hy;simp only[VD]at h3;rcases Vg.1 hm with rfl | hm;·omega
   ·have:=g2 x rfl m hm;omega
  ·rcases Vg.1 hm with rfl | hm;·omega
   ·exact g3 m hm
theorem Q0 {x:fq}(h:x.aE=true):x.aA.length≠0/\jV x.aA/\jV x.aC/\jV x.aD/\(∀m∈x.aA,1<=m/\m<=7)/\(∀m∈x.aC,1<=m/\m<=7)/\(∀m∈x.aD,1<=m/\m<=7)/\(∀m∈x.aD,m∉x.aA/\m∉x.aC):=by
 simp only[fq.aQ,Bool.not_eq_true',V3,VD,Bool.not_eq_false']at h;obtain⟨⟨⟨⟨h0,h1⟩,h2⟩,h3⟩,h4⟩:=h;refine⟨h0,(qE h1).1,(qE h2).1,(qE h3).1,(qE h1).2.2,(qE h2).2.2,(qE h3).2.2,λm hm=>?_⟩;have:x.aJ m=false:=by
  cases hv:x.aJ m;·rfl
  ·have:x.aD.any x.aJ=true:=WH.2 ⟨m,hm,hv⟩;rw[h4]at this;cases this
 simp only[fq.aJ,V3,VD]at this;exact this
end Glb
