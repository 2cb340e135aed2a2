/-
  A library of its own.
-/
import Derived.Test.YtdeiamnhnfmilaaGreatGlbQuoB
import Derived.Test.YtdeiamnhnfmilaaGreatGlbMorA
set_option linter.unusedSimpArgs false
set_option linter.unusedVariables false
set_option maxRecDepth 10000
set_option maxHeartbeats 8000000
namespace Glb
open Go
theorem fS.aZ {G : Gh} {w w' : World} {h : eZ} (g : fS G w h) (hr : jB w w') (same : ∀ b, b < w.heap.size -> w'.heap[b]? = w.heap[b]?) : fS G w' h /\ gE G w G w' := by
  have u := hr.2.2.1
  have sh : ∀ b, (w.shape? b).isSome -> w'.shape? b = w.shape? b := λb hb => by
    have hlt : b < w.heap.size := by
      apply Vm; intro hn
      simp only [World.shape?, Array.getElem?_eq_none (Nat.le_of_not_lt hn)] at hb
      exact absurd hb (by simp)
    simp only [World.shape?, same b hlt]
  have k : gU G w G w' := ⟨Vg _, λ_ _ _ h => h, λ_ _ h => h, λ_ _ h => h, λt b hp => same b (g.aQ hp), sh⟩
  exact ⟨{ aA := g.aA, aC := g.aC, aD := g.aD, inj := g.inj, aE := g.aE, aF := g.aF, aL := g.aL, aM := g.aM,
           aG := λn b hb => Vy (g.aG n b hb) u, aJ := λb hb => Vy (g.aJ b hb) u,
           aB := λn sz es gr b hn hb => (g.aB n sz es gr b hn hb).aA k (same b (g.aO (g.aN hn hb) hb)), aI := g.aI, aK := g.aK },
    k, ⟨λ_ h => h, λ_ h => .inl h⟩, λ_ _ => rfl, λ_ _ => Wu, u, λb hb _ => same b hb, λb hb => .inl hb, hr⟩
structure qZ (P:Program)(f:FuncId):Prop where
 aA:∀(a:Addr)(c:Nat)(w:World),Calls P f #[.slice (some a) 0 c] w λe w'=>∃a' c',e=.returned (.slice (some a') 0 c')/\a'.spot=none/\jB w w'/\∀k,k<w.heap.size->w'.heap[k]?=w.heap[k]?
def vk (P:Program)(f:FuncId):Prop:=
 fI P f=true/\∀(F:Nat->Prop)(h:eZ)(l:List Int)(a:AV),Rd F h (fK l) a->l.length<=2^40->fy P f [a] h λr h'=>e_ (fK l) (λm=>h.length<=m) h' r/\(l≠[]->gq h' r)/\eY fj h h'
def mj (b:Bool)(x:AV):Option AV:=if n_ x then (jC x).map λc=>.aD (c != b) else none
theorem s_ (g:fJ->AV)(h:eZ)(b:Bool)(x:fJ):gB g h (.aK b x)=mj b (g x):=Vn rfl rfl
theorem CW {G w}{a:AV}{vs:Array Value} (hv:VL G w [a] vs):∃v,vs=#[v]/\V G w a v:=by
 have:=hv.1;match vs with
 | ⟨[v]⟩=>exact⟨v,rfl,hv.2 0 a v rfl rfl⟩
 | ⟨[]⟩=>simp at this
 | ⟨_ :: _ :: _⟩=>simp at this
theorem CX {G w}{a:AV}{v:Value}(hv:V G w a v):VL G w [a] #[v]:=⟨rfl,λj c v' hc b=>by
 cases j with
 | zero=>simp at hc b;subst hc;subst b;exact hv
 | succ j=>simp at hc⟩
theorem Ja {P:Program}{f:FuncId}(hf:Is P f pL)(hk:qZ P f):vk P f:=by
 refine⟨hf.2,λF h l a ha hl=>?_⟩;by_cases h0:l=[]
 ·subst h0;intro G w vs g hv;obtain⟨v,rfl,hV⟩:=CW hv;have hz:v=.slice none 0 0\/∃p c,v=.slice (some p) 0 c:=by
   simp only[fK,Wg,Rd,gC]at ha;obtain⟨es,he,rfl⟩:=ha;rcases he with⟨rfl,_⟩ | ⟨t,c,rfl⟩ | ⟨n,off,len,cap,row,gr,rfl,_,hrow,hle,hcl,hes⟩
   ·cases hV;exact .inl rfl
   ·generalize hee:([]:List (List AV))=es at hV;cases hV with
    | aE=>exact .inl rfl
    | aD=>subst hee;exact .inr ⟨_,_,rfl⟩
   ·have h1:len=0:=by have:=Xq List.length hes;simp at this;omega
    subst h1;cases hV with
    | aG=>exact .inl rfl
    | aC=>exact .inr ⟨_,_,rfl⟩
  rcases hz with rfl | ⟨p,c,rfl⟩
  ·have:fy P f [.aB] h λr h'=>e_ (fK []) (λm=>h.length<=m) h' r/\(([]:List Int)≠[]->gq h' r)/\eY fj h h':=by refine qM hf.1 (Wd rfl) ?_;show vc P pL.aA ⟨[(0,.aB)],[],h⟩ (ia pL.aB _);have an:mj false .aB=some (.aD true):=rfl;simp only[pL,go_sem,s_,an];exact⟨e_.aC 1,λh=>absurd rfl h,eY.aC _ _⟩
   exact this G w _ g (CX .aO)
  ·refine (hk.aA p c w).mono ?_;rintro e w' ⟨a',c',rfl,hsp,hr,hs⟩;obtain⟨g',s'⟩:=g.aZ hr hs;refine⟨_,.aL 0 false 1 [],h,G,rfl,⟨?_,λh=>absurd rfl h,eY.aC _ _⟩,g',?_,s'⟩;·simp only[fK,Wg,e_];exact .inr (.inl ⟨0,false,rfl,Vp⟩)
   ·exact V.aD (G:=G) (w:=w') 0 false 1 [] a' c' (λ_ _=>undef) (VP _) (λe=>by cases e) (λ_=>hsp) (λhne=>absurd rfl hne) (λe he=>by simp at he) (λi j c hj=>by simp[gi]at hj) (λi j c hj=>by simp[gi]at hj)
 ·refine qM hf.1 (Wd rfl) ?_;show vc P pL.aA ⟨[(0,a)],[],h⟩ (ia pL.aB _);have an:mj false a=some (.aD false):=by
   have hpos:0<l.length:=Xg.2 h0;have hl':=ha.aE;simp only[fK,Rd]at ha;obtain⟨es,he,hes⟩:=ha;have hlen:=nO hes;rw[Vo]at hlen;rcases he with⟨rfl,rfl⟩ | ⟨t,c,rfl⟩ | ⟨n,off,len,cap,row,gr,rfl,_,hrow,hle,hcl,rfl⟩;·simp at hlen;omega
   ·simp only[mj,n_,jC,V3];rw[Vf (by omega)];rfl
   ·simp only[Vw,VA]at hlen;simp only[mj,n_,jC,V3];rw[Vf (by omega)];rfl
  obtain⟨ys,hys,hyr⟩:=(ha.up (eY.b1 (some (.aA 1 [] false)))).aK;obtain⟨o,h',hap,ho',hc',he'⟩:=jr (lo:=h.length) (sz:=1) (bytes:=8) (ds:=[]) (h0:=h++[some (.aA 1 [] false)]) (h:=h++[some (.aA 1 [] false)]) (av:=.aF h.length 1 0 0 (some 0))
   (by simp only[e_];exact .inr (.inr ⟨_,0,some 0,[],false,rfl,Vg _,gh _ _,by simp,(λc hc=>by cases hc;simp),by simp[fP]⟩))
   ⟨[],false,gh _ _,(λh=>by cases h),λc hc=>by cases hc;simp⟩ (eY.aC fj _) (uJ hyr) (by simp) (by simp;omega)
  have ha2:=ic hys 8 (.aF h.length 1 0 0 (some 0));rw[hap]at ha2;simp only[pL,go_sem,s_,an,ha2];exact⟨by simpa [fK] using ho',λ_=>hc',(eY.b1 _).aI he' (λm hm hm'=>by omega)⟩
theorem xu {F:Nat->Prop}{h:eZ}{x:fG}{o n e:AV}(ho:e_ (fK x.aA) F h o)(hn:e_ (fK x.aB) F h n)(he:e_ (fK x.aC) F h e):fW x.c F h [o,n,e]:=by simp only[fG.c,fW];exact⟨_,_,rfl,ho,_,_,rfl,hn,_,_,rfl,he,rfl⟩
theorem mN {d:D}{lo n:Nat}{h:eZ}{a:AV}(ho:e_ d (λm=>lo<=m) h a)(hn:n<lo)(x:Option fh){k:Nat}(hk:k<=lo):e_ d (λm=>k<=m) (h.set n x) a:=
 e_.aB _ (λm hm=>by omega) (λm hm y hy=>by rw[Vb (by omega)];exact hy) _ ho
theorem pU:∀{l:List Int}{p:Option Int},je p l=true->jO l/\(∀y,p=some y->∀m∈l,y<m)/\∀m∈l,1<=m/\m<=7
 | [],_,_=>⟨List.Pairwise.nil,by simp,by simp⟩
 | x :: r,p,h=>by
  simp only[je,VF,Bool.not_eq_true',WI,Wv]at h;obtain⟨⟨⟨h1,h2⟩,h3⟩,h4⟩:=h;obtain⟨g1,g2,g3⟩:=pU h4;refine⟨WN.2 ⟨g2 x rfl,g1⟩,λy hy m hm=>?_,λm hm=>?_⟩
  ·subst hy;simp only[Wv]at h3;rcases VR.1 hm with rfl | hm;·omega
   ·have:=g2 x rfl m hm;omega
  ·rcases VR.1 hm with rfl | hm;·omega
   ·exact g3 m hm
theorem Sb {x:fG}(h:x.aI=true):x.aA.length≠0/\jO x.aA/\jO x.aB/\jO x.aC/\(∀m∈x.aA,1<=m/\m<=7)/\(∀m∈x.aB,1<=m/\m<=7)/\(∀m∈x.aC,1<=m/\m<=7)/\(∀m∈x.aC,m∉x.aA/\m∉x.aB):=by
 simp only[fG.aM,Bool.not_eq_true',WI,Wv,Bool.not_eq_false']at h;obtain⟨⟨⟨⟨h0,h1⟩,h2⟩,h3⟩,h4⟩:=h;refine⟨h0,(pU h1).1,(pU h2).1,(pU h3).1,(pU h1).2.2,(pU h2).2.2,(pU h3).2.2,λm hm=>?_⟩;have:x.aJ m=false:=by
  cases hv:x.aJ m;·rfl
  ·have:x.aC.any x.aJ=true:=Xh.2 ⟨m,hm,hv⟩;rw[h4]at this;cases this
 simp only[fG.aJ,WI,Wv]at this;exact this
end Glb
