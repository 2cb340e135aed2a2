/-
  A library of its own.
-/
import Derived.Test.YtdeiamnhnfmilaaGreatGlbQuoB
import Derived.Test.YtdeiamnhnfmilaaGreatGlbMorA
set_option linter.unusedSimpArgs false
set_option linter.unusedVariables false
set_option maxRecDepth 10000
set_option maxHeartbeats 8000000
namespace Glb
open Go
theorem fY.bC {G : Gh} {w w' : World} {h : fu} (g : fY G w h) (hr : kL w w') (same : ∀ b, b < w.heap.size -> w'.heap[b]? = w.heap[b]?) : fY G w' h /\ gP G w G w' := by
  have e := hr.2.2.1
  have sh : ∀ b, (w.shape? b).isSome -> w'.shape? b = w.shape? b := λb hb => by
    have hlt : b < w.heap.size := by
      apply W6; intro hn
      simp only [World.shape?, Array.getElem?_eq_none (Nat.le_of_not_lt hn)] at hb
      exact absurd hb ς
    simp only [World.shape?, same b hlt]
  have k : iB G w G w' := ⟨WX _, λ_ _ _ h => h, λ_ _ h => h, λ_ _ h => h, λt b hp => same b (g.aQ hp), sh⟩
  exact ⟨{ aA := g.aA, aD := g.aD, aE := g.aE, inj := g.inj, aF := g.aF, aG := g.aG, aL := g.aL, aM := g.aM,
           aH := λn b hb => Xj (g.aH n b hb) e, aJ := λb hb => Xj (g.aJ b hb) e,
           aC := λn sz es gr b hn hb => (g.aC n sz es gr b hn hb).aA k (same b (g.aO (g.aN hn hb) hb)), aI := g.aI, aK := g.aK },
    k, ⟨λ_ h => h, λ_ h => .inl h⟩, λ_ _ => rfl, λ_ _ => YD, e, λb hb _ => same b hb, λb hb => .inl hb, hr⟩
structure xw (P:Program)(f:FuncId):Prop where
 aA:∀(a:Addr)(c:Nat)(w:World),Calls P f #[.slice (some a) 0 c] w λe w'=>∃a' c',e=.returned (.slice (some a') 0 c')/\a'.spot=none/\kL w w'/\∀k,k<w.heap.size->w'.heap[k]?=w.heap[k]?
def xz (P:Program)(f:FuncId):Prop:=
 fZ P f=true/\∀(F:Nat->Prop)(h:fu)(l:List Int)(a:AV),Rd F h (f_ l) a->l.length<=2^40->fO P f [a] h λr h'=>fA (f_ l) (λm=>h.length<=m) h' r/\(l≠[]->ic h' r)/\fq fB h h'
def qx (b:Bool)(x:AV):Option AV:=if rZ x then (lC x).map λc=>.aE (c != b) else none
theorem zC (g:fN->AV)(h:fu)(b:Bool)(x:fN):gM g h (.aG b x)=qx b (g x):=W_ rfl rfl
theorem IX {G w}{a:AV}{vs:Array Value} (hv:VL G w [a] vs):∃v,vs=#[v]/\V G w a v:=by
 have:=hv.1;match vs with
 | ⟨[v]⟩=>exact⟨v,rfl,hv.2 0 a v rfl rfl⟩
 | ⟨[]⟩=>simp at this
 | ⟨_ :: _ :: _⟩=>simp at this
theorem IY {G w}{a:AV}{v:Value}(hv:V G w a v):VL G w [a] #[v]:=⟨rfl,λj c v' hc e=>by
 cases j with
 | zero=>simp at hc e;subst hc;subst e;exact hv
 | succ j=>simp at hc⟩
theorem Kr {P:Program}{f:FuncId}(hf:Is P f rH)(hk:xw P f):xz P f:=by
 refine⟨hf.2,λF h l a ha hl=>?_⟩;by_cases h0:l=[]
 ·subst h0;intro G w vs g hv;obtain⟨v,rfl,hV⟩:=IX hv;have hz:v=.slice none 0 0\/∃p c,v=.slice (some p) 0 c:=by
   simp only[f_,Yb,Rd,gB]at ha;obtain⟨es,he,rfl⟩:=ha;rcases he with⟨rfl,_⟩ | ⟨t,c,rfl⟩ | ⟨n,off,len,cap,row,gr,rfl,_,hrow,hle,hcl,hes⟩
   ·cases hV;exact .inl rfl
   ·generalize hee:([]:List (List AV))=es at hV;cases hV with
    | aG=>exact .inl rfl
    | aE=>subst hee;exact .inr ⟨_,_,rfl⟩
   ·have h1:len=0:=by have:=Y5 List.length hes;simp at this;omega
    subst h1;cases hV with
    | aH=>exact .inl rfl
    | aD=>exact .inr ⟨_,_,rfl⟩
  rcases hz with rfl | ⟨p,c,rfl⟩
  ·have:fO P f [.aC] h λr h'=>fA (f_ []) (λm=>h.length<=m) h' r/\(([]:List Int)≠[]->ic h' r)/\fq fB h h':=by refine uM hf.1 (Yq rfl) ?_;show vc P rH.aA ⟨[(0,.aC)],[],h⟩ (iS rH.aC _);have an:qx false .aC=some (.aE true):=rfl;simp only[rH,go_sem,zC,an];exact⟨fA.aD 1,λh=>absurd rfl h,fq.aC _ _⟩
   exact this G w _ g (IY .aO)
  ·refine (hk.aA p c w).mono ?_;rintro e w' ⟨a',c',rfl,hsp,hr,hs⟩;obtain⟨g',s'⟩:=g.bC hr hs;refine⟨_,.aM 0 false 1 [],h,G,rfl,⟨?_,λh=>absurd rfl h,fq.aC _ _⟩,g',?_,s'⟩;·simp only[f_,Yb,fA];exact .inr (.inl ⟨0,false,rfl,Xb⟩)
   ·exact V.aE (G:=G) (w:=w') 0 false 1 [] a' c' (λ_ _=>undef) (Xm _) (λe=>by cases e) (λ_=>hsp) (λhne=>absurd rfl hne) (λe he=>by simp at he) (λi j c hj=>by simp[gI]at hj) (λi j c hj=>by simp[gI]at hj)
 ·refine uM hf.1 (Yq rfl) ?_;show vc P rH.aA ⟨[(0,a)],[],h⟩ (iS rH.aC _);have an:qx false a=some (.aE false):=by
   have hpos:0<l.length:=Zy.2 h0;have hl':=ha.aF;simp only[f_,Rd]at ha;obtain⟨es,he,hes⟩:=ha;have hlen:=mz hes;rw[Xd]at hlen;rcases he with⟨rfl,rfl⟩ | ⟨t,c,rfl⟩ | ⟨n,off,len,cap,row,gr,rfl,_,hrow,hle,hcl,rfl⟩;·simp at hlen;omega
   ·simp only[qx,rZ,lC,Yc];rw[WW ω];rfl
   ·simp only[W7,Xk]at hlen;simp only[qx,rZ,lC,Yc];rw[WW ω];rfl
  obtain⟨ys,hys,hyr⟩:=(ha.up (fq.b1 (some (.aA 1 [] false)))).aH;obtain⟨o,h',hap,ho',hc',he'⟩:=nW (lo:=h.length) (sz:=1) (bytes:=8) (ds:=[]) (h0:=h++[some (.aA 1 [] false)]) (h:=h++[some (.aA 1 [] false)]) (av:=.aG h.length 1 0 0 (some 0))
   (by simp only[fA];exact .inr (.inr ⟨_,0,some 0,[],false,rfl,WX _,h_ _ _,ς,(λc hc=>by cases hc;simp),by simp[fQ]⟩))
   ⟨[],false,h_ _ _,(λh=>by cases h),λc hc=>by cases hc;simp⟩ (fq.aC fB _) (wT hyr) ς (by simp;omega)
  have ha2:=iR hys 8 (.aG h.length 1 0 0 (some 0));rw[hap]at ha2;simp only[rH,go_sem,zC,an,ha2];exact⟨by simpa [f_] using ho',λ_=>hc',(fq.b1 _).aJ he' (λm hm hm'=>ω)⟩
def fI.aR (x:fI):Bool:=decide (0<x.aC.length+x.aD.length)
def fI.aP (x:fI)(n:Int):Int:=if x.aF=false then 29 else if n<1\/7<n then 28 else if x.aR=true then 11 else 0
def fI.no:fI:=⟨[],[],[]⟩
def fI.aS (x:fI)(n:Int):fI×Int:=if x.aP n≠0 then (.no,x.aP n) else if n∈x.aA then (.no,7) else (⟨x.aA,[],[n]⟩,0)
def fI.aT (x:fI)(n:Int):fI×Int:=if x.aP n≠0 then (.no,x.aP n) else if n∉x.aA then (.no,6) else if x.aA.length=1 then (.no,29) else (⟨x.aA,x.aA.filter (λm=>!decide (m=n)),[]⟩,0)
def fI.aV (x:fI)(far:List Int):Bool:=!x.aF || !x.aR || (decide (x.aC.length=0) && x.aD.any λn=>!decide (n∈far))
def fI.aU (x:fI)(far:List Int):fI×Bool:=if x.aV far=true then (x,false) else if 0<x.aC.length then (⟨x.aC,[],[]⟩,true) else (⟨x.aA,kZ (x.aA++x.aD),[]⟩,true)
theorem En {F:Nat->Prop}{h:fu}{x:fI}{o n e:AV}(ho:fA (f_ x.aA) F h o)(hn:fA (f_ x.aC) F h n)(he:fA (f_ x.aD) F h e):fU x.c F h [o,n,e]:=by simp only[fI.c,fU];exact⟨_,_,rfl,ho,_,_,rfl,hn,_,_,rfl,he,rfl⟩
theorem oG {d:D}{lo n:Nat}{h:fu}{a:AV}(ho:fA d (λm=>lo<=m) h a)(hn:n<lo)(x:Option fC){k:Nat}(hk:k<=lo):fA d (λm=>k<=m) (h.set n x) a:=
 fA.aC _ (λm hm=>ω) (λm hm y hy=>by rw[WS ω];exact hy) _ ho
theorem rU:∀{l:List Int}{p:Option Int},lI p l=true->kM l/\(∀y,p=some y->∀m∈l,y<m)/\∀m∈l,1<=m/\m<=7
 | [],_,_=>⟨List.Pairwise.nil,ς,ς⟩
 | x :: r,p,h=>by
  simp only[lI,Xs,Zw,YU,Ym]at h;obtain⟨⟨⟨h1,h2⟩,h3⟩,h4⟩:=h;obtain⟨g1,g2,g3⟩:=rU h4;refine⟨Y_.2 ⟨g2 x rfl,g1⟩,λy hy m hm=>?_,λm hm=>?_⟩
  ·subst hy;simp only[Ym]at h3;rcases XC.1 hm with rfl | hm;·omega
   ·have:=g2 x rfl m hm;omega
  ·rcases XC.1 hm with rfl | hm;·omega
   ·exact g3 m hm
theorem TK {x:fI}(h:x.aF=true):x.aA.length≠0/\kM x.aA/\kM x.aC/\kM x.aD/\(∀m∈x.aA,1<=m/\m<=7)/\(∀m∈x.aC,1<=m/\m<=7)/\(∀m∈x.aD,1<=m/\m<=7)/\(∀m∈x.aD,m∉x.aA/\m∉x.aC):=by
 simp only[fI.aQ,Zw,YU,Ym,Bool.not_eq_false']at h;obtain⟨⟨⟨⟨h0,h1⟩,h2⟩,h3⟩,h4⟩:=h;refine⟨h0,(rU h1).1,(rU h2).1,(rU h3).1,(rU h1).2.2,(rU h2).2.2,(rU h3).2.2,λm hm=>?_⟩;have:x.aK m=false:=by
  cases hv:x.aK m;·rfl
  ·have:x.aD.any x.aK=true:=Zr.2 ⟨m,hm,hv⟩;rw[h4]at this;cases this
 simp only[fI.aK,YU,Ym]at this;exact this
end Glb
