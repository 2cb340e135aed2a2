/-
  A library of its own.
-/
import Derived.Test.YtdeiamnhnfmilaaGreatGlbLibC
import Derived.OrdersIn
import Derived.TacticsIn
import Derived.RangeFuncOwn
import Derived.RangeFuncLeaves
set_option linter.unusedSimpArgs false
set_option linter.unusedVariables false
namespace Glb
open Go
structure jI (X:Nat->Prop)(G:Gh)(w:World)(G':Gh)(w':World):Prop where
 aA:ib G w G' w'
 S:(∀b,G.S b->G'.S b)/\∀b,G'.S b->G.S b\/w.heap.size<=b
 aG:∀n,n<G.N->G'.aA n=G.aA n
 aH:∀n,n<G.N->(G'.aE n↔G.aE n)
 aC:w.heap.size<=w'.heap.size
 aF:∀b,b<w.heap.size->¬G.aI b->¬X b->w'.heap[b]?=w.heap[b]?
 aD:∀b,G'.aI b->G.aI b\/w.heap.size<=b
 aI:jU w w'
theorem gy.x {G w G' w'}(s:gy G w G' w')(X:Nat->Prop):jI X G w G' w':=⟨s.aA,s.S,s.aF,s.aJ,s.aC,λb h1 h2 _=>s.aE b h1 h2,s.aG,s.aH⟩
theorem jI.aJ {X:Nat->Prop}{G w G' w'}(s:jI X G w G' w')(hX:∀b,X b->w.heap.size<=b):gy G w G' w':=
 ⟨s.aA,s.S,s.aG,s.aH,s.aC,λb h1 h2=>s.aF b h1 h2 λx=>by have:=hX b x;omega,s.aD,s.aI⟩
theorem jI.aK (X:Nat->Prop)(G w):jI X G w G w:=(gy.aD G w).x X
theorem jI.aE {X:Nat->Prop}{G w G1 w1 G2 w2}(a:jI X G w G1 w1)(b:jI X G1 w1 G2 w2):jI X G w G2 w2 where
 aA:=a.aA.aG b.aA
 S:=⟨λx h=>b.S.1 x (a.S.1 x h),λx h=>(b.S.2 x h).elim (a.S.2 x) (λh=>.inr (UH a.aC h))⟩
 aG n h:=by rw[b.aG n (UM h a.aA.N),a.aG n h]
 aH n h:=(b.aH n (UM h a.aA.N)).trans (a.aH n h)
 aC:=UH a.aC b.aC
 aF x hx hn hX:=by
  rw[b.aF x (UM hx a.aC) ?_ hX,a.aF x hx hn hX];intro ho;rcases a.aD x ho with h | h;·exact hn h
  ·omega
 aD x hx:=by
  rcases b.aD x hx with h | h;·exact a.aD x h
  ·exact .inr (UH a.aC h)
 aI:=a.aI.aC b.aI
def nh (G:Gh)(w:World)(b:Nat):Prop:=b<w.heap.size/\¬G.aI b/\¬G.S b
theorem nh.x {X:Nat->Prop}{G w G' w' b}(f:nh G w b)(s:jI X G w G' w'):nh G' w' b:=
 ⟨UM f.1 s.aC,λh=>(s.aD b h).elim f.2.1 λh=>by have:=f.1;omega,λh=>(s.S.2 b h).elim f.2.2 λh=>by have:=f.1;omega⟩
theorem Hy {w:World}{l:Nat}{o:Obj} (hl:w.heap[l]?=some o) (hc:o.isCells=false):w.shape? l=none:=by
 simp only[World.shape?,hl];cases o with
 | cells _ _ _=>simp[Obj.isCells]at hc
 | _=>rfl
theorem FB {w:World}{a:Addr}{o:Obj} (hl:w.heap[a.block]?=some o) (hc:o.isCells=false):w.frozen? a=false:=by
 simp only[World.frozen?,hl];cases o with
 | cells _ _ _=>simp[Obj.isCells]at hc
 | _=>rfl
theorem Sj {w:World}{l b:Nat}{o o':Obj} (hl:w.heap[l]?=some o) (hc:o.isCells=false) (u:o'.isCells=false):(w.putObj l o').shape? b=w.shape? b:=by
 by_cases e:b=l
 ·subst e;rw[Hy hl hc,Hy (World.putObj_heap_same (VA.1 hl).1) u]
 ·simp only[World.shape?,World.putObj_heap_other e]
theorem Mi {w:World}{l:Nat}{a:Addr}{o o':Obj} (hl:w.heap[l]?=some o) (hc:o.isCells=false) (u:o'.isCells=false):(w.putObj l o').frozen? a=w.frozen? a:=by
 by_cases e:a.block=l
 ·subst e;rw[FB hl hc,FB (World.putObj_heap_same (VA.1 hl).1) u]
 ·simp only[World.frozen?,World.putObj_heap_other e]
theorem fO.aU {G w h} (g : fO G w h) {l : Nat} {o o' : Obj} (f : nh G w l) (hl : w.heap[l]? = some o) (hc : o.isCells = false) (u : o'.isCells = false) :
    fO G (w.putObj l o') h /\ jI (λb => b = l) G w G (w.putObj l o') := by
  have hp : ∀ t b, G.aL t b -> b ≠ l := λt b hb e => by
    subst e
    cases t with
    | zero => exact f.2.2 hb
    | succ n => exact f.2.1 (.inr ⟨n, hb⟩)
  have k : ib G w G (w.putObj l o') := ⟨Uy _, λ_ _ _ h => h, λ_ _ h => h, λ_ _ h => h, λt b hb => World.putObj_heap_other (hp t b hb), λb _ => Sj hl hc u⟩
  have ow : ∀ n b, G.aD n -> G.aA n = some b -> (w.putObj l o').heap[b]? = w.heap[b]? := λn b h1 h2 => World.putObj_heap_other (λe => f.2.1 (.inl ⟨n, h1, e ▸ h2⟩))
  refine ⟨{ aA := g.aA, aD := g.aD, aE := g.aE, inj := g.inj, aF := g.aF, aG := g.aG, aL := g.aL, aM := g.aM,
            aH := λn b hb => by rw [World.putObj_size]; exact g.aH n b hb, aJ := λb hb => by rw [World.putObj_size]; exact g.aJ b hb,
            aC := λn sz es gr b hn hb => (g.aC n sz es gr b hn hb).aA k (ow n b (g.aN hn hb) hb), aI := g.aI, aK := g.aK }, ?_⟩
  exact ⟨k, ⟨λ_ h => h, λ_ h => .inl h⟩, λ_ _ => rfl, λ_ _ => VW, by simp, λb _ _ hX => World.putObj_heap_other hX, λ_ h => .inl h, rfl, rfl, by simp, λa _ => Mi hl hc u⟩
theorem fO.bx {G w h} (g : fO G w h) (o : Obj) : fO G (w.alloc o) h /\ gy G w G (w.alloc o) /\ nh G (w.alloc o) w.heap.size := by
  have k : ib G w G (w.alloc o) := ⟨Uy _, λ_ _ _ h => h, λ_ _ h => h, λ_ _ h => h, λt b hb => nZ (g.aQ hb), λb hb => CI hb⟩;have fz : ∀ a : Addr, a.block < w.heap.size -> (w.alloc o).frozen? a = w.frozen? a := λa ha => by simp only [World.frozen?, nZ ha]
  refine ⟨{ aA := g.aA, aD := g.aD, aE := g.aE, inj := g.inj, aF := g.aF, aG := g.aG, aL := g.aL, aM := g.aM,
            aH := λn b hb => by rw [World.size_alloc]; have := g.aH n b hb; omega, aJ := λb hb => by rw [World.size_alloc]; have := g.aJ b hb; omega,
            aC := λn sz es gr b hn hb => (g.aC n sz es gr b hn hb).aA k (nZ (g.aO (g.aN hn hb) hb)), aI := g.aI, aK := g.aK }, ?_, ?_⟩
  · exact ⟨k, ⟨λ_ h => h, λ_ h => .inl h⟩, λ_ _ => rfl, λ_ _ => VW, by simp, λb hb _ => nZ hb, λ_ h => .inl h, rfl, rfl, by simp, fz⟩
  · exact ⟨by simp, λh => by have := g.bK h; omega, λh => by have := g.aJ _ h; omega⟩
def Pj (o:Oper):Bool:=match o.op with
 | .defer _=>false
 | _=>true
def mi:Code->Bool
 | .skip=>true
 | .region _ ops d=>!d || ops.toList.all Pj
 | .seq a b=>mi a && mi b
 | .cond _ a b=>mi a && mi b
 | .block _ b=>mi b
 | .loop b=>mi b
 | .exit _=>true
 | .ret=>true
 | _=>false
variable {n:Nat} {keep:Nat->Bool} {P:Program}
abbrev Yl:=List AV->eW->(Option AX->eW->Prop)->Prop
def yX (m:Nat)(P:Program)(l:Nat)(rdy:Obj)(dn:AX->Obj)(Y:Yl)(Gb:Gh)(wb:World):Prop:=
 ∀(avs:List AV)(h:eW)(R:Option AX->eW->Prop),Y avs h R->∀(G:Gh)(w:World)(vs:Array Value),fO G w h->VL G w avs vs->nh G w l->w.heap[l]?=some rdy->jI (λb=>b=l) Gb wb G w->
  YieldAt Fence.wide m P l vs w λe w'=>∃(j:Option AX)(h':eW)(G':Gh),e=.returned (.bool j.isNone)/\R j h'/\fO G' w' h'/\jI (λb=>b=l) G w G' w'/\w'.heap[l]?=some (match j with | none=>rdy | some x=>dn x)
def tZ (P:Program)(gf:FuncId)(cs:List AV)(h:eW)(Y:Yl)(Kn:eW->Prop)(Ks:AX->eW->Prop):Prop:=
 ∀(m l:Nat)(rdy:Obj)(dn:AX->Obj)(G:Gh)(w:World)(vs:Array Value),(∀m,yX m P l rdy dn Y G w)->fO G w h->VL G w cs vs->nh G w l->w.heap[l]?=some rdy->
  CallsIn Fence.wide m P gf (#[.func (.yield l) #[] #[]]++vs) w λe w'=>(∃v,e=.returned v)/\∃(h':eW)(G':Gh),fO G' w' h'/\jI (λb=>b=l) G w G' w' /\
   ((w'.heap[l]?=some rdy/\Kn h')\/∃x,w'.heap[l]?=some (dn x)/\Ks x h')
def tD:AX->Code
 | .aA=>.skip
 | .aD id=>.exit id
 | .aC=>.ret
def tJ (D:Nat):Deferred:={target:=.collected D,args:=#[]}
def rG:List (Nat×AV)->fV->fV
 | [],L=>L
 | p :: r,L=>rG r (kW p.1 p.2 L)
theorem Fq {G:Gh}{w:World}:∀(ps:List Nat)(u:List AV)(vs:List Value)(L:fV)(t:Array Value),(∀p∈ps,p<n/\keep p=true)->t.size=n->u.length=vs.length->ps.length=vs.length->
  (∀(j:Nat)(c:AV)(v:Value),u[j]?=some c->vs[j]?=some v->V G w c v)->(∀s,keep s=true->V G w (lk s L) (t.getD s undef))->
  ((ps.zip vs).foldl (λt (p:Nat×Value)=>t.setIfInBounds p.1 p.2) t).size=n/\∀s,keep s=true->V G w (lk s (rG (ps.zip u) L)) (((ps.zip vs).foldl (λt (p:Nat×Value)=>t.setIfInBounds p.1 p.2) t).getD s undef)
 | [],u,vs,L,t,_,hs,_,_,_,hL=>⟨by simpa using hs,by simpa [rG] using hL⟩
 | p :: ps,u,vs,L,t,hp,hs,I,E,hV,hL=>by
  cases vs with
  | nil=>simp at E
  | cons v vs=>
   cases u with
   | nil=>simp at I
   | cons a u=>
    have h0:=hp p (by simp);refine Fq ps u vs (kW p a L) (t.setIfInBounds p v) (λq hq=>hp q (Ws _ hq)) (by simpa using hs) (by simpa using I) (by simpa using E) (λj c v' h1 h2=>hV (j+1) c v' (by simpa using h1) (by simpa using h2)) λs hk=>?_;have hlt:p<({tmps:=t,defers:=[]}:Act).tmps.size:=by show p<t.size;omega
    have e:=tp (a:={tmps:=t,defers:=[]}) (q:=s) (v:=v) hlt;simp only at e;rw[fj,e];split;·exact hV 0 a v rfl rfl
    ·exact hL s hk
def pE (P:Program)(aa ab:AC)(ps:List Nat)(L:fV):Yl:=λavs h R=>avs.length=ps.length /\
 vc P aa ⟨rG (ps.zip avs) L,[],h⟩ λx s=>x=.aA/\vc P ab s λx s'=>R (match x with | .aA=>none | x=>some x) s'.h
def jO (fn:FuncId)(tmps:Array Value)(ps:Array Tmp)(assign body:Code)(D:Nat)(s:LoopState)(pe:Option Code):Loop:={state:=s,pending:=pe,fn,tmps,params:=ps,assign,body,defers:=D}
theorem J8 {ps:Array Tmp}{assign body:Code}(hps:∀p∈ps.toList,p<n/\keep p=true)(ca:mi assign=true)(cb:mi body=true){aa ab:AC}(haa:cC P n keep assign=some aa)(hab:cC P n keep body=some ab)
  {L:fV} {tmps:Array Value} {Gb:Gh} {wb:World} (hsz:tmps.size=n) (hL:∀s,keep s=true->V Gb wb (lk s L) (tmps.getD s undef)) (fn:FuncId) (D l m:Nat):
  yX m P l (.loop (jO fn tmps ps assign body D .ready none)) (λx=>.loop (jO fn tmps ps assign body D .done (some (tD x)))) (pE P aa ab ps.toList L) Gb wb:=by
 rintro avs h R ⟨hlen,hY⟩ G w vs g hv f hl sx;have hsize:vs.size=ps.size:=by rw[<-hv.1,hlen];simp
 refine⟨fn,_,assign,body,run_yield hl hsize,roundIn_of_wpIn UF ?_⟩;have hfold:((jO fn tmps ps assign body D .ready none).params.zip vs).foldl (λtmps (x:Nat×Value)=>tmps.setIfInBounds x.1 x.2) (jO fn tmps ps assign body D .ready none).tmps =
   (ps.toList.zip vs.toList).foldl (λt (p:Nat×Value)=>t.setIfInBounds p.1 p.2) tmps:=by
  show (ps.zip vs).foldl _ tmps=_;rw[<-Array.foldl_toList,Array.toList_zip]
 have henv:=Fq (n:=n) (keep:=keep) (G:=G) (w:=w) ps.toList avs vs.toList L tmps hps hsz (by rw[hv.1];simp) (by simp;omega) (λj c v h1 h2=>hv.2 j c v h1 (by simpa using h2)) (λs hk=>(hL s hk).aA sx.aA);have sr:SR n keep G w G w ⟨rG (ps.toList.zip avs) L,[],h⟩ ({tmps:=(ps.toList.zip vs.toList).foldl (λt (p:Nat×Value)=>t.setIfInBounds p.1 p.2) tmps,defers:=[]}:Act):=
  ⟨g,henv.1,rfl,henv.2,λ_ _=>.aI _,gy.aD G w⟩
 have e0:∀a:Act,a.defers=[]->wd a []=a:=λa h=>by cases a;simp only[wd];simp only at h;rw[h]
 have hw:=vG (m:=m) (GH l) [] assign aa haa sr hY;rw[e0 _ rfl]at hw;have hgoal:=wpIn_mono hw (Q':=Exit.then (λa₁ w₁=>∃w₂,(Instr.beginRound l).run P w₁=.ok () w₂/\body.wpIn (Fence.wide.inRound l) m P (roundPost P l λe w'=>∃(j:Option AX)(h':eW)(G':Gh),e=.returned (.bool j.isNone)/\R j h'/\fO G' w' h'/\jI (λb=>b=l) G w G' w'/\w'.heap[l]?=some (match j with | none=>.loop (jO fn tmps ps assign body D .ready none) | some x=>.loop (jO fn tmps ps assign body D .done (some (tD x))))) a₁ w₂) (λ_ _ _=>False)) ?_;·rw[hfold];exact hgoal
 rintro e a1 w1 ⟨a0,rfl,hp⟩;cases e with
 | normal=>
  obtain⟨G1,st1,sr1,-,hb⟩:=hp;have f1:=f.x (sr1.aD.x (λb=>b=l));have hl1:w1.heap[l]?=some (.loop (jO fn tmps ps assign body D .ready none)):=(sr1.aD.aE l f.1 f.2.1).trans hl;refine⟨_,run_beginRound hl1 rfl,?_⟩;obtain⟨g2,s2⟩:=fO.aU sr1.aA (o':=.loop {jO fn tmps ps assign body D .ready none with state:=.busy}) f1 hl1 rfl rfl;have hl2:(w1.putObj l (.loop {jO fn tmps ps assign body D .ready none with state:=.busy})).heap[l]?=some (.loop (jO fn tmps ps assign body D .busy none)):=World.putObj_heap_same f1.1;have f2:=f1.x s2;have S2:=(sr1.aD.x (λb=>b=l)).aE s2;generalize w1.putObj l (.loop {jO fn tmps ps assign body D .ready none with state:=.busy})=w2 at *;have sr2:SR n keep G1 w2 G1 w2 st1 a0:=⟨g2,sr1.aE,sr1.aC,λs hk=>(sr1.L s hk).aA s2.aA,λs hk=>(sr1.R s hk).aA s2.aA,gy.aD G1 w2⟩;refine wpIn_mono (vG (m:=m) (GH l) [] body ab hab sr2 hb) ?_;rintro e a3 w3 ⟨a4,rfl,hp⟩;have fin:∀(j:Option AX)(jc:Option Code)(G3:Gh)(st3:St),(jc=none↔j=none)->(∀x,j=some x->jc=some (tD x))->SR n keep G1 w2 G3 w3 st3 a4->R j st3.h->
    ∃v w',(Instr.endRound l jc).run P w3=.ok v w'/\∃(j:Option AX)(h':eW)(G':Gh),Ending.returned v=.returned (.bool j.isNone)/\R j h'/\fO G' w' h'/\jI (λb=>b=l) G w G' w'/\w'.heap[l]?=some (match j with | none=>.loop (jO fn tmps ps assign body D .ready none) | some x=>.loop (jO fn tmps ps assign body D .done (some (tD x)))):=by
   intro j jc G3 st3 hj1 hj2 sr3 hR;have f3:=f2.x (sr3.aD.x (λb=>b=l));have hl3:w3.heap[l]?=some (.loop (jO fn tmps ps assign body D .busy none)):=(sr3.aD.aE l f2.1 f2.2.1).trans hl2;obtain⟨g4,s4⟩:=fO.aU sr3.aA (o':=.loop {jO fn tmps ps assign body D .busy none with state:=if jc.isNone then .ready else .done,pending:=jc}) f3 hl3 rfl rfl;refine⟨_,_,run_endRound jc hl3,j,st3.h,G3,?_,hR,g4,(S2.aE (sr3.aD.x _)).aE s4,?_⟩
   ·have:jc.isNone=j.isNone:=by
     cases j with
     | none=>rw[hj1.2 rfl];rfl
     | some x=>rw[hj2 x rfl];rfl
    rw[this]
   ·rw[World.putObj_heap_same f3.1];cases j with
    | none=>rw[hj1.2 rfl];rfl
    | some x=>rw[hj2 x rfl];rfl
  cases e with
  | normal=>obtain⟨G3,st3,sr3,hR⟩:=hp;exact fin none none G3 st3 ⟨λ_=>rfl,λ_=>rfl⟩ (λx h=>by cases h) sr3 hR
  | ret=>obtain⟨G3,st3,sr3,hR⟩:=hp;exact fin (some .aC) (some .ret) G3 st3 (by simp) (λx h=>by cases h;rfl) sr3 hR
  | exit id=>obtain⟨G3,st3,sr3,hR⟩:=hp;exact fin (some (.aD id)) (some (.exit id)) G3 st3 (by simp) (λx h=>by cases h;rfl) sr3 hR
  | goto t=>exact hp.elim
  | panic c=>exact hp.elim
  | outgrown=>exact hp.elim
 | exit id=>obtain⟨G1,st1,sr1,e,-⟩:=hp;cases e
 | ret=>obtain⟨G1,st1,sr1,e,-⟩:=hp;cases e
 | goto l=>exact hp.elim
 | panic c=>exact hp.elim
 | outgrown=>exact hp.elim
def IQ (n:Nat)(keep:Nat->Bool)(G:Gh)(w:World)(K:AX->St->Prop)(ds:List Deferred)(e:Exit)(a:Act)(w':World):Prop:=
 ∃(a0:Act)(D:Nat)(x:AX)(G':Gh)(st':St),a=wd a0 (tJ D :: ds)/\nh G' w' D/\w'.heap[D]?=some (.deferred (some []))/\w.heap.size<=D/\SR n keep G w G' w' st' a0/\K x st' /\
  (match x with | .aA=>e=.normal | .aD id=>e=.exit id | .aC=>e=.ret)
theorem PW {g:Operand}{ps:Array Tmp}{assign body:Code}(a4:∀p∈ps.toList,p<n/\keep p=true)(ca:mi assign=true)(cb:mi body=true){aa ab:AC}(a7:cC P n keep assign=some aa)(a6:cC P n keep body=some ab)
  {G0:Gh} {w0:World} {G:Gh} {w:World} {st:St} {a:Act} (sr:SR n keep G0 w0 G w st a) (ds:List Deferred) {gf:FuncId} {cs:List AV} (hg:st.aA (cd keep g)=.aL gf [] cs) (hf:fP P gf=true)
  {Kn:eW->Prop} {Ks:AX->eW->Prop} (a5:tZ P gf cs st.h (pE P aa ab ps.toList st.L) Kn Ks) {K:AX->St->Prop}
  (hn:∀h',Kn h'->K .aA {st with R:=[],h:=h'}) (hs:∀x h',Ks x h'->x≠.aA/\K x {st with R:=[],h:=h'}) (m:Nat):
  (Code.rangeFunc g ps assign body).wpIn Fence.wide m P (IQ n keep G w K ds) (wd a ds) w:=by
 refine wpIn_rangeFunc ?_;intro fn _;have U:=sr.aF g;rw[hg]at U;generalize hv:a.eval g=fv at U;cases U with
 | aK _ _ us _ vs hlu hUs hl hVs=>
 have a3:us=#[]:=by
  have:us.size=0:=by simpa using hlu.symm
  exact VR this
 subst a3;obtain⟨gD,sD,fD⟩:=sr.aA.bx (.deferred (some []));obtain⟨gL,sL,fL⟩:=gD.bx (.loop (jO fn a.tmps ps assign body w.heap.size .ready none));rw[World.size_alloc]at fL;have a1:((w.alloc (.deferred (some []))).alloc (.loop (jO fn a.tmps ps assign body w.heap.size .ready none))).heap[w.heap.size+1]?=some (.loop (jO fn a.tmps ps assign body w.heap.size .ready none)):=by have:=World.alloc_heap_new (w.alloc (.deferred (some []))) (.loop (jO fn a.tmps ps assign body w.heap.size .ready none));rwa [World.size_alloc]at this
 have a2:((w.alloc (.deferred (some []))).alloc (.loop (jO fn a.tmps ps assign body w.heap.size .ready none))).heap[w.heap.size]?=some (.deferred (some [])):=
  (nZ (by simp)).trans uT
 have M:=fD.x (sL.x (λb=>b=w.heap.size+1));have sW:=sD.aI sL;obtain⟨W1,Z⟩:∃W1,(w.alloc (.deferred (some []))).alloc (.loop (jO fn a.tmps ps assign body w.heap.size .ready none))=W1:=⟨_,rfl⟩;refine⟨w.heap.size+1,[tJ w.heap.size],W1,{target:=.fn (.func gf) vs,args:=#[.func (.yield (w.heap.size+1)) #[] #[]]},W1,gf,#[.func (.yield (w.heap.size+1)) #[] #[]]++vs,W1,?_,?_,λ_ _=>UF,?_,(λh=>by cases h),?_⟩;·rw[<-Z];exact run_enterLoop_outer _ _ _ _ _
 ·rw[rZ];simp only[resolve,hv];simp[go_sem]
 ·simp[invoke,go_sem,tS hf]
 rw[Z]at a1 a2 M fL gL sW;have hy:∀m,yX m P (w.heap.size+1) (.loop (jO fn a.tmps ps assign body w.heap.size .ready none)) (λx=>.loop (jO fn a.tmps ps assign body w.heap.size .done (some (tD x)))) (pE P aa ab ps.toList st.L) G W1:=
  λm=>J8 a4 ca cb a7 a6 sr.aE (λs hk=>(sr.L s hk).aA sW.aA) fn w.heap.size (w.heap.size+1) m
 refine (a5 (m-1) (w.heap.size+1) _ _ G W1 vs hy gL ⟨hl,λj c v h1 h2=>(hVs j c v h1 h2).aA sW.aA⟩ fL a1).mono ?_;rintro e W2 ⟨⟨v,rfl⟩,h',G',g2,s2,W⟩;have ac:=M.x s2;have a8:W2.heap[w.heap.size]?=some (.deferred (some [])):=(s2.aF _ M.1 M.2.1 (by omega)).trans a2;have a9:=fL.x s2;have E:∀(r:Loop),W2.heap[w.heap.size+1]?=some (.loop r)->r.state≠.busy->∃W3,(Instr.endLoop (w.heap.size+1)).run P W2=.ok r.pending W3/\SR n keep G w G' W3 {st with R:=[],h:=h'} a/\nh G' W3 w.heap.size/\W3.heap[w.heap.size]?=some (.deferred (some [])):=by intro r hr hb;obtain⟨g3,s3⟩:=fO.aU g2 (o':=.loop {r with state:=.exhausted}) a9 hr rfl rfl;have S3:=((sW.x (λb=>b=w.heap.size+1)).aE s2).aE s3;refine⟨_,run_endLoop hr hb,⟨g3,sr.aE,sr.aC,λs hk=>(sr.L s hk).aA S3.aA,λ_ _=>.aI _,S3.aJ (λb hb=>by omega)⟩,ac.x s3,?_⟩;rw[World.putObj_heap_other (by omega)];exact a8
 have u:({wd a ds with defers:=[tJ w.heap.size]++(wd a ds).defers}:Act)=wd a (tJ w.heap.size :: ds):=rfl;rcases W with⟨O,hk⟩ | ⟨x,O,hk⟩;·obtain⟨W3,r3,I,f3,d3⟩:=E _ O (by simp[jO]);refine⟨none,W3,r3,?_⟩;exact⟨a,w.heap.size,.aA,G',_,u,f3,d3,Uy _,I,hn h' hk,rfl⟩
 ·obtain⟨W3,r3,I,f3,d3⟩:=E _ O (by simp[jO]);obtain⟨hx,hK⟩:=hs x h' hk;refine⟨some (tD x),W3,r3,?_⟩;cases x with
  | aA=>exact absurd rfl hx
  | aD id=>exact wpIn_exit ⟨a,w.heap.size,.aD id,G',_,u,f3,d3,Uy _,I,hK,rfl⟩
  | aC=>exact wpIn_ret ⟨a,w.heap.size,.aC,G',_,u,f3,d3,Uy _,I,hK,rfl⟩
structure RS where
 j:Option AX
 q:Bool
 st:St
inductive RC where
 | aC (a:AC)
 | aF (a:AC)
 | aH (a b:RC)
 | aD (c:fB) (a b:RC)
 | aA (id:Nat) (b:RC)
 | aE (b:RC)
 | aI (pre:List AO) (d:jP) (x:fB) (args:List fB) (post:List AO)
 | aG (g:fB) (ps:List Nat) (aa ab:AC)
def iQ (P:Program)(l:Nat)(Y:Yl):RC->RS->(AX->RS->Prop)->Prop
 | .aC a,s,K=>vc P a s.st λx st'=>K x ⟨s.j,s.q,st'⟩
 | .aF a,s,K=>s.q=false/\vc P a s.st λx st'=>K x ⟨s.j,s.q,st'⟩
 | .aH a b,s,K=>iQ P l Y a s λx s'=>match x with
  | .aA=>iQ P l Y b s' K
  | .aD id=>K (.aD id) s'
  | .aC=>K .aC s'
 | .aD c a b,s,K=>match s.st.aA c with
  | .aE t=>(t=true->iQ P l Y a s K)/\(t=false->iQ P l Y b s K)
  | _=>False
 | .aA id b,s,K=>iQ P l Y b s λx s'=>match x with
  | .aA=>K .aA s'
  | .aD id'=>if id'=id then K .aA s' else K (.aD id') s'
  | .aC=>K .aC s'
 | .aE b,s,K=>∃I:Nat->RS->Prop,(∃m s0,Wk s.st s0/\I m ⟨s.j,s.q,s0⟩)/\∀m s,I m s->iQ P l Y b s λx s'=>match x with
  | .aA=>∃m' s0,m'<m/\Wk s'.st s0/\I m' ⟨s'.j,s'.q,s0⟩
  | .aD id=>K (.aD id) s'
  | .aC=>K .aC s'
 | .aI pre d x args post,s,K=>s.q=false/\s.j=none/\gU P pre s.st λs1=>s1.aA x=.aN (.func (.yield l) #[] #[]) /\
   Y (args.map s1.aA) s1.h λj h'=>gU P post {s1.aC d (.aE j.isNone) with h:=h'} λs2=>K .aA ⟨j,false,{s2 with R:=[]}⟩
 | .aG g ps aa ab,s,K=>s.q=false/\∃gf cs Kn Ks,s.st.aA g=.aL gf [] cs/\fP P gf=true/\tZ P gf cs s.st.h (pE P aa ab ps s.st.L) Kn Ks /\
   (∀h',Kn h'->K .aA ⟨s.j,true,{s.st with R:=[],h:=h'}⟩)/\∀x h',Ks x h'->x≠.aA/\K x ⟨s.j,true,{s.st with R:=[],h:=h'}⟩
section
variable {n:Nat} {keep:Nat->Bool} {P:Program}
def Ck (o:Oper):Bool:=match o.op with
 | .call {callee:=.value (.func _),..}=>false
 | .call {callee:=.value _,..}=>true
 | _=>false
def vE (P:Program)(n:Nat)(keep:Nat->Bool)(ops:Array Oper):List Oper->Option (List AO×jP×fB×List fB×List AO)
 | []=>none
 | o :: r=>if Ck o then (match lJ P (cd keep) o with
   | some (.aD x az)=>match o.guard,rp n keep o.dst,qi P n keep ops r with
    | none,some d,some post=>some ([],d,x,az,post)
    | _,_,_=>none
   | _=>none)
  else match wH P n keep ops o,vE P n keep ops r with
   | some a,some (pre,d,x,az,post)=>some (a :: pre,d,x,az,post)
   | _,_=>none
def mG (it:Bool):Code->Bool
 | .region _ ops d=>it && !d && ops.toList.any Ck
 | .seq a b=>mG it a || mG it b
 | .cond _ a b=>mG it a || mG it b
 | .block _ b=>mG it b
 | .loop b=>mG it b
 | .scope b=>mG it b
 | .rangeFunc _ _ _ _=>true
 | _=>false
def pJ (P:Program)(n:Nat)(keep:Nat->Bool)(c:Code):Option RC:=(cC P n keep c).map (if mi c then RC.aC else RC.aF)
def mg (P:Program)(n:Nat)(keep:Nat->Bool)(it:Bool):Code->Option RC
 | .region id ops d=>if mG it (.region id ops d) then (vE P n keep ops ops.toList).map fun (pre,d,x,az,post)=>.aI pre d x az post else pJ P n keep (.region id ops d)
 | .seq a b=>if mG it (.seq a b) then (match mg P n keep it a,mg P n keep it b with
   | some x,some y=>some (.aH x y)
   | _,_=>none) else pJ P n keep (.seq a b)
 | .cond c a b=>if mG it (.cond c a b) then (match mg P n keep it a,mg P n keep it b with
   | some x,some y=>some (.aD (cd keep c) x y)
   | _,_=>none) else pJ P n keep (.cond c a b)
 | .block id b=>if mG it (.block id b) then (mg P n keep it b).map (.aA id) else pJ P n keep (.block id b)
 | .loop b=>if mG it (.loop b) then (mg P n keep it b).map .aE else pJ P n keep (.loop b)
 | .scope b=>if mG it (.scope b) then none else pJ P n keep (.scope b)
 | .rangeFunc g ps x y=>if mi x && mi y && ps.toList.all (λp=>decide (p<n) && keep p) then (match cC P n keep x,cC P n keep y with
   | some aa,some ab=>some (.aG (cd keep g) ps.toList aa ab)
   | _,_=>none) else none
 | c=>pJ P n keep c
def vZ (wb:World)(G:Gh)(w:World)(ds:List Deferred)(q:Bool):Prop:=
 ds=[]\/q=true/\∃D,ds=[tJ D]/\nh G w D/\w.heap[D]?=some (.deferred (some []))/\wb.heap.size<=D
theorem vZ.aA {wb G w G' w' ds q}(m:vZ wb G w ds q)(s:gy G w G' w'):vZ wb G' w' ds q:=by
 rcases m with h | ⟨hq,D,h1,h2,h3,h4⟩;·exact .inl h
 ·exact .inr ⟨hq,D,h1,h2.x (s.x (λ_=>False)),(s.aE D h2.1 h2.2.1).trans h3,h4⟩
structure qX (P:Program)(Gb:Gh)(wb:World)(X:Nat->Prop)(T:Option AX->Gh->World->Prop)(l:Nat)(Y:Yl):Prop where
 aA:∀j G w G' w',T j G w->gy G w G' w'->T j G' w'
 aC:∀m avs h R G w vs,Y avs h R->fO G w h->VL G w avs vs->T none G w->jI X Gb wb G w->YieldAt Fence.wide m P l vs w λe w'=>∃(j:Option AX)(h':eW)(G':Gh),e=.returned (.bool j.isNone)/\R j h'/\fO G' w' h'/\jI X G w G' w'/\T j G' w'
structure nS (n:Nat)(keep:Nat->Bool)(Gb:Gh)(wb:World)(X:Nat->Prop)(T:Option AX->Gh->World->Prop)(s:RS)(G:Gh)(w:World)(a0:Act)(ds:List Deferred):Prop where
 sr:SR n keep G w G w s.st a0
 aA:jI X Gb wb G w
 aE:T s.j G w
 aC:vZ wb G w ds s.q
def AX.ex:AX->Exit
 | .aA=>.normal
 | .aD id=>.exit id
 | .aC=>.ret
def sF (n:Nat)(keep:Nat->Bool)(Gb:Gh)(wb:World)(X:Nat->Prop)(T:Option AX->Gh->World->Prop)(K:AX->RS->Prop)(e:Exit)(a:Act)(w:World):Prop:=
 ∃(x:AX)(s:RS)(G:Gh)(a0:Act)(ds:List Deferred),e=x.ex/\a=wd a0 ds/\nS n keep Gb wb X T s G w a0 ds/\K x s
variable {Gb:Gh} {wb:World} {X:Nat->Prop} {T:Option AX->Gh->World->Prop} {l:Nat} {Y:Yl} {m:Nat}
theorem nS.aD (sd:qX P Gb wb X T l Y){s:RS}{G w a0 ds}(r:nS n keep Gb wb X T s G w a0 ds){G' w' st' a'}(sr:SR n keep G w G' w' st' a'):nS n keep Gb wb X T ⟨s.j,s.q,st'⟩ G' w' a' ds:=
 ⟨⟨sr.aA,sr.aE,sr.aC,sr.L,sr.R,gy.aD _ _⟩,r.aA.aE (sr.aD.x X),sd.aA _ _ _ _ _ r.aE sr.aD,r.aC.aA sr.aD⟩
theorem GU (sd:qX P Gb wb X T l Y){s:RS}{G w a0 ds}(r:nS n keep Gb wb X T s G w a0 ds){K:AX->RS->Prop}{e a1 w1}(h:yF n keep G w (λx E=>K x ⟨s.j,s.q,E⟩) e a1 w1):sF n keep Gb wb X T K e (wd a1 ds) w1:=by
 cases e with
 | normal=>obtain⟨G',E,u,hk⟩:=h;exact⟨.aA,_,G',a1,ds,rfl,rfl,r.aD sd u,hk⟩
 | exit id=>obtain⟨G',E,u,hk⟩:=h;exact⟨.aD id,_,G',a1,ds,rfl,rfl,r.aD sd u,hk⟩
 | ret=>obtain⟨G',E,u,hk⟩:=h;exact⟨.aC,_,G',a1,ds,rfl,rfl,r.aD sd u,hk⟩
 | goto t=>exact h.elim
 | panic c=>exact h.elim
 | outgrown=>exact h.elim
theorem nI (sd:qX P Gb wb X T l Y){c:Code}{rc:RC}(hc:pJ P n keep c=some rc){s:RS}{G w a0 ds}(r:nS n keep Gb wb X T s G w a0 ds){K:AX->RS->Prop}(hk:iQ P l Y rc s K):
  c.wpIn Fence.wide m P (sF n keep Gb wb X T K) (wd a0 ds) w:=by
 simp only[pJ,UN]at hc;obtain⟨ac,I,rfl⟩:=hc;by_cases hq:mi c=true;·rw[Uv hq]at hk;refine wpIn_mono (vG (m:=m) tL ds c ac I r.sr hk) ?_;rintro e _ w1 ⟨a1,rfl,hp⟩;exact GU sd r hp
 ·rw[Uw hq]at hk;obtain⟨M,hk⟩:=hk;have O:ds=[]:=by
   rcases r.aC with h | ⟨h,-⟩;·exact h
   ·rw[M]at h;cases h
  subst O;rw[pT r.sr.aC];refine wpIn_wide.2 (wp_mono (xR c ac I r.sr hk) ?_);intro e a1 w1 hp;have:=GU sd r hp;have hd:a1.defers=[]:=by
   cases e with
   | normal=>obtain⟨G',E,u,-⟩:=hp;exact u.aC
   | exit id=>obtain⟨G',E,u,-⟩:=hp;exact u.aC
   | ret=>obtain⟨G',E,u,-⟩:=hp;exact u.aC
   | goto t=>exact hp.elim
   | panic c=>exact hp.elim
   | outgrown=>exact hp.elim
  rwa [pT hd]at this
theorem SR.aH {G0 w0 G w st a G' w' h'}(sr:SR n keep G0 w0 G w st a)(k:ib G w G' w')(g:fO G' w' h'):SR n keep G' w' G' w' {st with h:=h'} a:=
 ⟨g,sr.aE,sr.aC,λs hk=>(sr.L s hk).aA k,λs hk=>(sr.R s hk).aA k,gy.aD _ _⟩
theorem Kg {o:Oper}(ho:Ck o=true){x:fB}{az:List fB}(h:lJ P (cd keep) o=some (.aD x az)):
  ∃(y:Operand)(args:Array Operand),x=cd keep y/\az=args.toList.map (cd keep)/\∀(a:Act)(w:World)(l:Nat),a.eval y=.func (.yield l) #[] #[]->(execOp a.eval o).run P w=(Instr.yield l (args.map a.eval)).run P w:=by
 unfold lJ at h;split at h;·cases h
 ·split at h;·cases h
  ·split at h;·cases h
   ·rename_i y args tys hne u;cases h;refine⟨y,args,rfl,rfl,λa w l hy=>?_⟩;obtain⟨dst,op,type,pos,after,guard⟩:=o;have e:op=_:=u;subst e;simp[execOp,resolve,hy,Deferred.ofValue,invoke]
   ·cases h
theorem Su (sd:qX P Gb wb X T l Y){ops:Array Oper}{s:RS}(hq:s.q=false)(hj:s.j=none){K:AX->RS->Prop}:
  ∀(lo:List Oper){pre d x az post} (_:vE P n keep ops lo=some (pre,d,x,az,post)) {st:St} {G w a0} (_:nS n keep Gb wb X T ⟨s.j,s.q,st⟩ G w a0 [])
   (_:gU P pre st λs1=>s1.aA x=.aN (.func (.yield l) #[] #[]) /\
    Y (az.map s1.aA) s1.h λj h'=>gU P post {s1.aC d (.aE j.isNone) with h:=h'} λs2=>K .aA ⟨j,false,{s2 with R:=[]}⟩),
   wpListIn Fence.wide m P ops (sF n keep Gb wb X T K) lo (wd a0 []) w:=by
 intro lo;induction lo with
 | nil=>intro pre d x az post h;simp[vE]at h
 | cons o r ih=>
  intro pre d x az post h st G w a0 rs hk;simp only[vE]at h;split at h
  ·rename_i aa;split at h
   ·rename_i x' ae ab;split at h
    ·rename_i d' M ac hd O;cases h;simp only[gU]at hk;obtain⟨hx,hk⟩:=hk;obtain⟨y,args,rfl,rfl,Z⟩:=Kg aa ab;unfold wpListIn;rw[Uv (by simp[Region.wanted,ac])];have W:=rs.sr.aF y;have a6:st.aA (cd keep y)=.aN (.func (.yield l) #[] #[]):=hx;rw[a6]at W;generalize hv:a0.eval y=fv at W;cases W;have a7:VL G w ((args.toList.map (cd keep)).map st.aA) (args.map a0.eval):=
      ⟨by simp,λj c v hc a8=>VL.aA rs.sr.aF args.toList j c v (by simpa using hc) (by simpa using a8)⟩
     have E:=rs.aE;simp only[hj]at E;obtain⟨fn,tmps,assign,body,hy,hr⟩:=sd.aC (m-1) _ _ _ G w _ hk rs.sr.aA a7 E rs.aA;refine⟨λf _=>UF,?_⟩;rw[rZ,oW ((Z a0 w l hv).trans hy) (by simp),Oper.uponIn_round];refine⟨λh=>(by cases h),RoundIn.mono hr ?_⟩;rintro e w' ⟨j,h',G',rfl,hR,hg,a4,hT⟩;show wpListIn Fence.wide m P ops _ r ((wd a0 []).put o.dst (.bool j.isNone)) w';rw[nM];have a3:=(rs.sr.aH a4.aA hg).aG hd hg (gy.aD G' w') (.aF j.isNone);have e1:({({st with h:=h'}:St).aC d (.aE j.isNone) with h:=h'}:St)={st.aC d (.aE j.isNone) with h:=h'}:=by cases d<;>rfl
     rw[e1]at a3;have:=xQ (m:=m) (ops:=ops) (Q:=sF n keep Gb wb X T K) (r:=[]) tL [] (n:=n) (keep:=keep) (G0:=G') (w0:=w') (k:=λs2=>K .aA ⟨j,false,{s2 with R:=[]}⟩) ?_ r post a3 O hR;·rwa [Vo]at this
     ·intro G2 w2 a5 a2 u a1;refine⟨.aA,_,G2,a2,[],rfl,rfl,⟨⟨u.aA,u.aE,u.aC,u.L,λ_ _=>.aI _,gy.aD _ _⟩,(rs.aA.aE a4).aE (u.aD.x X),sd.aA _ _ _ _ _ hT u.aD,.inl rfl⟩,a1⟩
    ·cases h
   ·cases h
  ·split at h
   ·rename_i ao I d' x' ae M ad a9;cases h;have:gU P [ao] st (λU=>gU P I U λs1=>s1.aA x=.aN (.func (.yield l) #[] #[]) /\
      Y (az.map s1.aA) s1.h λj h'=>gU P post {s1.aC d (.aE j.isNone) with h:=h'} λs2=>K .aA ⟨j,false,{s2 with R:=[]}⟩):=hk
    have h1:=xQ (m:=m) (ops:=ops) (Q:=sF n keep Gb wb X T K) (r:=r) tL [] (n:=n) (keep:=keep) (G0:=G) (w0:=w) (k:=λU=>gU P I U λs1=>s1.aA x=.aN (.func (.yield l) #[] #[]) /\
      Y (az.map s1.aA) s1.h λj h'=>gU P post {s1.aC d (.aE j.isNone) with h:=h'} λs2=>K .aA ⟨j,false,{s2 with R:=[]}⟩) ?_ [o] [ao] rs.sr (by simp only[qi,ad]) this
    ·exact h1
    ·intro G2 w2 a5 a2 u a1;exact ih a9 (rs.aD sd u) a1
   ·cases h
theorem Hs (sd:qX P Gb wb X T l Y){it:Bool}:∀(c:Code)(rc:RC),mg P n keep it c=some rc->∀{K:AX->RS->Prop}{s:RS}{G w a0 ds},nS n keep Gb wb X T s G w a0 ds->iQ P l Y rc s K->
  c.wpIn Fence.wide m P (sF n keep Gb wb X T K) (wd a0 ds) w:=by
 intro c;induction c with
 | skip=>intro rc hc K s G w a0 ds r hk;exact nI sd hc r hk
 | ret=>intro rc hc K s G w a0 ds r hk;exact nI sd hc r hk
 | exit id=>intro rc hc K s G w a0 ds r hk;exact nI sd hc r hk
 | label id=>intro rc hc K s G w a0 ds r hk;exact nI sd hc r hk
 | goto id=>intro rc hc K s G w a0 ds r hk;exact nI sd hc r hk
 | refuse id=>intro rc hc K s G w a0 ds r hk;exact nI sd hc r hk
 | scope b ih=>
  intro rc hc K s G w a0 ds r hk;simp only[mg]at hc;split at hc;·cases hc
  ·exact nI sd hc r hk
 | region id ops U=>
  intro rc hc K s G w a0 ds r hk;simp only[mg]at hc;split at hc
  ·rename_i hh;simp only[UN]at hc;obtain⟨⟨pre,d,x,az,post⟩,a4,rfl⟩:=hc;have a7:U=false:=by
    cases U with
    | false=>rfl
    | true=>simp[mG]at hh
   subst a7;obtain⟨hq,hj,hk⟩:=hk;have a3:ds=[]:=by
    rcases r.aC with h | ⟨h,-⟩;·exact h
    ·rw[hq]at h;cases h
   subst a3;refine wpIn_region_list ?_;exact Su sd hq hj ops.toList a4 r hk
  ·exact nI sd hc r hk
 | seq x y ihx ihy=>
  intro rc hc K s G w a0 ds r hk;simp only[mg]at hc;split at hc
  ·split at hc
   ·rename_i ax ay hx hy;cases hc;refine wpIn_seq (wpIn_mono (ihx ax hx r hk) ?_);rintro e _ w' ⟨z,s',G',a1,E,rfl,rfl,r',u⟩;cases z with
    | aA=>exact ihy ay hy r' u
    | aD id=>exact⟨_,s',G',a1,E,rfl,rfl,r',u⟩
    | aC=>exact⟨_,s',G',a1,E,rfl,rfl,r',u⟩
   ·cases hc
  ·exact nI sd hc r hk
 | cond x y z ihy ihz=>
  intro rc hc K s G w a0 ds r hk;simp only[mg]at hc;split at hc
  ·split at hc
   ·rename_i ay az hy hz;cases hc;simp only[iQ]at hk;split at hk
    ·rename_i t ht;have hv:=r.sr.aF x;rw[ht]at hv;generalize he:a0.eval x=v at hv;cases hv;refine wpIn_cond_split (by rw[rZ];exact he) (λe=>?_) (λe=>?_);·exact ihy ay hy r (hk.1 e)
     ·exact ihz az hz r (hk.2 e)
    ·exact hk.elim
   ·cases hc
  ·exact nI sd hc r hk
 | block id b ih=>
  intro rc hc K s G w a0 ds r hk;simp only[mg]at hc;split at hc
  ·simp only[UN]at hc;obtain⟨ab,hb,rfl⟩:=hc;refine wpIn_block (wpIn_mono (ih ab hb r hk) ?_);rintro e _ w' ⟨z,s',G',a1,E,rfl,rfl,r',u⟩;cases z with
   | aA=>exact⟨.aA,s',G',a1,E,rfl,rfl,r',u⟩
   | aD id'=>
    simp only at u;simp only[AX.ex,Exit.inBlock];split<;>rename_i h;·rw[Uv h]at u;exact⟨.aA,s',G',a1,E,rfl,rfl,r',u⟩
    ·rw[Uw h]at u;exact⟨.aD id',s',G',a1,E,rfl,rfl,r',u⟩
   | aC=>exact⟨.aC,s',G',a1,E,rfl,rfl,r',u⟩
  ·exact nI sd hc r hk
 | loop b ih=>
  intro rc hc K s G w a0 ds r hk;simp only[mg]at hc;split at hc
  ·simp only[UN]at hc;obtain⟨ab,hb,rfl⟩:=hc;obtain⟨I,⟨k,s0,a2,h0⟩,O⟩:=hk;obtain⟨G',M⟩:=a2 n keep G w G w a0 r.sr;refine wpIn_loop_ghost (λk a w=>∃s G a0 ds,a=wd a0 ds/\nS n keep Gb wb X T s G w a0 ds/\I k s) k ⟨_,G',a0,ds,rfl,r.aD sd M,h0⟩ ?_;rintro k _ w ⟨s,G,a0,ds,rfl,r,hI⟩;refine wpIn_mono (ih ab hb r (O k s hI)) ?_;rintro e _ w' ⟨z,s',G',a1,E,rfl,rfl,r',u⟩;cases z with
   | aA=>obtain⟨m',s0,hlt,a2,ac⟩:=u;obtain⟨ad,Z⟩:=a2 n keep G' w' G' w' a1 r'.sr;exact⟨m',hlt,_,ad,a1,E,rfl,r'.aD sd Z,ac⟩
   | aD id=>exact⟨.aD id,s',G',a1,E,rfl,rfl,r',u⟩
   | aC=>exact⟨.aC,s',G',a1,E,rfl,rfl,r',u⟩
  ·exact nI sd hc r hk
 | rangeFunc g ps x y _ _=>
  intro rc hc K s G w a0 ds r hk;simp only[mg]at hc;split at hc
  ·rename_i hh;simp only[US,VQ,Vb]at hh;split at hc
   ·rename_i aa ab a9 a8;cases hc;obtain⟨hq,gf,cs,Kn,Ks,hg,hf,a6,hn,hs⟩:=hk;have a3:ds=[]:=by
     rcases r.aC with h | ⟨h,-⟩;·exact h
     ·rw[hq]at h;cases h
    subst a3;refine wpIn_mono (PW hh.2 hh.1.1 hh.1.2 a9 a8 r.sr [] hg hf a6 (K:=λx W=>K x ⟨s.j,true,W⟩) hn hs m) ?_;rintro e _ w' ⟨a1,D,z,G',W,rfl,fD,hD,a5,M,u,he⟩;refine⟨z,⟨s.j,true,W⟩,G',a1,[tJ D],?_,rfl,⟨⟨M.aA,M.aE,M.aC,M.L,M.R,gy.aD _ _⟩,r.aA.aE (M.aD.x X),sd.aA _ _ _ _ _ r.aE M.aD,.inr ⟨rfl,D,rfl,fD,hD,UH r.aA.aC a5⟩⟩,u⟩;cases z<;>exact he
   ·cases hc
  ·cases hc
end
structure qU where
 n:Nat
 aD:Nat->Bool
 aA:RC
 aC:List kh
def sX (P:Program)(keep:Nat->Bool)(it:Bool)(f:FuncId):Option qU:=
 match P.funcs[f]? with
 | some fn=>match fn.body with
  | some c=>match mg P fn.ntmps keep it c,oK P keep fn.results.toList with
   | some ac,some res=>some ⟨fn.ntmps,keep,ac,res⟩
   | _,_=>none
  | none=>none
 | none=>none
def vX (P:Program)(it:Bool)(f:FuncId)(c:qU):Prop:=fP P f=true/\sX P c.aD it f=some c
section
variable {n:Nat} {keep:Nat->Bool} {P:Program}
theorem jI.aL {X X':Nat->Prop}{G w G1 w1 G2 w2}(a:jI X G w G1 w1)(b:jI X' G1 w1 G2 w2)(h:∀b,X' b->w.heap.size<=b):jI X G w G2 w2 where
 aA:=a.aA.aG b.aA
 S:=⟨λx h=>b.S.1 x (a.S.1 x h),λx h=>(b.S.2 x h).elim (a.S.2 x) (λh=>.inr (UH a.aC h))⟩
 aG n h:=by rw[b.aG n (UM h a.aA.N),a.aG n h]
 aH n h:=(b.aH n (UM h a.aA.N)).trans (a.aH n h)
 aC:=UH a.aC b.aC
 aF x hx hn hX:=by
  rw[b.aF x (UM hx a.aC) ?_ (λe=>by have:=h x e;omega),a.aF x hx hn hX];intro ho;rcases a.aD x ho with h | h;·exact hn h
  ·omega
 aD x hx:=by
  rcases b.aD x hx with h | h;·exact a.aD x h
  ·exact .inr (UH a.aC h)
 aI:=a.aI.aC b.aI
theorem xj {vs:Array Value}{G:Gh}{w:World}{h:eW}{u:List AV}(hg:fO G w h)(hv:VL G w u vs)(hn:u.length<=n):
  SR n keep G w G w (n6 keep u h) {tmps:=vs++Array.replicate (n-vs.size) undef,defers:=[]}:=by
 have hle:vs.size<=n:=by rw[<-hv.1];exact hn
 have I:∀(p:Nat->Bool)(s:Nat),V G w (lk s (nG p 0 u)) ((vs++Array.replicate (n-vs.size) undef).getD s undef):=by
  intro p s;rcases F8 p u 0 s with e | ⟨_,e⟩;·rw[e];exact .aI _
  ·simp only[Nat.sub_zero]at e;obtain⟨v,E,hV⟩:=hv.aC e;have hlt:=(VA.1 E).1;have:(vs++Array.replicate (n-vs.size) undef).getD s undef=v:=by simp[Wm,hlt];have:=E;simp[hlt]at this;exact this
   rw[this];exact hV
 exact⟨hg,by simp;omega,rfl,λs _=>I keep s,λs _=>I _ s,gy.aD G w⟩
def za (res:List kh)(K:AV->eW->Prop)(x:AX)(s:RS):Prop:=i_ res K x s.st
theorem QX {f:FuncId}{fn:qU}(hf:sX P keep false f=some fn){I:List AV}(hn:I.length<=fn.n){h:eW}{K:AV->eW->Prop}
  (hk:iQ P 0 (λ_ _ _=>False) fn.aA ⟨none,false,n6 keep I h⟩ (za fn.aC K)):fC P f I h K:=by
 unfold sX at hf;split at hf
 ·rename_i fd U;split at hf
  ·rename_i c hc;split at hf
   ·rename_i ac res W E;cases hf;intro G w vs hg hv;refine (callsIn_wide (n:=0)).1 (callsIn_of_wp_marks U hc UF ?_);have sd:qX P G w (λ_=>False) (λ_ _ _=>True) 0 (λ_ _ _=>False):=⟨λ_ _ _ _ _ _ _=>UF,λ_ _ _ _ _ _ _ h=>h.elim⟩;have r0:nS fd.ntmps keep G w (λ_=>False) (λ_ _ _=>True) ⟨none,false,n6 keep I h⟩ G w {tmps:=vs++Array.replicate (fd.ntmps-vs.size) undef,defers:=[]} []:=
     ⟨xj hg hv hn,jI.aK _ _ _,UF,.inl rfl⟩
    have hw:=Hs (m:=0) sd c ac W r0 hk;rw[pT rfl]at hw;refine wpIn_mono hw ?_;rintro e _ w' ⟨z,s,G',a0,ds,rfl,rfl,r,hK⟩;have fin:i_ res K .aC s.st->LeavesInM Fence.wide 0 P fd (wd a0 ds).tmps (λe w'=>∃v r h' G',e=.returned v/\K r h'/\fO G' w' h'/\V G' w' r v/\gy G w G' w') ds .returning w':=by
     intro hK;simp only[i_]at hK;split at hK
     ·rename_i l hl;rcases r.aC with rfl | ⟨-,D,rfl,fD,hD,O⟩;·obtain⟨v,u,hV⟩:=tR (P:=P) r.sr E hl;exact⟨v,u,v,_,_,G',rfl,hK,r.sr.aA,hV,r.aA.aJ (λ_ h=>h.elim)⟩
      ·obtain⟨g2,s2⟩:=fO.aU r.sr.aA (o':=.deferred none) fD hD rfl rfl;have M:SR fd.ntmps keep G' _ G' _ s.st a0:=r.sr.aH s2.aA g2;obtain⟨v,u,hV⟩:=tR (P:=P) M E hl;refine⟨by simp,.inl ⟨D,_,rfl,run_takeDeferred hD,v,u,v,_,_,G',rfl,hK,g2,hV,(r.aA.aL s2 (λb hb=>hb▸O)).aJ (λ_ h=>h.elim)⟩⟩
     ·exact hK.elim
    cases z with
    | aA=>exact fin hK
    | aC=>exact fin hK
    | aD id=>exact hK.elim
   ·cases hf
  ·cases hf
 ·cases hf
def rb (Kn:eW->Prop)(Ks:AX->eW->Prop):AX->RS->Prop
 | .aD _,_=>False
 | _,s=>s.q=false/\match s.j with
  | none=>Kn s.st.h
  | some x=>Ks x s.st.h
theorem Q4 {f:FuncId}{fn:qU}(hf:sX P keep true f=some fn) (hr:fn.aC=[]) {cs:List AV} (hn:cs.length+1<=fn.n) {h:eW} {Y:Yl} {Kn:eW->Prop} {Ks:AX->eW->Prop}
  (hk:∀l,iQ P l Y fn.aA ⟨none,false,n6 keep (.aN (.func (.yield l) #[] #[]) :: cs) h⟩ (rb Kn Ks)):tZ P f cs h Y Kn Ks:=by
 unfold sX at hf;split at hf
 ·rename_i fd Z;split at hf
  ·rename_i c hc;split at hf
   ·rename_i ac res a2 M;cases hf;subst hr;intro m l E dn G w vs hy hg hv fl hl;refine callsIn_of_wp_marks Z hc UF ?_;have sd:qX P G w (λb=>b=l) (λj G w=>nh G w l/\w.heap[l]?=some (match j with | none=>E | some x=>dn x)) l Y:=by refine⟨λj G w G' w' h s=>⟨h.1.x (s.x (λ_=>False)),(s.aE l h.1.1 h.1.2.1).trans h.2⟩,λm a3 h R G' w' O hY g v t s=>?_⟩;obtain⟨fn,tmps,az,bd,h1,h2⟩:=hy m a3 h R hY G' w' O g v t.1 t.2 s;refine⟨fn,tmps,az,bd,h1,RoundIn.mono h2 ?_⟩;rintro e w2 ⟨j,h',G2,he,hR,g2,s2,W⟩;exact⟨j,h',G2,he,hR,g2,s2,t.1.x s2,W⟩
    have U:VL G w (.aN (.func (.yield l) #[] #[]) :: cs) (#[.func (.yield l) #[] #[]]++vs):=VL.aE (cs:=[.aN (.func (.yield l) #[] #[])]) (vs:=#[.func (.yield l) #[] #[]]) ⟨rfl,λj c v h1 h2=>by
      cases j with
      | zero=>simp at h1 h2;subst h1;subst h2;exact .aP _
      | succ j=>simp at h1⟩ hv
    have r0:nS fd.ntmps keep G w (λb=>b=l) (λj G w=>nh G w l/\w.heap[l]?=some (match j with | none=>E | some x=>dn x)) ⟨none,false,n6 keep (.aN (.func (.yield l) #[] #[]) :: cs) h⟩ G w
      {tmps:=(#[.func (.yield l) #[] #[]]++vs)++Array.replicate (fd.ntmps-(#[Value.func (.yield l) #[] #[]]++vs).size) undef,defers:=[]} []:=
     ⟨xj hg U (by simpa using hn),jI.aK _ _ _,⟨fl,hl⟩,.inl rfl⟩
    have hw:=Hs (m:=m) sd c ac a2 r0 (hk l);rw[pT rfl]at hw;refine wpIn_mono hw ?_;rintro e _ w' ⟨z,s,G',a0,ds,rfl,rfl,r,hK⟩;have fin:rb Kn Ks .aC s->LeavesInM Fence.wide m P fd (wd a0 ds).tmps (λe w'=>(∃v,e=.returned v)/\∃(h':eW)(G':Gh),fO G' w' h'/\jI (λb=>b=l) G w G' w' /\
       ((w'.heap[l]?=some E/\Kn h')\/∃x,w'.heap[l]?=some (dn x)/\Ks x h')) ds .returning w':=by
     rintro⟨hq,hK⟩;have a1:ds=[]:=by
      rcases r.aC with h | ⟨h,-⟩;·exact h
      ·rw[hq]at h;cases h
     subst a1;obtain⟨v,I,-⟩:=tR (P:=P) r.sr M (l:=[]) rfl;refine⟨v,I,⟨v,rfl⟩,s.st.h,G',r.sr.aA,r.aA,?_⟩;have u:=r.aE;cases hj:s.j with
     | none=>rw[hj]at u hK;exact .inl ⟨u.2,hK⟩
     | some x=>rw[hj]at u hK;exact .inr ⟨x,u.2,hK⟩
    cases z with
    | aA=>exact fin hK
    | aC=>exact fin hK
    | aD id=>exact hK.elim
   ·cases hf
  ·cases hf
 ·cases hf
end
section
variable {P:Program} {l:Nat} {Y:Yl}
def kR (j:Option AX)(q:Bool)(K:AX->RS->Prop):AX->St->Prop:=λx st=>K x ⟨j,q,st⟩
def xD (P:Program)(l:Nat)(Y:Yl)(b:RC)(K:AX->RS->Prop):AX->RS->Prop
 | .aA,s=>iQ P l Y b s K
 | .aD id,s=>K (.aD id) s
 | .aC,s=>K .aC s
def xC (id:Nat)(K:AX->RS->Prop):AX->RS->Prop
 | .aA,s=>K .aA s
 | .aD id',s=>if id'=id then K .aA s else K (.aD id') s
 | .aC,s=>K .aC s
def Cz (P:Program)(l:Nat)(Y:Yl)(v:AV)(a b:RC)(s:RS)(K:AX->RS->Prop):Prop:=
 match v with
 | .aE t=>(t=true->iQ P l Y a s K)/\(t=false->iQ P l Y b s K)
 | _=>False
def vq (I:Nat->fV->eW->Prop)(m:Nat)(K:AX->RS->Prop):AX->RS->Prop
 | .aA,s=>∃m',m'<m/\s.j=none/\s.q=false/\s.st.R=[]/\I m' s.st.L s.st.h
 | .aD id,s=>K (.aD id) s
 | .aC,s=>K .aC s
def rY (P:Program)(l:Nat)(Y:Yl)(d:jP)(x:fB)(az:List fB)(post:List AO)(K:AX->RS->Prop):St->Prop:=λs1=>s1.aA x=.aN (.func (.yield l) #[] #[])/\Y (az.map s1.aA) s1.h λj h'=>gU P post {s1.aC d (.aE j.isNone) with h:=h'} (xn (kR j false K))
theorem Ny (j:Option AX)(q:Bool)(K:AX->RS->Prop)(x:AX)(st:St):kR j q K x st=K x ⟨j,q,st⟩:=UE rfl rfl
theorem RA (a:AC)(j:Option AX)(q:Bool)(st:St)(K:AX->RS->Prop):iQ P l Y (.aC a) ⟨j,q,st⟩ K=vc P a st (kR j q K):=UE rfl rfl
theorem RF (a:AC)(j:Option AX)(st:St)(K:AX->RS->Prop):iQ P l Y (.aF a) ⟨j,false,st⟩ K=vc P a st (kR j false K):=by show (false=false/\vc P a st (kR j false K))=_;simp only[true_and]
theorem RI (a b:RC)(s:RS)(K:AX->RS->Prop):iQ P l Y (.aH a b) s K=iQ P l Y a s (xD P l Y b K):=by simp only[iQ];congr 1;funext x st';cases x<;>rfl
theorem Rz (id:Nat)(b:RC)(s:RS)(K:AX->RS->Prop):iQ P l Y (.aA id b) s K=iQ P l Y b s (xC id K):=by simp only[iQ];congr 1;funext x st';cases x<;>rfl
theorem RB (c:fB)(a b:RC)(j:Option AX)(q:Bool)(st:St)(K:AX->RS->Prop):iQ P l Y (.aD c a b) ⟨j,q,st⟩ K=Cz P l Y (st.aA c) a b ⟨j,q,st⟩ K:=by
 show (match st.aA c with
  | .aE t=>(t=true->iQ P l Y a ⟨j,q,st⟩ K)/\(t=false->iQ P l Y b ⟨j,q,st⟩ K)
  | _=>False)=Cz P l Y (st.aA c) a b ⟨j,q,st⟩ K
 unfold Cz;generalize st.aA c=v;cases v<;>rfl
theorem PR (b:RC)(K:AX->RS->Prop)(s:RS):xD P l Y b K .aA s=iQ P l Y b s K:=UE rfl rfl
theorem PQ (b:RC)(K:AX->RS->Prop)(id:Nat)(s:RS):xD P l Y b K (.aD id) s=K (.aD id) s:=UE rfl rfl
theorem PS (b:RC)(K:AX->RS->Prop)(s:RS):xD P l Y b K .aC s=K .aC s:=UE rfl rfl
theorem PG (id:Nat)(K:AX->RS->Prop)(s:RS):xC id K .aA s=K .aA s:=UE rfl rfl
theorem PF (id e:Nat)(K:AX->RS->Prop)(s:RS):xC id K (.aD e) s=if e=id then K .aA s else K (.aD e) s:=UE rfl rfl
theorem PH (id:Nat)(K:AX->RS->Prop)(s:RS):xC id K .aC s=K .aC s:=UE rfl rfl
theorem PN (I:Nat->fV->eW->Prop)(m:Nat)(K:AX->RS->Prop)(L:fV)(h:eW):vq I m K .aA ⟨none,false,⟨L,[],h⟩⟩=∃m',m'<m/\I m' L h:=by simp[vq]
theorem PM (I:Nat->fV->eW->Prop)(m:Nat)(K:AX->RS->Prop)(id:Nat)(s:RS):vq I m K (.aD id) s=K (.aD id) s:=UE rfl rfl
theorem PO (I:Nat->fV->eW->Prop)(m:Nat)(K:AX->RS->Prop)(s:RS):vq I m K .aC s=K .aC s:=UE rfl rfl
theorem RJ (pre:List AO)(d:jP)(x:fB)(az:List fB)(post:List AO)(st:St)(K:AX->RS->Prop):
  iQ P l Y (.aI pre d x az post) ⟨none,false,st⟩ K=gU P pre st (rY P l Y d x az post K):=by
 simp only[iQ,true_and];rfl
theorem PT (d:jP)(x:fB)(az:List fB)(post:List AO)(K:AX->RS->Prop)(s1:St):rY P l Y d x az post K s1 =
  (s1.aA x=.aN (.func (.yield l) #[] #[])/\Y (az.map s1.aA) s1.h λj h'=>gU P post {s1.aC d (.aE j.isNone) with h:=h'} (xn (kR j false K))):=UE rfl rfl
theorem JL (res:List kh)(K:AV->eW->Prop)(x:AX)(j:Option AX)(q:Bool)(st:St):za res K x ⟨j,q,st⟩=i_ res K x st:=UE rfl rfl
theorem RE:∀(c:RC){s:RS}{K K':AX->RS->Prop},(∀x s,K x s->K' x s)->(∀u h (R R':Option AX->eW->Prop),(∀j h,R j h->R' j h)->Y u h R->Y u h R')->iQ P l Y c s K->iQ P l Y c s K':=by
 intro c;induction c with
 | aC a=>intro s K K' hk hY h;exact oY a (λx st=>hk _ _) h
 | aF a=>intro s K K' hk hY h;exact⟨h.1,oY a (λx st=>hk _ _) h.2⟩
 | aH a b iha ihb=>
  intro s K K' hk hY h;refine iha ?_ hY h;intro x s' hs;cases x with
  | aA=>exact ihb hk hY hs
  | aD id=>exact hk _ _ hs
  | aC=>exact hk _ _ hs
 | aD c a b iha ihb=>
  intro s K K' hk hY h;simp only[iQ]at h ⊢;split;·rename_i t ht;rw[ht]at h;exact⟨λe=>iha hk hY (h.1 e),λe=>ihb hk hY (h.2 e)⟩
  ·rename_i E;split at h;·rename_i t ht;exact absurd ht (E t)
   ·exact h
 | aA id b ih=>
  intro s K K' hk hY h;refine ih ?_ hY h;intro x s' hs;cases x with
  | aA=>exact hk _ _ hs
  | aD id'=>
   simp only at hs ⊢;split at hs;·rename_i e;rw[Uv e];exact hk _ _ hs
   ·rename_i e;rw[Uw e];exact hk _ _ hs
  | aC=>exact hk _ _ hs
 | aE b ih=>
  rintro s K K' hk hY ⟨I,h0,hI⟩;refine⟨I,h0,λm s hs=>ih ?_ hY (hI m s hs)⟩;intro x s' hs;cases x with
  | aA=>exact hs
  | aD id=>exact hk _ _ hs
  | aC=>exact hk _ _ hs
 | aI pre d x az post=>rintro s K K' hk hY ⟨h1,h2,h⟩;refine⟨h1,h2,CU pre ?_ h⟩;rintro s1 ⟨hx,hy⟩;refine⟨hx,hY _ _ _ _ (λj h' hv=>CU post (λs2 hs=>hk _ _ hs) hv) hy⟩
 | aG g ps aa ab=>rintro s K K' hk hY ⟨h1,gf,cs,Kn,Ks,h2,h3,h4,h5,h6⟩;exact⟨h1,gf,cs,Kn,Ks,h2,h3,h4,λh' hn=>hk _ _ (h5 h' hn),λx h' hs=>⟨(h6 x h' hs).1,hk _ _ (h6 x h' hs).2⟩⟩
theorem RD (hY:∀e h (R R':Option AX->eW->Prop),(∀j h,R j h->R' j h)->Y e h R->Y e h R')(I:Nat->fV->eW->Prop)(m:Nat){b:RC}{L:fV}{h:eW}{K:AX->RS->Prop}(h0:I m L h)
  (step:∀m L h,I m L h->iQ P l Y b ⟨none,false,⟨L,[],h⟩⟩ (vq I m K)):iQ P l Y (.aE b) ⟨none,false,⟨L,[],h⟩⟩ K:=by
 refine⟨λm s=>s.j=none/\s.q=false/\s.st.R=[]/\I m s.st.L s.st.h,⟨m,_,Wk.aA _,rfl,rfl,rfl,h0⟩,λm s hI=>?_⟩;obtain⟨j,q,L,R,h⟩:=s;obtain⟨h1,h2,h3,hI⟩:=hI;simp only at h1 h2 h3 hI;subst h1;subst h2;subst h3;refine RE b ?_ hY (step m L h hI);intro x s hs;cases x with
 | aA=>obtain⟨m',h1,h2,h3,h4,h5⟩:=hs;exact⟨m',s.st,h1,Wk.aA _,h2,h3,h4,h5⟩
 | aD id=>exact hs
 | aC=>exact hs
theorem J7 (aa ab:AC)(ps:List Nat)(L:fV):∀e h (R R':Option AX->eW->Prop),(∀j h,R j h->R' j h)->pE P aa ab ps L e h R->pE P aa ab ps L e h R':=by rintro e h R R' hR ⟨h1,h2⟩;refine⟨h1,oY aa ?_ h2⟩;rintro x s ⟨hx,hb⟩;exact⟨hx,oY ab (λx s' hs=>hR _ _ hs) hb⟩
def kY (R:Option AX->eW->Prop):AX->St->Prop
 | .aA,s=>R none s.h
 | .aD id,s=>R (some (.aD id)) s.h
 | .aC,s=>R (some .aC) s.h
def kA (P:Program)(ab:AC)(R:Option AX->eW->Prop):AX->St->Prop
 | .aA,s=>vc P ab s (kY R)
 | _,_=>False
theorem J6 (aa ab:AC)(ps:List Nat)(L:fV)(e:List AV)(h:eW)(R:Option AX->eW->Prop)(hl:e.length=ps.length):pE P aa ab ps L e h R=vc P aa ⟨rG (ps.zip e) L,[],h⟩ (kA P ab R):=by
 unfold pE;rw[eq_iff_iff];constructor;·rintro⟨_,h⟩;refine oY aa ?_ h;rintro x s ⟨rfl,hb⟩;refine oY ab ?_ hb;intro x s' hs;cases x<;>exact hs
 ·intro h;refine⟨hl,oY aa ?_ h⟩;intro x s hb;cases x with
  | aA=>refine⟨rfl,oY ab ?_ hb⟩;intro x s' hs;cases x<;>exact hs
  | aD id=>exact hb.elim
  | aC=>exact hb.elim
theorem Nf (ab:AC)(R:Option AX->eW->Prop)(s:St):kA P ab R .aA s=vc P ab s (kY R):=UE rfl rfl
theorem NF (R:Option AX->eW->Prop)(s:St):kY R .aA s=R none s.h:=UE rfl rfl
theorem ND (R:Option AX->eW->Prop)(id:Nat)(s:St):kY R (.aD id) s=R (some (.aD id)) s.h:=UE rfl rfl
theorem NG (R:Option AX->eW->Prop)(s:St):kY R .aC s=R (some .aC) s.h:=UE rfl rfl
theorem RG {g:fB}{ps:List Nat}{aa ab:AC}{j:Option AX}{L R:fV}{h:eW}{K:AX->RS->Prop}{gf:FuncId}{cs:List AV}{Kn:eW->Prop}{Ks:AX->eW->Prop}
  (hg:St.aA ⟨L,R,h⟩ g=.aL gf [] cs) (hf:fP P gf=true) (e:tZ P gf cs h (pE P aa ab ps L) Kn Ks) (hn:∀h',Kn h'->K .aA ⟨j,true,⟨L,[],h'⟩⟩) (hs:∀x h',Ks x h'->x≠.aA/\K x ⟨j,true,⟨L,[],h'⟩⟩):
  iQ P l Y (.aG g ps aa ab) ⟨j,false,⟨L,R,h⟩⟩ K:=
 ⟨rfl,gf,cs,Kn,Ks,hg,hf,e,hn,hs⟩
attribute [go_sem] Ny RA RF RI Rz RB PR PQ PS PG PF PH PN PM PO RJ PT JL Nf NF ND NG
end
end Glb
