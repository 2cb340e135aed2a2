/-
  A library of its own.
-/
import Derived.Test.YtdeiamnhnfmilaaGreatGlbLibC
import Derived.OrdersIn
import Derived.TacticsIn
import Derived.RangeFuncOwn
import Derived.RangeFuncLeaves
set_option linter.unusedSimpArgs false
set_option linter.unusedVariables false
namespace Glb
open Go
structure ki (X:Nat->Prop)(G:Gh)(w:World)(G':Gh)(w':World):Prop where
 aA:iB G w G' w'
 S:(∀b,G.S b->G'.S b)/\∀b,G'.S b->G.S b\/w.heap.size<=b
 aG:∀n,n<G.N->G'.aA n=G.aA n
 aH:∀n,n<G.N->(G'.aE n↔G.aE n)
 aC:w.heap.size<=w'.heap.size
 aF:∀b,b<w.heap.size->¬G.aI b->¬X b->w'.heap[b]?=w.heap[b]?
 aD:∀b,G'.aI b->G.aI b\/w.heap.size<=b
 aI:kL w w'
theorem gP.x {G w G' w'}(s:gP G w G' w')(X:Nat->Prop):ki X G w G' w':=⟨s.aA,s.S,s.aF,s.aJ,s.aC,λb h1 h2 _=>s.aE b h1 h2,s.aG,s.aH⟩
theorem ki.aJ {X:Nat->Prop}{G w G' w'}(s:ki X G w G' w')(hX:∀b,X b->w.heap.size<=b):gP G w G' w':=
 ⟨s.aA,s.S,s.aG,s.aH,s.aC,λb h1 h2=>s.aF b h1 h2 λx=>by have:=hX b x;omega,s.aD,s.aI⟩
theorem ki.aK (X:Nat->Prop)(G w):ki X G w G w:=(gP.aD G w).x X
theorem ki.aE {X:Nat->Prop}{G w G1 w1 G2 w2}(a:ki X G w G1 w1)(b:ki X G1 w1 G2 w2):ki X G w G2 w2 where
 aA:=a.aA.aG b.aA
 S:=⟨λx h=>b.S.1 x (a.S.1 x h),λx h=>(b.S.2 x h).elim (a.S.2 x) (λh=>.inr (Xg a.aC h))⟩
 aG n h:=by rw[b.aG n (Xj h a.aA.N),a.aG n h]
 aH n h:=(b.aH n (Xj h a.aA.N)).trans (a.aH n h)
 aC:=Xg a.aC b.aC
 aF x hx hn hX:=by
  rw[b.aF x (Xj hx a.aC) ?_ hX,a.aF x hx hn hX];intro ho;rcases a.aD x ho with h | h;·exact hn h
  ·omega
 aD x hx:=by
  rcases b.aD x hx with h | h;·exact a.aD x h
  ·exact .inr (Xg a.aC h)
 aI:=a.aI.aC b.aI
def n7 (G:Gh)(w:World)(b:Nat):Prop:=b<w.heap.size/\¬G.aI b/\¬G.S b
theorem n7.x {X:Nat->Prop}{G w G' w' b}(f:n7 G w b)(s:ki X G w G' w'):n7 G' w' b:=
 ⟨Xj f.1 s.aC,λh=>(s.aD b h).elim f.2.1 λh=>by have:=f.1;omega,λh=>(s.S.2 b h).elim f.2.2 λh=>by have:=f.1;omega⟩
theorem JL {w:World}{l:Nat}{o:Obj} (hl:w.heap[l]?=some o) (hc:o.isCells=false):w.shape? l=none:=by
 simp only[World.shape?,hl];cases o with
 | cells _ _ _=>simp[Obj.isCells]at hc
 | _=>rfl
theorem HM {w:World}{a:Addr}{o:Obj} (hl:w.heap[a.block]?=some o) (hc:o.isCells=false):w.frozen? a=false:=by
 simp only[World.frozen?,hl];cases o with
 | cells _ _ _=>simp[Obj.isCells]at hc
 | _=>rfl
theorem UY {w:World}{l b:Nat}{o o':Obj} (hl:w.heap[l]?=some o) (hc:o.isCells=false) (u:o'.isCells=false):(w.putObj l o').shape? b=w.shape? b:=by
 by_cases e:b=l
 ·subst e;rw[JL hl hc,JL (World.putObj_heap_same (Yw.1 hl).1) u]
 ·simp only[World.shape?,World.putObj_heap_other e]
theorem ON {w:World}{l:Nat}{a:Addr}{o o':Obj} (hl:w.heap[l]?=some o) (hc:o.isCells=false) (u:o'.isCells=false):(w.putObj l o').frozen? a=w.frozen? a:=by
 by_cases e:a.block=l
 ·subst e;rw[HM hl hc,HM (World.putObj_heap_same (Yw.1 hl).1) u]
 ·simp only[World.frozen?,World.putObj_heap_other e]
theorem fY.aU {G w h} (g : fY G w h) {l : Nat} {o o' : Obj} (f : n7 G w l) (hl : w.heap[l]? = some o) (hc : o.isCells = false) (u : o'.isCells = false) :
    fY G (w.putObj l o') h /\ ki (λb => b = l) G w G (w.putObj l o') := by
  have hp : ∀ t b, G.aL t b -> b ≠ l := λt b hb e => by
    subst e
    cases t with
    | zero => exact f.2.2 hb
    | succ n => exact f.2.1 (.inr ⟨n, hb⟩)
  have k : iB G w G (w.putObj l o') := ⟨WX _, λ_ _ _ h => h, λ_ _ h => h, λ_ _ h => h, λt b hb => World.putObj_heap_other (hp t b hb), λb _ => UY hl hc u⟩
  have ow : ∀ n b, G.aD n -> G.aA n = some b -> (w.putObj l o').heap[b]? = w.heap[b]? := λn b h1 h2 => World.putObj_heap_other (λe => f.2.1 (.inl ⟨n, h1, e ▸ h2⟩))
  refine ⟨{ aA := g.aA, aD := g.aD, aE := g.aE, inj := g.inj, aF := g.aF, aG := g.aG, aL := g.aL, aM := g.aM,
            aH := λn b hb => by rw [World.putObj_size]; exact g.aH n b hb, aJ := λb hb => by rw [World.putObj_size]; exact g.aJ b hb,
            aC := λn sz es gr b hn hb => (g.aC n sz es gr b hn hb).aA k (ow n b (g.aN hn hb) hb), aI := g.aI, aK := g.aK }, ?_⟩
  exact ⟨k, ⟨λ_ h => h, λ_ h => .inl h⟩, λ_ _ => rfl, λ_ _ => YD, by simp, λb _ _ hX => World.putObj_heap_other hX, λ_ h => .inl h, rfl, rfl, by simp, λa _ => ON hl hc u⟩
theorem fY.bA {G w h} (g : fY G w h) (o : Obj) : fY G (w.alloc o) h /\ gP G w G (w.alloc o) /\ n7 G (w.alloc o) w.heap.size := by
  have k : iB G w G (w.alloc o) := ⟨WX _, λ_ _ _ h => h, λ_ _ h => h, λ_ _ h => h, λt b hb => o_ (g.aQ hb), λb hb => EJ hb⟩;have fz : ∀ a : Addr, a.block < w.heap.size -> (w.alloc o).frozen? a = w.frozen? a := λa ha => by simp only [World.frozen?, o_ ha]
  refine ⟨{ aA := g.aA, aD := g.aD, aE := g.aE, inj := g.inj, aF := g.aF, aG := g.aG, aL := g.aL, aM := g.aM,
            aH := λn b hb => by rw [World.size_alloc]; have := g.aH n b hb; omega, aJ := λb hb => by rw [World.size_alloc]; have := g.aJ b hb; omega,
            aC := λn sz es gr b hn hb => (g.aC n sz es gr b hn hb).aA k (o_ (g.aO (g.aN hn hb) hb)), aI := g.aI, aK := g.aK }, ?_, ?_⟩
  · exact ⟨k, ⟨λ_ h => h, λ_ h => .inl h⟩, λ_ _ => rfl, λ_ _ => YD, by simp, λb hb _ => o_ hb, λ_ h => .inl h, rfl, rfl, by simp, fz⟩
  · exact ⟨ς, λh => by have := g.bM h; omega, λh => by have := g.aJ _ h; omega⟩
def RT (o:Oper):Bool:=match o.op with
 | .defer _=>false
 | _=>true
def mW:Code->Bool
 | .skip=>true
 | .region _ ops d=>!d || ops.toList.all RT
 | .seq a b=>mW a && mW b
 | .cond _ a b=>mW a && mW b
 | .block _ b=>mW b
 | .loop b=>mW b
 | .exit _=>true
 | .ret=>true
 | _=>false
variable {n:Nat} {keep:Nat->Bool} {P:Program}
abbrev Yl:=List AV->fu->(Option AX->fu->Prop)->Prop
def AP (m:Nat)(P:Program)(l:Nat)(rdy:Obj)(dn:AX->Obj)(Y:Yl)(Gb:Gh)(wb:World):Prop:=
 ∀(avs:List AV)(h:fu)(R:Option AX->fu->Prop),Y avs h R->∀(G:Gh)(w:World)(vs:Array Value),fY G w h->VL G w avs vs->n7 G w l->w.heap[l]?=some rdy->ki (λb=>b=l) Gb wb G w->
  YieldAt Fence.wide m P l vs w λe w'=>∃(j:Option AX)(h':fu)(G':Gh),e=.returned (.bool j.isNone)/\R j h'/\fY G' w' h'/\ki (λb=>b=l) G w G' w'/\w'.heap[l]?=some (match j with | none=>rdy | some x=>dn x)
def vC (P:Program)(gf:FuncId)(cs:List AV)(h:fu)(Y:Yl)(Kn:fu->Prop)(Ks:AX->fu->Prop):Prop:=
 ∀(m l:Nat)(rdy:Obj)(dn:AX->Obj)(G:Gh)(w:World)(vs:Array Value),(∀m,AP m P l rdy dn Y G w)->fY G w h->VL G w cs vs->n7 G w l->w.heap[l]?=some rdy->
  CallsIn Fence.wide m P gf (#[.func (.yield l) #[] #[]]++vs) w λe w'=>(∃v,e=.returned v)/\∃(h':fu)(G':Gh),fY G' w' h'/\ki (λb=>b=l) G w G' w' /\
   ((w'.heap[l]?=some rdy/\Kn h')\/∃x,w'.heap[l]?=some (dn x)/\Ks x h')
def uT:AX->Code
 | .aA=>.skip
 | .aD id=>.exit id
 | .aC=>.ret
def uY (D:Nat):Deferred:={target:=.collected D,args:=#[]}
def tq:List (Nat×AV)->gx->gx
 | [],L=>L
 | p :: r,L=>tq r (nT p.1 p.2 L)
theorem HD {G:Gh}{w:World}:∀(ps:List Nat)(u:List AV)(vs:List Value)(L:gx)(t:Array Value),(∀p∈ps,p<n/\keep p=true)->t.size=n->u.length=vs.length->ps.length=vs.length->
  (∀(j:Nat)(c:AV)(v:Value),u[j]?=some c->vs[j]?=some v->V G w c v)->(∀s,keep s=true->V G w (lk s L) (t.getD s undef))->
  ((ps.zip vs).foldl (λt (p:Nat×Value)=>t.setIfInBounds p.1 p.2) t).size=n/\∀s,keep s=true->V G w (lk s (tq (ps.zip u) L)) (((ps.zip vs).foldl (λt (p:Nat×Value)=>t.setIfInBounds p.1 p.2) t).getD s undef)
 | [],u,vs,L,t,_,hs,_,_,_,hL=>⟨by simpa using hs,by simpa [tq] using hL⟩
 | p :: ps,u,vs,L,t,hp,hs,I,E,hV,hL=>by
  cases vs with
  | nil=>simp at E
  | cons v vs=>
   cases u with
   | nil=>simp at I
   | cons a u=>
    have h0:=hp p ς;refine HD ps u vs (nT p a L) (t.setIfInBounds p v) (λq hq=>hp q (XY _ hq)) (by simpa using hs) (by simpa using I) (by simpa using E) (λj c v' h1 h2=>hV (j+1) c v' (by simpa using h1) (by simpa using h2)) λs hk=>?_;have hlt:p<({tmps:=t,defers:=[]}:Act).tmps.size:=by show p<t.size;omega
    have e:=uN (a:={tmps:=t,defers:=[]}) (q:=s) (v:=v) hlt;simp only at e;rw[fE,e];split;·exact hV 0 a v rfl rfl
    ·exact hL s hk
def qz (P:Program)(aa ab:AC)(ps:List Nat)(L:gx):Yl:=λavs h R=>avs.length=ps.length /\
 vc P aa ⟨tq (ps.zip avs) L,[],h⟩ λx s=>x=.aA/\vc P ab s λx s'=>R (match x with | .aA=>none | x=>some x) s'.h
def ky (fn:FuncId)(tmps:Array Value)(ps:Array Tmp)(assign body:Code)(D:Nat)(s:LoopState)(pe:Option Code):Loop:={state:=s,pending:=pe,fn,tmps,params:=ps,assign,body,defers:=D}
theorem Mw {ps:Array Tmp}{assign body:Code}(hps:∀p∈ps.toList,p<n/\keep p=true)(ca:mW assign=true)(cb:mW body=true){aa ab:AC}(haa:cC P n keep assign=some aa)(hab:cC P n keep body=some ab)
  {L:gx} {tmps:Array Value} {Gb:Gh} {wb:World} (hsz:tmps.size=n) (hL:∀s,keep s=true->V Gb wb (lk s L) (tmps.getD s undef)) (fn:FuncId) (D l m:Nat):
  AP m P l (.loop (ky fn tmps ps assign body D .ready none)) (λx=>.loop (ky fn tmps ps assign body D .done (some (uT x)))) (qz P aa ab ps.toList L) Gb wb:=by
 rintro avs h R ⟨hlen,hY⟩ G w vs g hv f hl sx;have hsize:vs.size=ps.size:=by rw[<-hv.1,hlen];simp
 refine⟨fn,_,assign,body,run_yield hl hsize,roundIn_of_wpIn Xb ?_⟩;have hfold:((ky fn tmps ps assign body D .ready none).params.zip vs).foldl (λtmps (x:Nat×Value)=>tmps.setIfInBounds x.1 x.2) (ky fn tmps ps assign body D .ready none).tmps =
   (ps.toList.zip vs.toList).foldl (λt (p:Nat×Value)=>t.setIfInBounds p.1 p.2) tmps:=by
  show (ps.zip vs).foldl _ tmps=_;rw[<-Array.foldl_toList,Array.toList_zip]
 have henv:=HD (n:=n) (keep:=keep) (G:=G) (w:=w) ps.toList avs vs.toList L tmps hps hsz (by rw[hv.1];simp) (by simp;omega) (λj c v h1 h2=>hv.2 j c v h1 (by simpa using h2)) (λs hk=>(hL s hk).aA sx.aA);have sr:SR n keep G w G w ⟨tq (ps.toList.zip avs) L,[],h⟩ ({tmps:=(ps.toList.zip vs.toList).foldl (λt (p:Nat×Value)=>t.setIfInBounds p.1 p.2) tmps,defers:=[]}:Act):=
  ⟨g,henv.1,rfl,henv.2,λ_ _=>.aI _,gP.aD G w⟩
 have e0:∀a:Act,a.defers=[]->wd a []=a:=λa h=>by cases a;simp only[wd];simp only at h;rw[h]
 have hw:=xk (m:=m) (IZ l) [] assign aa haa sr hY;rw[e0 _ rfl]at hw;have hgoal:=wpIn_mono hw (Q':=Exit.then (λa₁ w₁=>∃w₂,(Instr.beginRound l).run P w₁=.ok () w₂/\body.wpIn (Fence.wide.inRound l) m P (roundPost P l λe w'=>∃(j:Option AX)(h':fu)(G':Gh),e=.returned (.bool j.isNone)/\R j h'/\fY G' w' h'/\ki (λb=>b=l) G w G' w'/\w'.heap[l]?=some (match j with | none=>.loop (ky fn tmps ps assign body D .ready none) | some x=>.loop (ky fn tmps ps assign body D .done (some (uT x))))) a₁ w₂) (λ_ _ _=>False)) ?_;·rw[hfold];exact hgoal
 rintro e a1 w1 ⟨a0,rfl,hp⟩;cases e with
 | normal=>
  obtain⟨G1,st1,sr1,-,hb⟩:=hp;have f1:=f.x (sr1.aD.x (λb=>b=l));have hl1:w1.heap[l]?=some (.loop (ky fn tmps ps assign body D .ready none)):=(sr1.aD.aE l f.1 f.2.1).trans hl;refine⟨_,run_beginRound hl1 rfl,?_⟩;obtain⟨g2,s2⟩:=fY.aU sr1.aA (o':=.loop {ky fn tmps ps assign body D .ready none with state:=.busy}) f1 hl1 rfl rfl;have hl2:(w1.putObj l (.loop {ky fn tmps ps assign body D .ready none with state:=.busy})).heap[l]?=some (.loop (ky fn tmps ps assign body D .busy none)):=World.putObj_heap_same f1.1;have f2:=f1.x s2;have S2:=(sr1.aD.x (λb=>b=l)).aE s2;generalize w1.putObj l (.loop {ky fn tmps ps assign body D .ready none with state:=.busy})=w2 at *;have sr2:SR n keep G1 w2 G1 w2 st1 a0:=⟨g2,sr1.aE,sr1.aC,λs hk=>(sr1.L s hk).aA s2.aA,λs hk=>(sr1.R s hk).aA s2.aA,gP.aD G1 w2⟩;refine wpIn_mono (xk (m:=m) (IZ l) [] body ab hab sr2 hb) ?_;rintro e a3 w3 ⟨a4,rfl,hp⟩;have fin:∀(j:Option AX)(jc:Option Code)(G3:Gh)(st3:St),(jc=none↔j=none)->(∀x,j=some x->jc=some (uT x))->SR n keep G1 w2 G3 w3 st3 a4->R j st3.h->
    ∃v w',(Instr.endRound l jc).run P w3=.ok v w'/\∃(j:Option AX)(h':fu)(G':Gh),Ending.returned v=.returned (.bool j.isNone)/\R j h'/\fY G' w' h'/\ki (λb=>b=l) G w G' w'/\w'.heap[l]?=some (match j with | none=>.loop (ky fn tmps ps assign body D .ready none) | some x=>.loop (ky fn tmps ps assign body D .done (some (uT x)))):=by
   intro j jc G3 st3 hj1 hj2 sr3 hR;have f3:=f2.x (sr3.aD.x (λb=>b=l));have hl3:w3.heap[l]?=some (.loop (ky fn tmps ps assign body D .busy none)):=(sr3.aD.aE l f2.1 f2.2.1).trans hl2;obtain⟨g4,s4⟩:=fY.aU sr3.aA (o':=.loop {ky fn tmps ps assign body D .busy none with state:=if jc.isNone then .ready else .done,pending:=jc}) f3 hl3 rfl rfl;refine⟨_,_,run_endRound jc hl3,j,st3.h,G3,?_,hR,g4,(S2.aE (sr3.aD.x _)).aE s4,?_⟩
   ·have:jc.isNone=j.isNone:=by
     cases j with
     | none=>rw[hj1.2 rfl];rfl
     | some x=>rw[hj2 x rfl];rfl
    rw[this]
   ·rw[World.putObj_heap_same f3.1];cases j with
    | none=>rw[hj1.2 rfl];rfl
    | some x=>rw[hj2 x rfl];rfl
  cases e with
  | normal=>obtain⟨G3,st3,sr3,hR⟩:=hp;exact fin none none G3 st3 ⟨λ_=>rfl,λ_=>rfl⟩ (λx h=>by cases h) sr3 hR
  | ret=>obtain⟨G3,st3,sr3,hR⟩:=hp;exact fin (some .aC) (some .ret) G3 st3 ς (λx h=>by cases h;rfl) sr3 hR
  | exit id=>obtain⟨G3,st3,sr3,hR⟩:=hp;exact fin (some (.aD id)) (some (.exit id)) G3 st3 ς (λx h=>by cases h;rfl) sr3 hR
  | goto t=>exact hp.elim
  | panic c=>exact hp.elim
  | outgrown=>exact hp.elim
 | exit id=>obtain⟨G1,st1,sr1,e,-⟩:=hp;cases e
 | ret=>obtain⟨G1,st1,sr1,e,-⟩:=hp;cases e
 | goto l=>exact hp.elim
 | panic c=>exact hp.elim
 | outgrown=>exact hp.elim
def KZ (n:Nat)(keep:Nat->Bool)(G:Gh)(w:World)(K:AX->St->Prop)(ds:List Deferred)(e:Exit)(a:Act)(w':World):Prop:=
 ∃(a0:Act)(D:Nat)(x:AX)(G':Gh)(st':St),a=wd a0 (uY D :: ds)/\n7 G' w' D/\w'.heap[D]?=some (.deferred (some []))/\w.heap.size<=D/\SR n keep G w G' w' st' a0/\K x st' /\
  (match x with | .aA=>e=.normal | .aD id=>e=.exit id | .aC=>e=.ret)
theorem SK {g:Operand}{ps:Array Tmp}{assign body:Code}(a5:∀p∈ps.toList,p<n/\keep p=true)(ca:mW assign=true)(cb:mW body=true){aa ab:AC}(a8:cC P n keep assign=some aa)(a7:cC P n keep body=some ab)
  {G0:Gh} {w0:World} {G:Gh} {w:World} {st:St} {a:Act} (sr:SR n keep G0 w0 G w st a) (ds:List Deferred) {gf:FuncId} {cs:List AV} (hg:st.aA (cd keep g)=.aL gf [] cs) (hf:fZ P gf=true)
  {Kn:fu->Prop} {Ks:AX->fu->Prop} (a6:vC P gf cs st.h (qz P aa ab ps.toList st.L) Kn Ks) {K:AX->St->Prop}
  (hn:∀h',Kn h'->K .aA {st with R:=[],h:=h'}) (hs:∀x h',Ks x h'->x≠.aA/\K x {st with R:=[],h:=h'}) (m:Nat):
  (Code.rangeFunc g ps assign body).wpIn Fence.wide m P (KZ n keep G w K ds) (wd a ds) w:=by
 refine wpIn_rangeFunc ?_;intro fn _;have W:=sr.aF g;rw[hg]at W;generalize hv:a.eval g=fv at W;cases W with
 | aK _ _ us _ vs hlu hUs hl hVs=>
 have a4:us=#[]:=by
  have:us.size=0:=by simpa using hlu.symm
  exact YI this
 subst a4;obtain⟨gD,sD,fD⟩:=sr.aA.bA (.deferred (some []));obtain⟨gL,sL,fL⟩:=gD.bA (.loop (ky fn a.tmps ps assign body w.heap.size .ready none));rw[World.size_alloc]at fL;have a2:((w.alloc (.deferred (some []))).alloc (.loop (ky fn a.tmps ps assign body w.heap.size .ready none))).heap[w.heap.size+1]?=some (.loop (ky fn a.tmps ps assign body w.heap.size .ready none)):=by have:=World.alloc_heap_new (w.alloc (.deferred (some []))) (.loop (ky fn a.tmps ps assign body w.heap.size .ready none));rwa [World.size_alloc]at this
 have a3:((w.alloc (.deferred (some []))).alloc (.loop (ky fn a.tmps ps assign body w.heap.size .ready none))).heap[w.heap.size]?=some (.deferred (some [])):=
  (o_ ς).trans wD
 have O:=fD.x (sL.x (λb=>b=w.heap.size+1));have sW:=sD.aI sL;obtain⟨W1,a1⟩:∃W1,(w.alloc (.deferred (some []))).alloc (.loop (ky fn a.tmps ps assign body w.heap.size .ready none))=W1:=⟨_,rfl⟩;refine⟨w.heap.size+1,[uY w.heap.size],W1,{target:=.fn (.func gf) vs,args:=#[.func (.yield (w.heap.size+1)) #[] #[]]},W1,gf,#[.func (.yield (w.heap.size+1)) #[] #[]]++vs,W1,?_,?_,λ_ _=>Xb,?_,(λh=>by cases h),?_⟩;·rw[<-a1];exact run_enterLoop_outer _ _ _ _ _
 ·rw[tP];simp only[resolve,hv];simp[go_sem]
 ·simp[invoke,go_sem,vq hf]
 rw[a1]at a2 a3 O fL gL sW;have hy:∀m,AP m P (w.heap.size+1) (.loop (ky fn a.tmps ps assign body w.heap.size .ready none)) (λx=>.loop (ky fn a.tmps ps assign body w.heap.size .done (some (uT x)))) (qz P aa ab ps.toList st.L) G W1:=
  λm=>Mw a5 ca cb a8 a7 sr.aE (λs hk=>(sr.L s hk).aA sW.aA) fn w.heap.size (w.heap.size+1) m
 refine (a6 (m-1) (w.heap.size+1) _ _ G W1 vs hy gL ⟨hl,λj c v h1 h2=>(hVs j c v h1 h2).aA sW.aA⟩ fL a2).mono ?_;rintro e W2 ⟨⟨v,rfl⟩,h',G',g2,s2,Z⟩;have ae:=O.x s2;have a9:W2.heap[w.heap.size]?=some (.deferred (some [])):=(s2.aF _ O.1 O.2.1 ω).trans a3;have ac:=fL.x s2;have E:∀(r:Loop),W2.heap[w.heap.size+1]?=some (.loop r)->r.state≠.busy->∃W3,(Instr.endLoop (w.heap.size+1)).run P W2=.ok r.pending W3/\SR n keep G w G' W3 {st with R:=[],h:=h'} a/\n7 G' W3 w.heap.size/\W3.heap[w.heap.size]?=some (.deferred (some [])):=by intro r hr hb;obtain⟨g3,s3⟩:=fY.aU g2 (o':=.loop {r with state:=.exhausted}) ac hr rfl rfl;have S3:=((sW.x (λb=>b=w.heap.size+1)).aE s2).aE s3;refine⟨_,run_endLoop hr hb,⟨g3,sr.aE,sr.aC,λs hk=>(sr.L s hk).aA S3.aA,λ_ _=>.aI _,S3.aJ (λb hb=>ω)⟩,ae.x s3,?_⟩;rw[World.putObj_heap_other ω];exact a9
 have u:({wd a ds with defers:=[uY w.heap.size]++(wd a ds).defers}:Act)=wd a (uY w.heap.size :: ds):=rfl;rcases Z with⟨U,hk⟩ | ⟨x,U,hk⟩;·obtain⟨W3,r3,I,f3,d3⟩:=E _ U (by simp[ky]);refine⟨none,W3,r3,?_⟩;exact⟨a,w.heap.size,.aA,G',_,u,f3,d3,WX _,I,hn h' hk,rfl⟩
 ·obtain⟨W3,r3,I,f3,d3⟩:=E _ U (by simp[ky]);obtain⟨hx,hK⟩:=hs x h' hk;refine⟨some (uT x),W3,r3,?_⟩;cases x with
  | aA=>exact absurd rfl hx
  | aD id=>exact wpIn_exit ⟨a,w.heap.size,.aD id,G',_,u,f3,d3,WX _,I,hK,rfl⟩
  | aC=>exact wpIn_ret ⟨a,w.heap.size,.aC,G',_,u,f3,d3,WX _,I,hK,rfl⟩
structure RS where
 j:Option AX
 q:Bool
 st:St
inductive RC where
 | aC (a:AC)
 | aF (a:AC)
 | aH (a b:RC)
 | aD (c:fN) (a b:RC)
 | aA (id:Nat) (b:RC)
 | aE (b:RC)
 | aI (pre:List AO) (d:kC) (x:fN) (args:List fN) (post:List AO)
 | aG (g:fN) (ps:List Nat) (aa ab:AC)
def ju (P:Program)(l:Nat)(Y:Yl):RC->RS->(AX->RS->Prop)->Prop
 | .aC a,s,K=>vc P a s.st λx st'=>K x ⟨s.j,s.q,st'⟩
 | .aF a,s,K=>s.q=false/\vc P a s.st λx st'=>K x ⟨s.j,s.q,st'⟩
 | .aH a b,s,K=>ju P l Y a s λx s'=>match x with
  | .aA=>ju P l Y b s' K
  | .aD id=>K (.aD id) s'
  | .aC=>K .aC s'
 | .aD c a b,s,K=>match s.st.aA c with
  | .aE t=>(t=true->ju P l Y a s K)/\(t=false->ju P l Y b s K)
  | _=>False
 | .aA id b,s,K=>ju P l Y b s λx s'=>match x with
  | .aA=>K .aA s'
  | .aD id'=>if id'=id then K .aA s' else K (.aD id') s'
  | .aC=>K .aC s'
 | .aE b,s,K=>∃I:Nat->RS->Prop,(∃m s0,Wk s.st s0/\I m ⟨s.j,s.q,s0⟩)/\∀m s,I m s->ju P l Y b s λx s'=>match x with
  | .aA=>∃m' s0,m'<m/\Wk s'.st s0/\I m' ⟨s'.j,s'.q,s0⟩
  | .aD id=>K (.aD id) s'
  | .aC=>K .aC s'
 | .aI pre d x args post,s,K=>s.q=false/\s.j=none/\ig P pre s.st λs1=>s1.aA x=.aN (.func (.yield l) #[] #[]) /\
   Y (args.map s1.aA) s1.h λj h'=>ig P post {s1.aC d (.aE j.isNone) with h:=h'} λs2=>K .aA ⟨j,false,{s2 with R:=[]}⟩
 | .aG g ps aa ab,s,K=>s.q=false/\∃gf cs Kn Ks,s.st.aA g=.aL gf [] cs/\fZ P gf=true/\vC P gf cs s.st.h (qz P aa ab ps s.st.L) Kn Ks /\
   (∀h',Kn h'->K .aA ⟨s.j,true,{s.st with R:=[],h:=h'}⟩)/\∀x h',Ks x h'->x≠.aA/\K x ⟨s.j,true,{s.st with R:=[],h:=h'}⟩
section
variable {n:Nat} {keep:Nat->Bool} {P:Program}
def Eh (o:Oper):Bool:=match o.op with
 | .call {callee:=.value (.func _),..}=>false
 | .call {callee:=.value _,..}=>true
 | _=>false
def xh (P:Program)(n:Nat)(keep:Nat->Bool)(ops:Array Oper):List Oper->Option (List AO×kC×fN×List fN×List AO)
 | []=>none
 | o :: r=>if Eh o then (match mD P (cd keep) o with
   | some (.aD x az)=>match o.guard,sU n keep o.dst,rD P n keep ops r with
    | none,some d,some post=>some ([],d,x,az,post)
    | _,_,_=>none
   | _=>none)
  else match yv P n keep ops o,xh P n keep ops r with
   | some a,some (pre,d,x,az,post)=>some (a :: pre,d,x,az,post)
   | _,_=>none
def ny (it:Bool):Code->Bool
 | .region _ ops d=>it && !d && ops.toList.any Eh
 | .seq a b=>ny it a || ny it b
 | .cond _ a b=>ny it a || ny it b
 | .block _ b=>ny it b
 | .loop b=>ny it b
 | .scope b=>ny it b
 | .rangeFunc _ _ _ _=>true
 | _=>false
def qE (P:Program)(n:Nat)(keep:Nat->Bool)(c:Code):Option RC:=(cC P n keep c).map (if mW c then RC.aC else RC.aF)
def mU (P:Program)(n:Nat)(keep:Nat->Bool)(it:Bool):Code->Option RC
 | .region id ops d=>if ny it (.region id ops d) then (xh P n keep ops ops.toList).map fun (pre,d,x,az,post)=>.aI pre d x az post else qE P n keep (.region id ops d)
 | .seq a b=>if ny it (.seq a b) then (match mU P n keep it a,mU P n keep it b with
   | some x,some y=>some (.aH x y)
   | _,_=>none) else qE P n keep (.seq a b)
 | .cond c a b=>if ny it (.cond c a b) then (match mU P n keep it a,mU P n keep it b with
   | some x,some y=>some (.aD (cd keep c) x y)
   | _,_=>none) else qE P n keep (.cond c a b)
 | .block id b=>if ny it (.block id b) then (mU P n keep it b).map (.aA id) else qE P n keep (.block id b)
 | .loop b=>if ny it (.loop b) then (mU P n keep it b).map .aE else qE P n keep (.loop b)
 | .scope b=>if ny it (.scope b) then none else qE P n keep (.scope b)
 | .rangeFunc g ps x y=>if mW x && mW y && ps.toList.all (λp=>decide (p<n) && keep p) then (match cC P n keep x,cC P n keep y with
   | some aa,some ab=>some (.aG (cd keep g) ps.toList aa ab)
   | _,_=>none) else none
 | c=>qE P n keep c
def xM (wb:World)(G:Gh)(w:World)(ds:List Deferred)(q:Bool):Prop:=
 ds=[]\/q=true/\∃D,ds=[uY D]/\n7 G w D/\w.heap[D]?=some (.deferred (some []))/\wb.heap.size<=D
theorem xM.aA {wb G w G' w' ds q}(m:xM wb G w ds q)(s:gP G w G' w'):xM wb G' w' ds q:=by
 rcases m with h | ⟨hq,D,h1,h2,h3,h4⟩;·exact .inl h
 ·exact .inr ⟨hq,D,h1,h2.x (s.x (λ_=>False)),(s.aE D h2.1 h2.2.1).trans h3,h4⟩
structure sJ (P:Program)(Gb:Gh)(wb:World)(X:Nat->Prop)(T:Option AX->Gh->World->Prop)(l:Nat)(Y:Yl):Prop where
 aA:∀j G w G' w',T j G w->gP G w G' w'->T j G' w'
 aC:∀m avs h R G w vs,Y avs h R->fY G w h->VL G w avs vs->T none G w->ki X Gb wb G w->YieldAt Fence.wide m P l vs w λe w'=>∃(j:Option AX)(h':fu)(G':Gh),e=.returned (.bool j.isNone)/\R j h'/\fY G' w' h'/\ki X G w G' w'/\T j G' w'
structure oS (n:Nat)(keep:Nat->Bool)(Gb:Gh)(wb:World)(X:Nat->Prop)(T:Option AX->Gh->World->Prop)(s:RS)(G:Gh)(w:World)(a0:Act)(ds:List Deferred):Prop where
 sr:SR n keep G w G w s.st a0
 aA:ki X Gb wb G w
 aE:T s.j G w
 aC:xM wb G w ds s.q
def AX.ex:AX->Exit
 | .aA=>.normal
 | .aD id=>.exit id
 | .aC=>.ret
def uf (n:Nat)(keep:Nat->Bool)(Gb:Gh)(wb:World)(X:Nat->Prop)(T:Option AX->Gh->World->Prop)(K:AX->RS->Prop)(e:Exit)(a:Act)(w:World):Prop:=
 ∃(x:AX)(s:RS)(G:Gh)(a0:Act)(ds:List Deferred),e=x.ex/\a=wd a0 ds/\oS n keep Gb wb X T s G w a0 ds/\K x s
variable {Gb:Gh} {wb:World} {X:Nat->Prop} {T:Option AX->Gh->World->Prop} {l:Nat} {Y:Yl} {m:Nat}
theorem oS.aD (sd:sJ P Gb wb X T l Y){s:RS}{G w a0 ds}(r:oS n keep Gb wb X T s G w a0 ds){G' w' st' a'}(sr:SR n keep G w G' w' st' a'):oS n keep Gb wb X T ⟨s.j,s.q,st'⟩ G' w' a' ds:=
 ⟨⟨sr.aA,sr.aE,sr.aC,sr.L,sr.R,gP.aD _ _⟩,r.aA.aE (sr.aD.x X),sd.aA _ _ _ _ _ r.aE sr.aD,r.aC.aA sr.aD⟩
theorem Jd (sd:sJ P Gb wb X T l Y){s:RS}{G w a0 ds}(r:oS n keep Gb wb X T s G w a0 ds){K:AX->RS->Prop}{e a1 w1}(h:Aw n keep G w (λx E=>K x ⟨s.j,s.q,E⟩) e a1 w1):uf n keep Gb wb X T K e (wd a1 ds) w1:=by
 cases e with
 | normal=>obtain⟨G',E,u,hk⟩:=h;exact⟨.aA,_,G',a1,ds,rfl,rfl,r.aD sd u,hk⟩
 | exit id=>obtain⟨G',E,u,hk⟩:=h;exact⟨.aD id,_,G',a1,ds,rfl,rfl,r.aD sd u,hk⟩
 | ret=>obtain⟨G',E,u,hk⟩:=h;exact⟨.aC,_,G',a1,ds,rfl,rfl,r.aD sd u,hk⟩
 | goto t=>exact h.elim
 | panic c=>exact h.elim
 | outgrown=>exact h.elim
theorem oB (sd:sJ P Gb wb X T l Y){c:Code}{rc:RC}(hc:qE P n keep c=some rc){s:RS}{G w a0 ds}(r:oS n keep Gb wb X T s G w a0 ds){K:AX->RS->Prop}(hk:ju P l Y rc s K):
  c.wpIn Fence.wide m P (uf n keep Gb wb X T K) (wd a0 ds) w:=by
 simp only[qE,Xn]at hc;obtain⟨ac,I,rfl⟩:=hc;by_cases hq:mW c=true;·rw[WW hq]at hk;refine wpIn_mono (xk (m:=m) u0 ds c ac I r.sr hk) ?_;rintro e _ w1 ⟨a1,rfl,hp⟩;exact Jd sd r hp
 ·rw[WY hq]at hk;obtain⟨O,hk⟩:=hk;have U:ds=[]:=by
   rcases r.aC with h | ⟨h,-⟩;·exact h
   ·rw[O]at h;cases h
  subst U;rw[qP r.sr.aC];refine wpIn_wide.2 (wp_mono (zS c ac I r.sr hk) ?_);intro e a1 w1 hp;have:=Jd sd r hp;have hd:a1.defers=[]:=by
   cases e with
   | normal=>obtain⟨G',E,u,-⟩:=hp;exact u.aC
   | exit id=>obtain⟨G',E,u,-⟩:=hp;exact u.aC
   | ret=>obtain⟨G',E,u,-⟩:=hp;exact u.aC
   | goto t=>exact hp.elim
   | panic c=>exact hp.elim
   | outgrown=>exact hp.elim
  rwa [qP hd]at this
theorem SR.aH {G0 w0 G w st a G' w' h'}(sr:SR n keep G0 w0 G w st a)(k:iB G w G' w')(g:fY G' w' h'):SR n keep G' w' G' w' {st with h:=h'} a:=
 ⟨g,sr.aE,sr.aC,λs hk=>(sr.L s hk).aA k,λs hk=>(sr.R s hk).aA k,gP.aD _ _⟩
theorem MH {o:Oper}(ho:Eh o=true){x:fN}{az:List fN}(h:mD P (cd keep) o=some (.aD x az)):
  ∃(y:Operand)(args:Array Operand),x=cd keep y/\az=args.toList.map (cd keep)/\∀(a:Act)(w:World)(l:Nat),a.eval y=.func (.yield l) #[] #[]->(execOp a.eval o).run P w=(Instr.yield l (args.map a.eval)).run P w:=by
 unfold mD at h;split at h;·cases h
 ·split at h;·cases h
  ·split at h;·cases h
   ·rename_i y args tys hne u;cases h;refine⟨y,args,rfl,rfl,λa w l hy=>?_⟩;obtain⟨dst,op,type,pos,after,guard⟩:=o;have e:op=_:=u;subst e;simp[execOp,resolve,hy,Deferred.ofValue,invoke]
   ·cases h
theorem U9 (sd:sJ P Gb wb X T l Y){ops:Array Oper}{s:RS}(hq:s.q=false)(hj:s.j=none){K:AX->RS->Prop}:
  ∀(lo:List Oper){pre d x az post} (_:xh P n keep ops lo=some (pre,d,x,az,post)) {st:St} {G w a0} (_:oS n keep Gb wb X T ⟨s.j,s.q,st⟩ G w a0 [])
   (_:ig P pre st λs1=>s1.aA x=.aN (.func (.yield l) #[] #[]) /\
    Y (az.map s1.aA) s1.h λj h'=>ig P post {s1.aC d (.aE j.isNone) with h:=h'} λs2=>K .aA ⟨j,false,{s2 with R:=[]}⟩),
   wpListIn Fence.wide m P ops (uf n keep Gb wb X T K) lo (wd a0 []) w:=by
 intro lo;induction lo with
 | nil=>intro pre d x az post h;simp[xh]at h
 | cons o r ih=>
  intro pre d x az post h st G w a0 rs hk;simp only[xh]at h;split at h
  ·rename_i ab;split at h
   ·rename_i x' ag ac;split at h
    ·rename_i d' O ae hd U;cases h;simp only[ig]at hk;obtain⟨hx,hk⟩:=hk;obtain⟨y,args,rfl,rfl,a1⟩:=MH ab ac;unfold wpListIn;rw[WW (by simp[Region.wanted,ae])];have Z:=rs.sr.aF y;have a7:st.aA (cd keep y)=.aN (.func (.yield l) #[] #[]):=hx;rw[a7]at Z;generalize hv:a0.eval y=fv at Z;cases Z;have a8:VL G w ((args.toList.map (cd keep)).map st.aA) (args.map a0.eval):=
      ⟨ς,λj c v hc a9=>VL.aA rs.sr.aF args.toList j c v (by simpa using hc) (by simpa using a9)⟩
     have E:=rs.aE;simp only[hj]at E;obtain⟨fn,tmps,assign,body,hy,hr⟩:=sd.aC (m-1) _ _ _ G w _ hk rs.sr.aA a8 E rs.aA;refine⟨λf _=>Xb,?_⟩;rw[tP,qa ((a1 a0 w l hv).trans hy) ς,Oper.uponIn_round];refine⟨λh=>(by cases h),RoundIn.mono hr ?_⟩;rintro e w' ⟨j,h',G',rfl,hR,hg,a5,hT⟩;show wpListIn Fence.wide m P ops _ r ((wd a0 []).put o.dst (.bool j.isNone)) w';rw[oJ];have a4:=(rs.sr.aH a5.aA hg).aG hd hg (gP.aD G' w') (.aF j.isNone);have e1:({({st with h:=h'}:St).aC d (.aE j.isNone) with h:=h'}:St)={st.aC d (.aE j.isNone) with h:=h'}:=by cases d<;>rfl
     rw[e1]at a4;have:=zR (m:=m) (ops:=ops) (Q:=uf n keep Gb wb X T K) (r:=[]) u0 [] (n:=n) (keep:=keep) (G0:=G') (w0:=w') (k:=λs2=>K .aA ⟨j,false,{s2 with R:=[]}⟩) ?_ r post a4 U hR;·rwa [Yd]at this
     ·intro G2 w2 a6 a2 u a3;refine⟨.aA,_,G2,a2,[],rfl,rfl,⟨⟨u.aA,u.aE,u.aC,u.L,λ_ _=>.aI _,gP.aD _ _⟩,(rs.aA.aE a5).aE (u.aD.x X),sd.aA _ _ _ _ _ hT u.aD,.inl rfl⟩,a3⟩
    ·cases h
   ·cases h
  ·split at h
   ·rename_i ao I d' x' ag O af aa;cases h;have:ig P [ao] st (λW=>ig P I W λs1=>s1.aA x=.aN (.func (.yield l) #[] #[]) /\
      Y (az.map s1.aA) s1.h λj h'=>ig P post {s1.aC d (.aE j.isNone) with h:=h'} λs2=>K .aA ⟨j,false,{s2 with R:=[]}⟩):=hk
    have h1:=zR (m:=m) (ops:=ops) (Q:=uf n keep Gb wb X T K) (r:=r) u0 [] (n:=n) (keep:=keep) (G0:=G) (w0:=w) (k:=λW=>ig P I W λs1=>s1.aA x=.aN (.func (.yield l) #[] #[]) /\
      Y (az.map s1.aA) s1.h λj h'=>ig P post {s1.aC d (.aE j.isNone) with h:=h'} λs2=>K .aA ⟨j,false,{s2 with R:=[]}⟩) ?_ [o] [ao] rs.sr (by simp only[rD,af]) this
    ·exact h1
    ·intro G2 w2 a6 a2 u a3;exact ih aa (rs.aD sd u) a3
   ·cases h
theorem JF (sd:sJ P Gb wb X T l Y){it:Bool}:∀(c:Code)(rc:RC),mU P n keep it c=some rc->∀{K:AX->RS->Prop}{s:RS}{G w a0 ds},oS n keep Gb wb X T s G w a0 ds->ju P l Y rc s K->
  c.wpIn Fence.wide m P (uf n keep Gb wb X T K) (wd a0 ds) w:=by
 intro c;induction c with
 | skip=>intro rc hc K s G w a0 ds r hk;exact oB sd hc r hk
 | ret=>intro rc hc K s G w a0 ds r hk;exact oB sd hc r hk
 | exit id=>intro rc hc K s G w a0 ds r hk;exact oB sd hc r hk
 | label id=>intro rc hc K s G w a0 ds r hk;exact oB sd hc r hk
 | goto id=>intro rc hc K s G w a0 ds r hk;exact oB sd hc r hk
 | refuse id=>intro rc hc K s G w a0 ds r hk;exact oB sd hc r hk
 | scope b ih=>
  intro rc hc K s G w a0 ds r hk;simp only[mU]at hc;split at hc;·cases hc
  ·exact oB sd hc r hk
 | region id ops W=>
  intro rc hc K s G w a0 ds r hk;simp only[mU]at hc;split at hc
  ·rename_i hh;simp only[Xn]at hc;obtain⟨⟨pre,d,x,az,post⟩,a5,rfl⟩:=hc;have a8:W=false:=by
    cases W with
    | false=>rfl
    | true=>simp[ny]at hh
   subst a8;obtain⟨hq,hj,hk⟩:=hk;have a4:ds=[]:=by
    rcases r.aC with h | ⟨h,-⟩;·exact h
    ·rw[hq]at h;cases h
   subst a4;refine wpIn_region_list ?_;exact U9 sd hq hj ops.toList a5 r hk
  ·exact oB sd hc r hk
 | seq x y ihx ihy=>
  intro rc hc K s G w a0 ds r hk;simp only[mU]at hc;split at hc
  ·split at hc
   ·rename_i ax ay hx hy;cases hc;refine wpIn_seq (wpIn_mono (ihx ax hx r hk) ?_);rintro e _ w' ⟨z,s',G',a1,E,rfl,rfl,r',u⟩;cases z with
    | aA=>exact ihy ay hy r' u
    | aD id=>exact⟨_,s',G',a1,E,rfl,rfl,r',u⟩
    | aC=>exact⟨_,s',G',a1,E,rfl,rfl,r',u⟩
   ·cases hc
  ·exact oB sd hc r hk
 | cond x y z ihy ihz=>
  intro rc hc K s G w a0 ds r hk;simp only[mU]at hc;split at hc
  ·split at hc
   ·rename_i ay az hy hz;cases hc;simp only[ju]at hk;split at hk
    ·rename_i t ht;have hv:=r.sr.aF x;rw[ht]at hv;generalize he:a0.eval x=v at hv;cases hv;refine wpIn_cond_split (by rw[tP];exact he) (λe=>?_) (λe=>?_);·exact ihy ay hy r (hk.1 e)
     ·exact ihz az hz r (hk.2 e)
    ·exact hk.elim
   ·cases hc
  ·exact oB sd hc r hk
 | block id b ih=>
  intro rc hc K s G w a0 ds r hk;simp only[mU]at hc;split at hc
  ·simp only[Xn]at hc;obtain⟨ab,hb,rfl⟩:=hc;refine wpIn_block (wpIn_mono (ih ab hb r hk) ?_);rintro e _ w' ⟨z,s',G',a1,E,rfl,rfl,r',u⟩;cases z with
   | aA=>exact⟨.aA,s',G',a1,E,rfl,rfl,r',u⟩
   | aD id'=>
    simp only at u;simp only[AX.ex,Exit.inBlock];split<;>rename_i h;·rw[WW h]at u;exact⟨.aA,s',G',a1,E,rfl,rfl,r',u⟩
    ·rw[WY h]at u;exact⟨.aD id',s',G',a1,E,rfl,rfl,r',u⟩
   | aC=>exact⟨.aC,s',G',a1,E,rfl,rfl,r',u⟩
  ·exact oB sd hc r hk
 | loop b ih=>
  intro rc hc K s G w a0 ds r hk;simp only[mU]at hc;split at hc
  ·simp only[Xn]at hc;obtain⟨ab,hb,rfl⟩:=hc;obtain⟨I,⟨k,s0,a3,h0⟩,U⟩:=hk;obtain⟨G',O⟩:=a3 n keep G w G w a0 r.sr;refine wpIn_loop_ghost (λk a w=>∃s G a0 ds,a=wd a0 ds/\oS n keep Gb wb X T s G w a0 ds/\I k s) k ⟨_,G',a0,ds,rfl,r.aD sd O,h0⟩ ?_;rintro k _ w ⟨s,G,a0,ds,rfl,r,hI⟩;refine wpIn_mono (ih ab hb r (U k s hI)) ?_;rintro e _ w' ⟨z,s',G',a1,E,rfl,rfl,r',u⟩;cases z with
   | aA=>obtain⟨m',s0,hlt,a3,ae⟩:=u;obtain⟨af,a2⟩:=a3 n keep G' w' G' w' a1 r'.sr;exact⟨m',hlt,_,af,a1,E,rfl,r'.aD sd a2,ae⟩
   | aD id=>exact⟨.aD id,s',G',a1,E,rfl,rfl,r',u⟩
   | aC=>exact⟨.aC,s',G',a1,E,rfl,rfl,r',u⟩
  ·exact oB sd hc r hk
 | rangeFunc g ps x y _ _=>
  intro rc hc K s G w a0 ds r hk;simp only[mU]at hc;split at hc
  ·rename_i hh;simp only[Xs,YH,XK]at hh;split at hc
   ·rename_i aa ab ac a9;cases hc;obtain⟨hq,gf,cs,Kn,Ks,hg,hf,a7,hn,hs⟩:=hk;have a4:ds=[]:=by
     rcases r.aC with h | ⟨h,-⟩;·exact h
     ·rw[hq]at h;cases h
    subst a4;refine wpIn_mono (SK hh.2 hh.1.1 hh.1.2 ac a9 r.sr [] hg hf a7 (K:=λx Z=>K x ⟨s.j,true,Z⟩) hn hs m) ?_;rintro e _ w' ⟨a1,D,z,G',Z,rfl,fD,hD,a6,O,u,he⟩;refine⟨z,⟨s.j,true,Z⟩,G',a1,[uY D],?_,rfl,⟨⟨O.aA,O.aE,O.aC,O.L,O.R,gP.aD _ _⟩,r.aA.aE (O.aD.x X),sd.aA _ _ _ _ _ r.aE O.aD,.inr ⟨rfl,D,rfl,fD,hD,Xg r.aA.aC a6⟩⟩,u⟩;cases z<;>exact he
   ·cases hc
  ·cases hc
end
structure sF where
 n:Nat
 aD:Nat->Bool
 aA:RC
 aC:List kU
def uE (P:Program)(keep:Nat->Bool)(it:Bool)(f:FuncId):Option sF:=
 match P.funcs[f]? with
 | some fn=>match fn.body with
  | some c=>match mU P fn.ntmps keep it c,pS P keep fn.results.toList with
   | some ac,some res=>some ⟨fn.ntmps,keep,ac,res⟩
   | _,_=>none
  | none=>none
 | none=>none
def xJ (P:Program)(it:Bool)(f:FuncId)(c:sF):Prop:=fZ P f=true/\uE P c.aD it f=some c
section
variable {n:Nat} {keep:Nat->Bool} {P:Program}
theorem ki.aL {X X':Nat->Prop}{G w G1 w1 G2 w2}(a:ki X G w G1 w1)(b:ki X' G1 w1 G2 w2)(h:∀b,X' b->w.heap.size<=b):ki X G w G2 w2 where
 aA:=a.aA.aG b.aA
 S:=⟨λx h=>b.S.1 x (a.S.1 x h),λx h=>(b.S.2 x h).elim (a.S.2 x) (λh=>.inr (Xg a.aC h))⟩
 aG n h:=by rw[b.aG n (Xj h a.aA.N),a.aG n h]
 aH n h:=(b.aH n (Xj h a.aA.N)).trans (a.aH n h)
 aC:=Xg a.aC b.aC
 aF x hx hn hX:=by
  rw[b.aF x (Xj hx a.aC) ?_ (λe=>by have:=h x e;omega),a.aF x hx hn hX];intro ho;rcases a.aD x ho with h | h;·exact hn h
  ·omega
 aD x hx:=by
  rcases b.aD x hx with h | h;·exact a.aD x h
  ·exact .inr (Xg a.aC h)
 aI:=a.aI.aC b.aI
theorem yZ {vs:Array Value}{G:Gh}{w:World}{h:fu}{u:List AV}(hg:fY G w h)(hv:VL G w u vs)(hn:u.length<=n):
  SR n keep G w G w (pf keep u h) {tmps:=vs++Array.replicate (n-vs.size) undef,defers:=[]}:=by
 have hle:vs.size<=n:=by rw[<-hv.1];exact hn
 have I:∀(p:Nat->Bool)(s:Nat),V G w (lk s (ou p 0 u)) ((vs++Array.replicate (n-vs.size) undef).getD s undef):=by
  intro p s;rcases Iy p u 0 s with e | ⟨_,e⟩;·rw[e];exact .aI _
  ·simp only[Nat.sub_zero]at e;obtain⟨v,E,hV⟩:=hv.aC e;have hlt:=(Yw.1 E).1;have:(vs++Array.replicate (n-vs.size) undef).getD s undef=v:=by simp[Zh,hlt];have:=E;simp[hlt]at this;exact this
   rw[this];exact hV
 exact⟨hg,by simp;omega,rfl,λs _=>I keep s,λs _=>I _ s,gP.aD G w⟩
def AU (res:List kU)(K:AV->fu->Prop)(x:AX)(s:RS):Prop:=iS res K x s.st
theorem TH {f:FuncId}{fn:sF}(hf:uE P keep false f=some fn){I:List AV}(hn:I.length<=fn.n){h:fu}{K:AV->fu->Prop}
  (hk:ju P 0 (λ_ _ _=>False) fn.aA ⟨none,false,pf keep I h⟩ (AU fn.aC K)):fO P f I h K:=by
 unfold uE at hf;split at hf
 ·rename_i fd W;split at hf
  ·rename_i c hc;split at hf
   ·rename_i ac res Z E;cases hf;intro G w vs hg hv;refine (callsIn_wide (n:=0)).1 (callsIn_of_wp_marks W hc Xb ?_);have sd:sJ P G w (λ_=>False) (λ_ _ _=>True) 0 (λ_ _ _=>False):=⟨λ_ _ _ _ _ _ _=>Xb,λ_ _ _ _ _ _ _ h=>h.elim⟩;have r0:oS fd.ntmps keep G w (λ_=>False) (λ_ _ _=>True) ⟨none,false,pf keep I h⟩ G w {tmps:=vs++Array.replicate (fd.ntmps-vs.size) undef,defers:=[]} []:=
     ⟨yZ hg hv hn,ki.aK _ _ _,Xb,.inl rfl⟩
    have hw:=JF (m:=0) sd c ac Z r0 hk;rw[qP rfl]at hw;refine wpIn_mono hw ?_;rintro e _ w' ⟨z,s,G',a0,ds,rfl,rfl,r,hK⟩;have fin:iS res K .aC s.st->LeavesInM Fence.wide 0 P fd (wd a0 ds).tmps (λe w'=>∃v r h' G',e=.returned v/\K r h'/\fY G' w' h'/\V G' w' r v/\gP G w G' w') ds .returning w':=by
     intro hK;simp only[iS]at hK;split at hK
     ·rename_i l hl;rcases r.aC with rfl | ⟨-,D,rfl,fD,hD,U⟩;·obtain⟨v,u,hV⟩:=vp (P:=P) r.sr E hl;exact⟨v,u,v,_,_,G',rfl,hK,r.sr.aA,hV,r.aA.aJ (λ_ h=>h.elim)⟩
      ·obtain⟨g2,s2⟩:=fY.aU r.sr.aA (o':=.deferred none) fD hD rfl rfl;have O:SR fd.ntmps keep G' _ G' _ s.st a0:=r.sr.aH s2.aA g2;obtain⟨v,u,hV⟩:=vp (P:=P) O E hl;refine⟨ς,.inl ⟨D,_,rfl,run_takeDeferred hD,v,u,v,_,_,G',rfl,hK,g2,hV,(r.aA.aL s2 (λb hb=>hb▸U)).aJ (λ_ h=>h.elim)⟩⟩
     ·exact hK.elim
    cases z with
    | aA=>exact fin hK
    | aC=>exact fin hK
    | aD id=>exact hK.elim
   ·cases hf
  ·cases hf
 ·cases hf
def sQ (Kn:fu->Prop)(Ks:AX->fu->Prop):AX->RS->Prop
 | .aD _,_=>False
 | _,s=>s.q=false/\match s.j with
  | none=>Kn s.st.h
  | some x=>Ks x s.st.h
theorem TO {f:FuncId}{fn:sF}(hf:uE P keep true f=some fn) (hr:fn.aC=[]) {cs:List AV} (hn:cs.length+1<=fn.n) {h:fu} {Y:Yl} {Kn:fu->Prop} {Ks:AX->fu->Prop}
  (hk:∀l,ju P l Y fn.aA ⟨none,false,pf keep (.aN (.func (.yield l) #[] #[]) :: cs) h⟩ (sQ Kn Ks)):vC P f cs h Y Kn Ks:=by
 unfold uE at hf;split at hf
 ·rename_i fd a1;split at hf
  ·rename_i c hc;split at hf
   ·rename_i ac res a3 O;cases hf;subst hr;intro m l E dn G w vs hy hg hv fl hl;refine callsIn_of_wp_marks a1 hc Xb ?_;have sd:sJ P G w (λb=>b=l) (λj G w=>n7 G w l/\w.heap[l]?=some (match j with | none=>E | some x=>dn x)) l Y:=by refine⟨λj G w G' w' h s=>⟨h.1.x (s.x (λ_=>False)),(s.aE l h.1.1 h.1.2.1).trans h.2⟩,λm a4 h R G' w' U hY g v t s=>?_⟩;obtain⟨fn,tmps,az,bd,h1,h2⟩:=hy m a4 h R hY G' w' U g v t.1 t.2 s;refine⟨fn,tmps,az,bd,h1,RoundIn.mono h2 ?_⟩;rintro e w2 ⟨j,h',G2,he,hR,g2,s2,Z⟩;exact⟨j,h',G2,he,hR,g2,s2,t.1.x s2,Z⟩
    have W:VL G w (.aN (.func (.yield l) #[] #[]) :: cs) (#[.func (.yield l) #[] #[]]++vs):=VL.aE (cs:=[.aN (.func (.yield l) #[] #[])]) (vs:=#[.func (.yield l) #[] #[]]) ⟨rfl,λj c v h1 h2=>by
      cases j with
      | zero=>simp at h1 h2;subst h1;subst h2;exact .aP _
      | succ j=>simp at h1⟩ hv
    have r0:oS fd.ntmps keep G w (λb=>b=l) (λj G w=>n7 G w l/\w.heap[l]?=some (match j with | none=>E | some x=>dn x)) ⟨none,false,pf keep (.aN (.func (.yield l) #[] #[]) :: cs) h⟩ G w
      {tmps:=(#[.func (.yield l) #[] #[]]++vs)++Array.replicate (fd.ntmps-(#[Value.func (.yield l) #[] #[]]++vs).size) undef,defers:=[]} []:=
     ⟨yZ hg W (by simpa using hn),ki.aK _ _ _,⟨fl,hl⟩,.inl rfl⟩
    have hw:=JF (m:=m) sd c ac a3 r0 (hk l);rw[qP rfl]at hw;refine wpIn_mono hw ?_;rintro e _ w' ⟨z,s,G',a0,ds,rfl,rfl,r,hK⟩;have fin:sQ Kn Ks .aC s->LeavesInM Fence.wide m P fd (wd a0 ds).tmps (λe w'=>(∃v,e=.returned v)/\∃(h':fu)(G':Gh),fY G' w' h'/\ki (λb=>b=l) G w G' w' /\
       ((w'.heap[l]?=some E/\Kn h')\/∃x,w'.heap[l]?=some (dn x)/\Ks x h')) ds .returning w':=by
     rintro⟨hq,hK⟩;have a2:ds=[]:=by
      rcases r.aC with h | ⟨h,-⟩;·exact h
      ·rw[hq]at h;cases h
     subst a2;obtain⟨v,I,-⟩:=vp (P:=P) r.sr O (l:=[]) rfl;refine⟨v,I,⟨v,rfl⟩,s.st.h,G',r.sr.aA,r.aA,?_⟩;have u:=r.aE;cases hj:s.j with
     | none=>rw[hj]at u hK;exact .inl ⟨u.2,hK⟩
     | some x=>rw[hj]at u hK;exact .inr ⟨x,u.2,hK⟩
    cases z with
    | aA=>exact fin hK
    | aC=>exact fin hK
    | aD id=>exact hK.elim
   ·cases hf
  ·cases hf
 ·cases hf
end
section
variable {P:Program} {l:Nat} {Y:Yl}
def kR (j:Option AX)(q:Bool)(K:AX->RS->Prop):AX->St->Prop:=λx st=>K x ⟨j,q,st⟩
def zA (P:Program)(l:Nat)(Y:Yl)(b:RC)(K:AX->RS->Prop):AX->RS->Prop
 | .aA,s=>ju P l Y b s K
 | .aD id,s=>K (.aD id) s
 | .aC,s=>K .aC s
def zy (id:Nat)(K:AX->RS->Prop):AX->RS->Prop
 | .aA,s=>K .aA s
 | .aD id',s=>if id'=id then K .aA s else K (.aD id') s
 | .aC,s=>K .aC s
def Ey (P:Program)(l:Nat)(Y:Yl)(v:AV)(a b:RC)(s:RS)(K:AX->RS->Prop):Prop:=
 match v with
 | .aE t=>(t=true->ju P l Y a s K)/\(t=false->ju P l Y b s K)
 | _=>False
def wX (I:Nat->gx->fu->Prop)(m:Nat)(K:AX->RS->Prop):AX->RS->Prop
 | .aA,s=>∃m',m'<m/\s.j=none/\s.q=false/\s.st.R=[]/\I m' s.st.L s.st.h
 | .aD id,s=>K (.aD id) s
 | .aC,s=>K .aC s
def rY (P:Program)(l:Nat)(Y:Yl)(d:kC)(x:fN)(az:List fN)(post:List AO)(K:AX->RS->Prop):St->Prop:=λs1=>s1.aA x=.aN (.func (.yield l) #[] #[])/\Y (az.map s1.aA) s1.h λj h'=>ig P post {s1.aC d (.aE j.isNone) with h:=h'} (za (kR j false K))
theorem PZ (j:Option AX)(q:Bool)(K:AX->RS->Prop)(x:AX)(st:St):kR j q K x st=K x ⟨j,q,st⟩:=W_ rfl rfl
theorem Ur (a:AC)(j:Option AX)(q:Bool)(st:St)(K:AX->RS->Prop):ju P l Y (.aC a) ⟨j,q,st⟩ K=vc P a st (kR j q K):=W_ rfl rfl
theorem Uv (a:AC)(j:Option AX)(st:St)(K:AX->RS->Prop):ju P l Y (.aF a) ⟨j,false,st⟩ K=vc P a st (kR j false K):=by show (false=false/\vc P a st (kR j false K))=_;simp only[true_and]
theorem Ux (a b:RC)(s:RS)(K:AX->RS->Prop):ju P l Y (.aH a b) s K=ju P l Y a s (zA P l Y b K):=by simp only[ju];congr 1;funext x st';cases x<;>rfl
theorem Uq (id:Nat)(b:RC)(s:RS)(K:AX->RS->Prop):ju P l Y (.aA id b) s K=ju P l Y b s (zy id K):=by simp only[ju];congr 1;funext x st';cases x<;>rfl
theorem Us (c:fN)(a b:RC)(j:Option AX)(q:Bool)(st:St)(K:AX->RS->Prop):ju P l Y (.aD c a b) ⟨j,q,st⟩ K=Ey P l Y (st.aA c) a b ⟨j,q,st⟩ K:=by
 show (match st.aA c with
  | .aE t=>(t=true->ju P l Y a ⟨j,q,st⟩ K)/\(t=false->ju P l Y b ⟨j,q,st⟩ K)
  | _=>False)=Ey P l Y (st.aA c) a b ⟨j,q,st⟩ K
 unfold Ey;generalize st.aA c=v;cases v<;>rfl
theorem SF (b:RC)(K:AX->RS->Prop)(s:RS):zA P l Y b K .aA s=ju P l Y b s K:=W_ rfl rfl
theorem SE (b:RC)(K:AX->RS->Prop)(id:Nat)(s:RS):zA P l Y b K (.aD id) s=K (.aD id) s:=W_ rfl rfl
theorem SG (b:RC)(K:AX->RS->Prop)(s:RS):zA P l Y b K .aC s=K .aC s:=W_ rfl rfl
theorem Sr (id:Nat)(K:AX->RS->Prop)(s:RS):zy id K .aA s=K .aA s:=W_ rfl rfl
theorem Sq (id e:Nat)(K:AX->RS->Prop)(s:RS):zy id K (.aD e) s=if e=id then K .aA s else K (.aD e) s:=W_ rfl rfl
theorem Ss (id:Nat)(K:AX->RS->Prop)(s:RS):zy id K .aC s=K .aC s:=W_ rfl rfl
theorem Sz (I:Nat->gx->fu->Prop)(m:Nat)(K:AX->RS->Prop)(L:gx)(h:fu):wX I m K .aA ⟨none,false,⟨L,[],h⟩⟩=∃m',m'<m/\I m' L h:=by simp[wX]
theorem Sy (I:Nat->gx->fu->Prop)(m:Nat)(K:AX->RS->Prop)(id:Nat)(s:RS):wX I m K (.aD id) s=K (.aD id) s:=W_ rfl rfl
theorem SD (I:Nat->gx->fu->Prop)(m:Nat)(K:AX->RS->Prop)(s:RS):wX I m K .aC s=K .aC s:=W_ rfl rfl
theorem Uy (pre:List AO)(d:kC)(x:fN)(az:List fN)(post:List AO)(st:St)(K:AX->RS->Prop):
  ju P l Y (.aI pre d x az post) ⟨none,false,st⟩ K=ig P pre st (rY P l Y d x az post K):=by
 simp only[ju,true_and];rfl
theorem SH (d:kC)(x:fN)(az:List fN)(post:List AO)(K:AX->RS->Prop)(s1:St):rY P l Y d x az post K s1 =
  (s1.aA x=.aN (.func (.yield l) #[] #[])/\Y (az.map s1.aA) s1.h λj h'=>ig P post {s1.aC d (.aE j.isNone) with h:=h'} (za (kR j false K))):=W_ rfl rfl
theorem Mb (res:List kU)(K:AV->fu->Prop)(x:AX)(j:Option AX)(q:Bool)(st:St):AU res K x ⟨j,q,st⟩=iS res K x st:=W_ rfl rfl
theorem Uu:∀(c:RC){s:RS}{K K':AX->RS->Prop},(∀x s,K x s->K' x s)->(∀u h (R R':Option AX->fu->Prop),(∀j h,R j h->R' j h)->Y u h R->Y u h R')->ju P l Y c s K->ju P l Y c s K':=by
 intro c;induction c with
 | aC a=>intro s K K' hk hY h;exact qb a (λx st=>hk _ _) h
 | aF a=>intro s K K' hk hY h;exact⟨h.1,qb a (λx st=>hk _ _) h.2⟩
 | aH a b iha ihb=>
  intro s K K' hk hY h;refine iha ?_ hY h;intro x s' hs;cases x with
  | aA=>exact ihb hk hY hs
  | aD id=>exact hk _ _ hs
  | aC=>exact hk _ _ hs
 | aD c a b iha ihb=>
  intro s K K' hk hY h;simp only[ju]at h ⊢;split;·rename_i t ht;rw[ht]at h;exact⟨λe=>iha hk hY (h.1 e),λe=>ihb hk hY (h.2 e)⟩
  ·rename_i E;split at h;·rename_i t ht;exact absurd ht (E t)
   ·exact h
 | aA id b ih=>
  intro s K K' hk hY h;refine ih ?_ hY h;intro x s' hs;cases x with
  | aA=>exact hk _ _ hs
  | aD id'=>
   simp only at hs ⊢;split at hs;·rename_i e;rw[WW e];exact hk _ _ hs
   ·rename_i e;rw[WY e];exact hk _ _ hs
  | aC=>exact hk _ _ hs
 | aE b ih=>
  rintro s K K' hk hY ⟨I,h0,hI⟩;refine⟨I,h0,λm s hs=>ih ?_ hY (hI m s hs)⟩;intro x s' hs;cases x with
  | aA=>exact hs
  | aD id=>exact hk _ _ hs
  | aC=>exact hk _ _ hs
 | aI pre d x az post=>rintro s K K' hk hY ⟨h1,h2,h⟩;refine⟨h1,h2,EZ pre ?_ h⟩;rintro s1 ⟨hx,hy⟩;refine⟨hx,hY _ _ _ _ (λj h' hv=>EZ post (λs2 hs=>hk _ _ hs) hv) hy⟩
 | aG g ps aa ab=>rintro s K K' hk hY ⟨h1,gf,cs,Kn,Ks,h2,h3,h4,h5,h6⟩;exact⟨h1,gf,cs,Kn,Ks,h2,h3,h4,λh' hn=>hk _ _ (h5 h' hn),λx h' hs=>⟨(h6 x h' hs).1,hk _ _ (h6 x h' hs).2⟩⟩
theorem Ut (hY:∀e h (R R':Option AX->fu->Prop),(∀j h,R j h->R' j h)->Y e h R->Y e h R')(I:Nat->gx->fu->Prop)(m:Nat){b:RC}{L:gx}{h:fu}{K:AX->RS->Prop}(h0:I m L h)
  (step:∀m L h,I m L h->ju P l Y b ⟨none,false,⟨L,[],h⟩⟩ (wX I m K)):ju P l Y (.aE b) ⟨none,false,⟨L,[],h⟩⟩ K:=by
 refine⟨λm s=>s.j=none/\s.q=false/\s.st.R=[]/\I m s.st.L s.st.h,⟨m,_,Wk.aA _,rfl,rfl,rfl,h0⟩,λm s hI=>?_⟩;obtain⟨j,q,L,R,h⟩:=s;obtain⟨h1,h2,h3,hI⟩:=hI;simp only at h1 h2 h3 hI;subst h1;subst h2;subst h3;refine Uu b ?_ hY (step m L h hI);intro x s hs;cases x with
 | aA=>obtain⟨m',h1,h2,h3,h4,h5⟩:=hs;exact⟨m',s.st,h1,Wk.aA _,h2,h3,h4,h5⟩
 | aD id=>exact hs
 | aC=>exact hs
theorem Mv (aa ab:AC)(ps:List Nat)(L:gx):∀e h (R R':Option AX->fu->Prop),(∀j h,R j h->R' j h)->qz P aa ab ps L e h R->qz P aa ab ps L e h R':=by rintro e h R R' hR ⟨h1,h2⟩;refine⟨h1,qb aa ?_ h2⟩;rintro x s ⟨hx,hb⟩;exact⟨hx,qb ab (λx s' hs=>hR _ _ hs) hb⟩
def kY (R:Option AX->fu->Prop):AX->St->Prop
 | .aA,s=>R none s.h
 | .aD id,s=>R (some (.aD id)) s.h
 | .aC,s=>R (some .aC) s.h
def kA (P:Program)(ab:AC)(R:Option AX->fu->Prop):AX->St->Prop
 | .aA,s=>vc P ab s (kY R)
 | _,_=>False
theorem Mu (aa ab:AC)(ps:List Nat)(L:gx)(e:List AV)(h:fu)(R:Option AX->fu->Prop)(hl:e.length=ps.length):qz P aa ab ps L e h R=vc P aa ⟨tq (ps.zip e) L,[],h⟩ (kA P ab R):=by
 unfold qz;rw[eq_iff_iff];constructor;·rintro⟨_,h⟩;refine qb aa ?_ h;rintro x s ⟨rfl,hb⟩;refine qb ab ?_ hb;intro x s' hs;cases x<;>exact hs
 ·intro h;refine⟨hl,qb aa ?_ h⟩;intro x s hb;cases x with
  | aA=>refine⟨rfl,qb ab ?_ hb⟩;intro x s' hs;cases x<;>exact hs
  | aD id=>exact hb.elim
  | aC=>exact hb.elim
theorem PE (ab:AC)(R:Option AX->fu->Prop)(s:St):kA P ab R .aA s=vc P ab s (kY R):=W_ rfl rfl
theorem P8 (R:Option AX->fu->Prop)(s:St):kY R .aA s=R none s.h:=W_ rfl rfl
theorem P7 (R:Option AX->fu->Prop)(id:Nat)(s:St):kY R (.aD id) s=R (some (.aD id)) s.h:=W_ rfl rfl
theorem P9 (R:Option AX->fu->Prop)(s:St):kY R .aC s=R (some .aC) s.h:=W_ rfl rfl
theorem Uw {g:fN}{ps:List Nat}{aa ab:AC}{j:Option AX}{L R:gx}{h:fu}{K:AX->RS->Prop}{gf:FuncId}{cs:List AV}{Kn:fu->Prop}{Ks:AX->fu->Prop}
  (hg:St.aA ⟨L,R,h⟩ g=.aL gf [] cs) (hf:fZ P gf=true) (e:vC P gf cs h (qz P aa ab ps L) Kn Ks) (hn:∀h',Kn h'->K .aA ⟨j,true,⟨L,[],h'⟩⟩) (hs:∀x h',Ks x h'->x≠.aA/\K x ⟨j,true,⟨L,[],h'⟩⟩):
  ju P l Y (.aG g ps aa ab) ⟨j,false,⟨L,R,h⟩⟩ K:=
 ⟨rfl,gf,cs,Kn,Ks,hg,hf,e,hn,hs⟩
attribute [go_sem] PZ Ur Uv Ux Uq Us SF SE SG Sr Sq Ss Sz Sy SD Uy SH Mb PE P8 P7 P9
end
end Glb
