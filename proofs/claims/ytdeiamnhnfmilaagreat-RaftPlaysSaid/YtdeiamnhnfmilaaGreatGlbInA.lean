/-
  A library of its own.
-/
import Derived.Test.YtdeiamnhnfmilaaGreatGlbLibC
import Derived.OrdersIn
import Derived.TacticsIn
import Derived.RangeFuncOwn
import Derived.RangeFuncLeaves
set_option linter.unusedSimpArgs false
set_option linter.unusedVariables false
namespace Glb
open Go
structure jh (X:Nat->Prop)(G:Gh)(w:World)(G':Gh)(w':World):Prop where
 aA:gU G w G' w'
 S:(∀b,G.S b->G'.S b)/\∀b,G'.S b->G.S b\/w.heap.size<=b
 aF:∀n,n<G.N->G'.aA n=G.aA n
 aG:∀n,n<G.N->(G'.aD n↔G.aD n)
 aB:w.heap.size<=w'.heap.size
 aE:∀b,b<w.heap.size->¬G.aI b->¬X b->w'.heap[b]?=w.heap[b]?
 aC:∀b,G'.aI b->G.aI b\/w.heap.size<=b
 aI:jB w w'
theorem gE.x {G w G' w'}(s:gE G w G' w')(X:Nat->Prop):jh X G w G' w':=⟨s.aA,s.S,s.aE,s.aJ,s.aB,λb h1 h2 _=>s.aD b h1 h2,s.aF,s.aG⟩
theorem jh.aJ {X:Nat->Prop}{G w G' w'}(s:jh X G w G' w')(hX:∀b,X b->w.heap.size<=b):gE G w G' w':=
 ⟨s.aA,s.S,s.aF,s.aG,s.aB,λb h1 h2=>s.aE b h1 h2 λx=>by have:=hX b x;omega,s.aC,s.aI⟩
theorem jh.aK (X:Nat->Prop)(G w):jh X G w G w:=(gE.aC G w).x X
theorem jh.aD {X:Nat->Prop}{G w G1 w1 G2 w2}(a:jh X G w G1 w1)(b:jh X G1 w1 G2 w2):jh X G w G2 w2 where
 aA:=a.aA.aF b.aA
 S:=⟨λx h=>b.S.1 x (a.S.1 x h),λx h=>(b.S.2 x h).elim (a.S.2 x) (λh=>.inr (Vr a.aB h))⟩
 aF n h:=by rw[b.aF n (Vy h a.aA.N),a.aF n h]
 aG n h:=(b.aG n (Vy h a.aA.N)).trans (a.aG n h)
 aB:=Vr a.aB b.aB
 aE x hx hn hX:=by
  rw[b.aE x (Vy hx a.aB) ?_ hX,a.aE x hx hn hX];intro ho;rcases a.aC x ho with h | h;·exact hn h
  ·omega
 aC x hx:=by
  rcases b.aC x hx with h | h;·exact a.aC x h
  ·exact .inr (Vr a.aB h)
 aI:=a.aI.aB b.aI
def mD (G:Gh)(w:World)(b:Nat):Prop:=b<w.heap.size/\¬G.aI b/\¬G.S b
theorem mD.x {X:Nat->Prop}{G w G' w' b}(f:mD G w b)(s:jh X G w G' w'):mD G' w' b:=
 ⟨Vy f.1 s.aB,λh=>(s.aC b h).elim f.2.1 λh=>by have:=f.1;omega,λh=>(s.S.2 b h).elim f.2.2 λh=>by have:=f.1;omega⟩
theorem ID {w:World}{l:Nat}{o:Obj} (hl:w.heap[l]?=some o) (hc:o.isCells=false):w.shape? l=none:=by
 simp only[World.shape?,hl];cases o with
 | cells _ _ _=>simp[Obj.isCells]at hc
 | _=>rfl
theorem GV {w:World}{a:Addr}{o:Obj} (hl:w.heap[a.block]?=some o) (hc:o.isCells=false):w.frozen? a=false:=by
 simp only[World.frozen?,hl];cases o with
 | cells _ _ _=>simp[Obj.isCells]at hc
 | _=>rfl
theorem Tp {w:World}{l b:Nat}{o o':Obj} (hl:w.heap[l]?=some o) (hc:o.isCells=false) (t:o'.isCells=false):(w.putObj l o').shape? b=w.shape? b:=by
 by_cases e:b=l
 ·subst e;rw[ID hl hc,ID (World.putObj_heap_same (Wj.1 hl).1) t]
 ·simp only[World.shape?,World.putObj_heap_other e]
theorem NO {w:World}{l:Nat}{a:Addr}{o o':Obj} (hl:w.heap[l]?=some o) (hc:o.isCells=false) (b:o'.isCells=false):(w.putObj l o').frozen? a=w.frozen? a:=by
 by_cases e:a.block=l
 ·subst e;rw[GV hl hc,GV (World.putObj_heap_same (Wj.1 hl).1) b]
 ·simp only[World.frozen?,World.putObj_heap_other e]
theorem fS.aU {G w h} (g : fS G w h) {l : Nat} {o o' : Obj} (f : mD G w l) (hl : w.heap[l]? = some o) (hc : o.isCells = false) (u : o'.isCells = false) :
    fS G (w.putObj l o') h /\ jh (λb => b = l) G w G (w.putObj l o') := by
  have hp : ∀ t b, G.aL t b -> b ≠ l := λt b hb e => by
    subst e
    cases t with
    | zero => exact f.2.2 hb
    | succ n => exact f.2.1 (.inr ⟨n, hb⟩)
  have k : gU G w G (w.putObj l o') := ⟨Vg _, λ_ _ _ h => h, λ_ _ h => h, λ_ _ h => h, λt b hb => World.putObj_heap_other (hp t b hb), λb _ => Tp hl hc u⟩
  have ow : ∀ n b, G.aC n -> G.aA n = some b -> (w.putObj l o').heap[b]? = w.heap[b]? := λn b h1 h2 => World.putObj_heap_other (λe => f.2.1 (.inl ⟨n, h1, e ▸ h2⟩))
  refine ⟨{ aA := g.aA, aC := g.aC, aD := g.aD, inj := g.inj, aE := g.aE, aF := g.aF, aL := g.aL, aM := g.aM,
            aG := λn b hb => by rw [World.putObj_size]; exact g.aG n b hb, aJ := λb hb => by rw [World.putObj_size]; exact g.aJ b hb,
            aB := λn sz es gr b hn hb => (g.aB n sz es gr b hn hb).aA k (ow n b (g.aN hn hb) hb), aI := g.aI, aK := g.aK }, ?_⟩
  exact ⟨k, ⟨λ_ h => h, λ_ h => .inl h⟩, λ_ _ => rfl, λ_ _ => Wu, by simp, λb _ _ hX => World.putObj_heap_other hX, λ_ h => .inl h, rfl, rfl, by simp, λa _ => NO hl hc u⟩
theorem fS.bB {G w h} (g : fS G w h) (o : Obj) : fS G (w.alloc o) h /\ gE G w G (w.alloc o) /\ mD G (w.alloc o) w.heap.size := by
  have k : gU G w G (w.alloc o) := ⟨Vg _, λ_ _ _ h => h, λ_ _ h => h, λ_ _ h => h, λt b hb => nk (g.aQ hb), λb hb => Dl hb⟩;have fz : ∀ a : Addr, a.block < w.heap.size -> (w.alloc o).frozen? a = w.frozen? a := λa ha => by simp only [World.frozen?, nk ha]
  refine ⟨{ aA := g.aA, aC := g.aC, aD := g.aD, inj := g.inj, aE := g.aE, aF := g.aF, aL := g.aL, aM := g.aM,
            aG := λn b hb => by rw [World.size_alloc]; have := g.aG n b hb; omega, aJ := λb hb => by rw [World.size_alloc]; have := g.aJ b hb; omega,
            aB := λn sz es gr b hn hb => (g.aB n sz es gr b hn hb).aA k (nk (g.aO (g.aN hn hb) hb)), aI := g.aI, aK := g.aK }, ?_, ?_⟩
  · exact ⟨k, ⟨λ_ h => h, λ_ h => .inl h⟩, λ_ _ => rfl, λ_ _ => Wu, by simp, λb hb _ => nk hb, λ_ h => .inl h, rfl, rfl, by simp, fz⟩
  · exact ⟨by simp, λh => by have := g.bM h; omega, λh => by have := g.aJ _ h; omega⟩
def QK (o:Oper):Bool:=match o.op with
 | .defer _=>false
 | _=>true
def lF:Code->Bool
 | .skip=>true
 | .region _ ops d=>!d || ops.toList.all QK
 | .seq a b=>lF a && lF b
 | .cond _ a b=>lF a && lF b
 | .block _ b=>lF b
 | .loop b=>lF b
 | .exit _=>true
 | .ret=>true
 | _=>false
variable {n:Nat} {keep:Nat->Bool} {P:Program}
abbrev Yl:=List AV->eZ->(Option AX->eZ->Prop)->Prop
def yR (m:Nat)(P:Program)(l:Nat)(rdy:Obj)(dn:AX->Obj)(Y:Yl)(Gb:Gh)(wb:World):Prop:=
 ∀(avs:List AV)(h:eZ)(R:Option AX->eZ->Prop),Y avs h R->∀(G:Gh)(w:World)(vs:Array Value),fS G w h->VL G w avs vs->mD G w l->w.heap[l]?=some rdy->jh (λb=>b=l) Gb wb G w->
 YieldAt Fence.wide m P l vs w λe w'=>∃(j:Option AX)(h':eZ)(G':Gh),e=.returned (.bool j.isNone)/\R j h'/\fS G' w' h'/\jh (λb=>b=l) G w G' w'/\w'.heap[l]?=some (match j with | none=>rdy | some x=>dn x)
def tp (P:Program)(gf:FuncId)(cs:List AV)(h:eZ)(Y:Yl)(Kn:eZ->Prop)(Ks:AX->eZ->Prop):Prop:=
 ∀(m l:Nat)(rdy:Obj)(dn:AX->Obj)(G:Gh)(w:World)(vs:Array Value),(∀m,yR m P l rdy dn Y G w)->fS G w h->VL G w cs vs->mD G w l->w.heap[l]?=some rdy->
 CallsIn Fence.wide m P gf (#[.func (.yield l) #[] #[]]++vs) w λe w'=>(∃v,e=.returned v)/\∃(h':eZ)(G':Gh),fS G' w' h'/\jh (λb=>b=l) G w G' w' /\
  ((w'.heap[l]?=some rdy/\Kn h')\/∃x,w'.heap[l]?=some (dn x)/\Ks x h')
def sH:AX->Code
 | .aA=>.skip
 | .aC id=>.exit id
 | .aB=>.ret
def sM (D:Nat):Deferred:={target:=.collected D,args:=#[]}
def qO:List (Nat×AV)->fY->fY
 | [],L=>L
 | p :: r,L=>qO r (lG p.1 p.2 L)
theorem GO {G:Gh}{w:World}:∀(ps:List Nat)(b:List AV)(vs:List Value)(L:fY)(t:Array Value),(∀p∈ps,p<n/\keep p=true)->t.size=n->b.length=vs.length->ps.length=vs.length->
  (∀(j:Nat)(c:AV)(v:Value),b[j]?=some c->vs[j]?=some v->V G w c v)->(∀s,keep s=true->V G w (lk s L) (t.getD s undef))->
  ((ps.zip vs).foldl (λt (p:Nat×Value)=>t.setIfInBounds p.1 p.2) t).size=n/\∀s,keep s=true->V G w (lk s (qO (ps.zip b) L)) (((ps.zip vs).foldl (λt (p:Nat×Value)=>t.setIfInBounds p.1 p.2) t).getD s undef)
 | [],b,vs,L,t,_,hs,_,_,_,hL=>⟨by simpa using hs,by simpa [qO] using hL⟩
 | p :: ps,b,vs,L,t,hp,hs,C,u,hV,hL=>by
  cases vs with
  | nil=>simp at u
  | cons v vs=>
   cases b with
   | nil=>simp at C
   | cons a b=>
    have h0:=hp p (by simp);refine GO ps b vs (lG p a L) (t.setIfInBounds p v) (λq hq=>hp q (List.mem_cons_of_mem _ hq)) (by simpa using hs) (by simpa using C) (by simpa using u) (λj c v' h1 h2=>hV (j+1) c v' (by simpa using h1) (by simpa using h2)) λs hk=>?_;have hlt:p<({tmps:=t,defers:=[]}:Act).tmps.size:=by show p<t.size;omega
    have e:=sB (a:={tmps:=t,defers:=[]}) (q:=s) (v:=v) hlt;simp only at e;rw[fi,e];split;·exact hV 0 a v rfl rfl
    ·exact hL s hk
def oQ (P:Program)(aa ab:AC)(ps:List Nat)(L:fY):Yl:=λavs h R=>avs.length=ps.length /\
 vc P aa ⟨qO (ps.zip avs) L,[],h⟩ λx s=>x=.aA/\vc P ab s λx s'=>R (match x with | .aA=>none | x=>some x) s'.h
def jt (fn:FuncId)(tmps:Array Value)(ps:Array Tmp)(assign body:Code)(D:Nat)(s:LoopState)(pe:Option Code):Loop:={state:=s,pending:=pe,fn,tmps,params:=ps,assign,body,defers:=D}
theorem Lg {ps:Array Tmp}{assign body:Code}(hps:∀p∈ps.toList,p<n/\keep p=true)(ca:lF assign=true)(cb:lF body=true){aa ab:AC}(haa:cC P n keep assign=some aa)(hab:cC P n keep body=some ab)
  {L:fY} {tmps:Array Value} {Gb:Gh} {wb:World} (hsz:tmps.size=n) (hL:∀s,keep s=true->V Gb wb (lk s L) (tmps.getD s undef)) (fn:FuncId) (D l m:Nat):
  yR m P l (.loop (jt fn tmps ps assign body D .ready none)) (λx=>.loop (jt fn tmps ps assign body D .done (some (sH x)))) (oQ P aa ab ps.toList L) Gb wb:=by
 rintro avs h R ⟨hlen,hY⟩ G w vs g hv f hl sx;have hsize:vs.size=ps.size:=by rw[<-hv.1,hlen];simp
 refine⟨fn,_,assign,body,run_yield hl hsize,roundIn_of_wpIn Vp ?_⟩;have hfold:((jt fn tmps ps assign body D .ready none).params.zip vs).foldl (λtmps (x:Nat×Value)=>tmps.setIfInBounds x.1 x.2) (jt fn tmps ps assign body D .ready none).tmps =
   (ps.toList.zip vs.toList).foldl (λt (p:Nat×Value)=>t.setIfInBounds p.1 p.2) tmps:=by
  show (ps.zip vs).foldl _ tmps=_;rw[<-Array.foldl_toList,Array.toList_zip]
 have henv:=GO (n:=n) (keep:=keep) (G:=G) (w:=w) ps.toList avs vs.toList L tmps hps hsz (by rw[hv.1];simp) (by simp;omega) (λj c v h1 h2=>hv.2 j c v h1 (by simpa using h2)) (λs hk=>(hL s hk).aA sx.aA);have sr:SR n keep G w G w ⟨qO (ps.toList.zip avs) L,[],h⟩ ({tmps:=(ps.toList.zip vs.toList).foldl (λt (p:Nat×Value)=>t.setIfInBounds p.1 p.2) tmps,defers:=[]}:Act):=
  ⟨g,henv.1,rfl,henv.2,λ_ _=>.aI _,gE.aC G w⟩
 have e0:∀a:Act,a.defers=[]->wd a []=a:=λa h=>by cases a;simp only[wd];simp only at h;rw[h]
 have hw:=uV (m:=m) (HH l) [] assign aa haa sr hY;rw[e0 _ rfl]at hw;have hgoal:=wpIn_mono hw (Q':=Exit.then (λa₁ w₁=>∃w₂,(Instr.beginRound l).run P w₁=.ok () w₂/\body.wpIn (Fence.wide.inRound l) m P (roundPost P l λe w'=>∃(j:Option AX)(h':eZ)(G':Gh),e=.returned (.bool j.isNone)/\R j h'/\fS G' w' h'/\jh (λb=>b=l) G w G' w'/\w'.heap[l]?=some (match j with | none=>.loop (jt fn tmps ps assign body D .ready none) | some x=>.loop (jt fn tmps ps assign body D .done (some (sH x))))) a₁ w₂) (λ_ _ _=>False)) ?_;·rw[hfold];exact hgoal
 rintro e a1 w1 ⟨a0,rfl,hp⟩;cases e with
 | normal=>
  obtain⟨G1,st1,sr1,-,hb⟩:=hp;have f1:=f.x (sr1.aC.x (λb=>b=l));have hl1:w1.heap[l]?=some (.loop (jt fn tmps ps assign body D .ready none)):=(sr1.aC.aD l f.1 f.2.1).trans hl;refine⟨_,run_beginRound hl1 rfl,?_⟩;obtain⟨g2,s2⟩:=fS.aU sr1.aA (o':=.loop {jt fn tmps ps assign body D .ready none with state:=.busy}) f1 hl1 rfl rfl;have hl2:(w1.putObj l (.loop {jt fn tmps ps assign body D .ready none with state:=.busy})).heap[l]?=some (.loop (jt fn tmps ps assign body D .busy none)):=World.putObj_heap_same f1.1;have f2:=f1.x s2;have S2:=(sr1.aC.x (λb=>b=l)).aD s2;generalize w1.putObj l (.loop {jt fn tmps ps assign body D .ready none with state:=.busy})=w2 at *;have sr2:SR n keep G1 w2 G1 w2 st1 a0:=⟨g2,sr1.aD,sr1.aB,λs hk=>(sr1.L s hk).aA s2.aA,λs hk=>(sr1.R s hk).aA s2.aA,gE.aC G1 w2⟩;refine wpIn_mono (uV (m:=m) (HH l) [] body ab hab sr2 hb) ?_;rintro e a3 w3 ⟨a4,rfl,hp⟩;have fin:∀(j:Option AX)(jc:Option Code)(G3:Gh)(st3:St),(jc=none↔j=none)->(∀x,j=some x->jc=some (sH x))->SR n keep G1 w2 G3 w3 st3 a4->R j st3.h->
    ∃v w',(Instr.endRound l jc).run P w3=.ok v w'/\∃(j:Option AX)(h':eZ)(G':Gh),Ending.returned v=.returned (.bool j.isNone)/\R j h'/\fS G' w' h'/\jh (λb=>b=l) G w G' w'/\w'.heap[l]?=some (match j with | none=>.loop (jt fn tmps ps assign body D .ready none) | some x=>.loop (jt fn tmps ps assign body D .done (some (sH x)))):=by
   intro j jc G3 st3 hj1 hj2 sr3 hR;have f3:=f2.x (sr3.aC.x (λb=>b=l));have hl3:w3.heap[l]?=some (.loop (jt fn tmps ps assign body D .busy none)):=(sr3.aC.aD l f2.1 f2.2.1).trans hl2;obtain⟨g4,s4⟩:=fS.aU sr3.aA (o':=.loop {jt fn tmps ps assign body D .busy none with state:=if jc.isNone then .ready else .done,pending:=jc}) f3 hl3 rfl rfl;refine⟨_,_,run_endRound jc hl3,j,st3.h,G3,?_,hR,g4,(S2.aD (sr3.aC.x _)).aD s4,?_⟩
   ·have:jc.isNone=j.isNone:=by
     cases j with
     | none=>rw[hj1.2 rfl];rfl
     | some x=>rw[hj2 x rfl];rfl
    rw[this]
   ·rw[World.putObj_heap_same f3.1];cases j with
    | none=>rw[hj1.2 rfl];rfl
    | some x=>rw[hj2 x rfl];rfl
  cases e with
  | normal=>obtain⟨G3,st3,sr3,hR⟩:=hp;exact fin none none G3 st3 ⟨λ_=>rfl,λ_=>rfl⟩ (λx h=>by cases h) sr3 hR
  | ret=>obtain⟨G3,st3,sr3,hR⟩:=hp;exact fin (some .aB) (some .ret) G3 st3 (by simp) (λx h=>by cases h;rfl) sr3 hR
  | exit id=>obtain⟨G3,st3,sr3,hR⟩:=hp;exact fin (some (.aC id)) (some (.exit id)) G3 st3 (by simp) (λx h=>by cases h;rfl) sr3 hR
  | goto t=>exact hp.elim
  | panic c=>exact hp.elim
  | outgrown=>exact hp.elim
 | exit id=>obtain⟨G1,st1,sr1,e,-⟩:=hp;cases e
 | ret=>obtain⟨G1,st1,sr1,e,-⟩:=hp;cases e
 | goto l=>exact hp.elim
 | panic c=>exact hp.elim
 | outgrown=>exact hp.elim
def JP (n:Nat)(keep:Nat->Bool)(G:Gh)(w:World)(K:AX->St->Prop)(ds:List Deferred)(e:Exit)(a:Act)(w':World):Prop:=
 ∃(a0:Act)(D:Nat)(x:AX)(G':Gh)(st':St),a=wd a0 (sM D :: ds)/\mD G' w' D/\w'.heap[D]?=some (.deferred (some []))/\w.heap.size<=D/\SR n keep G w G' w' st' a0/\K x st' /\
 (match x with | .aA=>e=.normal | .aC id=>e=.exit id | .aB=>e=.ret)
theorem Rc {g:Operand}{ps:Array Tmp}{assign body:Code}(a2:∀p∈ps.toList,p<n/\keep p=true)(ca:lF assign=true)(cb:lF body=true){aa ab:AC}(a5:cC P n keep assign=some aa)(a4:cC P n keep body=some ab)
  {G0:Gh} {w0:World} {G:Gh} {w:World} {st:St} {a:Act} (sr:SR n keep G0 w0 G w st a) (ds:List Deferred) {gf:FuncId} {cs:List AV} (hg:st.aA (cd keep g)=.aM gf [] cs) (hf:fI P gf=true)
  {Kn:eZ->Prop} {Ks:AX->eZ->Prop} (a3:tp P gf cs st.h (oQ P aa ab ps.toList st.L) Kn Ks) {K:AX->St->Prop}
  (hn:∀h',Kn h'->K .aA {st with R:=[],h:=h'}) (hs:∀x h',Ks x h'->x≠.aA/\K x {st with R:=[],h:=h'}) (m:Nat):
  (Code.rangeFunc g ps assign body).wpIn Fence.wide m P (JP n keep G w K ds) (wd a ds) w:=by
 refine wpIn_rangeFunc ?_;intro fn _;have M:=sr.aE g;rw[hg]at M;generalize hv:a.eval g=fv at M;cases M with
 | aK _ _ us _ vs hlu hUs hl hVs=>
 have a1:us=#[]:=by
  have:us.size=0:=by simpa using hlu.symm
  exact Wx this
 subst a1;obtain⟨gD,sD,fD⟩:=sr.aA.bB (.deferred (some []));obtain⟨gL,sL,fL⟩:=gD.bB (.loop (jt fn a.tmps ps assign body w.heap.size .ready none));rw[World.size_alloc]at fL;have W:((w.alloc (.deferred (some []))).alloc (.loop (jt fn a.tmps ps assign body w.heap.size .ready none))).heap[w.heap.size+1]?=some (.loop (jt fn a.tmps ps assign body w.heap.size .ready none)):=by have:=World.alloc_heap_new (w.alloc (.deferred (some []))) (.loop (jt fn a.tmps ps assign body w.heap.size .ready none));rwa [World.size_alloc]at this
 have a0:((w.alloc (.deferred (some []))).alloc (.loop (jt fn a.tmps ps assign body w.heap.size .ready none))).heap[w.heap.size]?=some (.deferred (some [])):=
  (nk (by simp)).trans uw
 have E:=fD.x (sL.x (λb=>b=w.heap.size+1));have sW:=sD.aI sL;obtain⟨W1,U⟩:∃W1,(w.alloc (.deferred (some []))).alloc (.loop (jt fn a.tmps ps assign body w.heap.size .ready none))=W1:=⟨_,rfl⟩;refine⟨w.heap.size+1,[sM w.heap.size],W1,{target:=.fn (.func gf) vs,args:=#[.func (.yield (w.heap.size+1)) #[] #[]]},W1,gf,#[.func (.yield (w.heap.size+1)) #[] #[]]++vs,W1,?_,?_,λ_ _=>Vp,?_,(λh=>by cases h),?_⟩;·rw[<-U];exact run_enterLoop_outer _ _ _ _ _
 ·rw[qW];simp only[resolve,hv];simp[go_sem]
 ·simp[invoke,go_sem,ta hf]
 rw[U]at W a0 E fL gL sW;have hy:∀m,yR m P (w.heap.size+1) (.loop (jt fn a.tmps ps assign body w.heap.size .ready none)) (λx=>.loop (jt fn a.tmps ps assign body w.heap.size .done (some (sH x)))) (oQ P aa ab ps.toList st.L) G W1:=
  λm=>Lg a2 ca cb a5 a4 sr.aD (λs hk=>(sr.L s hk).aA sW.aA) fn w.heap.size (w.heap.size+1) m
 refine (a3 (m-1) (w.heap.size+1) _ _ G W1 vs hy gL ⟨hl,λj c v h1 h2=>(hVs j c v h1 h2).aA sW.aA⟩ fL W).mono ?_;rintro e W2 ⟨⟨v,rfl⟩,h',G',g2,s2,O⟩;have a8:=E.x s2;have a6:W2.heap[w.heap.size]?=some (.deferred (some [])):=(s2.aE _ E.1 E.2.1 (by omega)).trans a0;have a7:=fL.x s2;have u:∀(r:Loop),W2.heap[w.heap.size+1]?=some (.loop r)->r.state≠.busy->∃W3,(Instr.endLoop (w.heap.size+1)).run P W2=.ok r.pending W3/\SR n keep G w G' W3 {st with R:=[],h:=h'} a/\mD G' W3 w.heap.size/\W3.heap[w.heap.size]?=some (.deferred (some [])):=by intro r hr hb;obtain⟨g3,s3⟩:=fS.aU g2 (o':=.loop {r with state:=.exhausted}) a7 hr rfl rfl;have S3:=((sW.x (λb=>b=w.heap.size+1)).aD s2).aD s3;refine⟨_,run_endLoop hr hb,⟨g3,sr.aD,sr.aB,λs hk=>(sr.L s hk).aA S3.aA,λ_ _=>.aI _,S3.aJ (λb hb=>by omega)⟩,a8.x s3,?_⟩;rw[World.putObj_heap_other (by omega)];exact a6
 have t:({wd a ds with defers:=[sM w.heap.size]++(wd a ds).defers}:Act)=wd a (sM w.heap.size :: ds):=rfl;rcases O with⟨I,hk⟩ | ⟨x,I,hk⟩;·obtain⟨W3,r3,C,f3,d3⟩:=u _ I (by simp[jt]);refine⟨none,W3,r3,?_⟩;exact⟨a,w.heap.size,.aA,G',_,t,f3,d3,Vg _,C,hn h' hk,rfl⟩
 ·obtain⟨W3,r3,C,f3,d3⟩:=u _ I (by simp[jt]);obtain⟨hx,hK⟩:=hs x h' hk;refine⟨some (sH x),W3,r3,?_⟩;cases x with
  | aA=>exact absurd rfl hx
  | aC id=>exact wpIn_exit ⟨a,w.heap.size,.aC id,G',_,t,f3,d3,Vg _,C,hK,rfl⟩
  | aB=>exact wpIn_ret ⟨a,w.heap.size,.aB,G',_,t,f3,d3,Vg _,C,hK,rfl⟩
structure RS where
 j:Option AX
 q:Bool
 st:St
inductive RC where
 | aB (a:AC)
 | aE (a:AC)
 | aG (a b:RC)
 | aC (c:fJ) (a b:RC)
 | aA (id:Nat) (b:RC)
 | aD (b:RC)
 | aI (pre:List AO) (d:ju) (x:fJ) (args:List fJ) (post:List AO)
 | aF (g:fJ) (ps:List Nat) (aa ab:AC)
def iA (P:Program)(l:Nat)(Y:Yl):RC->RS->(AX->RS->Prop)->Prop
 | .aB a,s,K=>vc P a s.st λx st'=>K x ⟨s.j,s.q,st'⟩
 | .aE a,s,K=>s.q=false/\vc P a s.st λx st'=>K x ⟨s.j,s.q,st'⟩
 | .aG a b,s,K=>iA P l Y a s λx s'=>match x with
  | .aA=>iA P l Y b s' K
  | .aC id=>K (.aC id) s'
  | .aB=>K .aB s'
 | .aC c a b,s,K=>match s.st.aA c with
  | .aD t=>(t=true->iA P l Y a s K)/\(t=false->iA P l Y b s K)
  | _=>False
 | .aA id b,s,K=>iA P l Y b s λx s'=>match x with
  | .aA=>K .aA s'
  | .aC id'=>if id'=id then K .aA s' else K (.aC id') s'
  | .aB=>K .aB s'
 | .aD b,s,K=>∃I:Nat->RS->Prop,(∃m s0,Wk s.st s0/\I m ⟨s.j,s.q,s0⟩)/\∀m s,I m s->iA P l Y b s λx s'=>match x with
  | .aA=>∃m' s0,m'<m/\Wk s'.st s0/\I m' ⟨s'.j,s'.q,s0⟩
  | .aC id=>K (.aC id) s'
  | .aB=>K .aB s'
 | .aI pre d x args post,s,K=>s.q=false/\s.j=none/\gP P pre s.st λs1=>s1.aA x=.aO (.func (.yield l) #[] #[]) /\
   Y (args.map s1.aA) s1.h λj h'=>gP P post {s1.aB d (.aD j.isNone) with h:=h'} λs2=>K .aA ⟨j,false,{s2 with R:=[]}⟩
 | .aF g ps aa ab,s,K=>s.q=false/\∃gf cs Kn Ks,s.st.aA g=.aM gf [] cs/\fI P gf=true/\tp P gf cs s.st.h (oQ P aa ab ps s.st.L) Kn Ks /\
   (∀h',Kn h'->K .aA ⟨s.j,true,{s.st with R:=[],h:=h'}⟩)/\∀x h',Ks x h'->x≠.aA/\K x ⟨s.j,true,{s.st with R:=[],h:=h'}⟩
section
variable {n:Nat} {keep:Nat->Bool} {P:Program}
def CY (o:Oper):Bool:=match o.op with
 | .call {callee:=.value (.func _),..}=>false
 | .call {callee:=.value _,..}=>true
 | _=>false
def uU (P:Program)(n:Nat)(keep:Nat->Bool)(ops:Array Oper):List Oper->Option (List AO×ju×fJ×List fJ×List AO)
 | []=>none
 | o :: r=>if CY o then (match kJ P (cd keep) o with
   | some (.aC x az)=>match o.guard,qB n keep o.dst,pI P n keep ops r with
    | none,some d,some post=>some ([],d,x,az,post)
    | _,_,_=>none
   | _=>none)
  else match wP P n keep ops o,uU P n keep ops r with
   | some a,some (pre,d,x,az,post)=>some (a :: pre,d,x,az,post)
   | _,_=>none
def lU (it:Bool):Code->Bool
 | .region _ ops d=>it && !d && ops.toList.any CY
 | .seq a b=>lU it a || lU it b
 | .cond _ a b=>lU it a || lU it b
 | .block _ b=>lU it b
 | .loop b=>lU it b
 | .scope b=>lU it b
 | .rangeFunc _ _ _ _=>true
 | _=>false
def oZ (P:Program)(n:Nat)(keep:Nat->Bool)(c:Code):Option RC:=(cC P n keep c).map (if lF c then RC.aB else RC.aE)
def lA (P:Program)(n:Nat)(keep:Nat->Bool)(it:Bool):Code->Option RC
 | .region id ops d=>if lU it (.region id ops d) then (uU P n keep ops ops.toList).map fun (pre,d,x,az,post)=>.aI pre d x az post else oZ P n keep (.region id ops d)
 | .seq a b=>if lU it (.seq a b) then (match lA P n keep it a,lA P n keep it b with
  | some x,some y=>some (.aG x y)
  | _,_=>none) else oZ P n keep (.seq a b)
 | .cond c a b=>if lU it (.cond c a b) then (match lA P n keep it a,lA P n keep it b with
  | some x,some y=>some (.aC (cd keep c) x y)
  | _,_=>none) else oZ P n keep (.cond c a b)
 | .block id b=>if lU it (.block id b) then (lA P n keep it b).map (.aA id) else oZ P n keep (.block id b)
 | .loop b=>if lU it (.loop b) then (lA P n keep it b).map .aD else oZ P n keep (.loop b)
 | .scope b=>if lU it (.scope b) then none else oZ P n keep (.scope b)
 | .rangeFunc g ps x y=>if lF x && lF y && ps.toList.all (λp=>decide (p<n) && keep p) then (match cC P n keep x,cC P n keep y with
  | some aa,some ab=>some (.aF (cd keep g) ps.toList aa ab)
  | _,_=>none) else none
 | c=>oZ P n keep c
def vV (wb:World)(G:Gh)(w:World)(ds:List Deferred)(q:Bool):Prop:=
 ds=[]\/q=true/\∃D,ds=[sM D]/\mD G w D/\w.heap[D]?=some (.deferred (some []))/\wb.heap.size<=D
theorem vV.aA {wb G w G' w' ds q}(m:vV wb G w ds q)(s:gE G w G' w'):vV wb G' w' ds q:=by
 rcases m with h | ⟨hq,D,h1,h2,h3,h4⟩;·exact .inl h
 ·exact .inr ⟨hq,D,h1,h2.x (s.x (λ_=>False)),(s.aD D h2.1 h2.2.1).trans h3,h4⟩
structure qu (P:Program)(Gb:Gh)(wb:World)(X:Nat->Prop)(T:Option AX->Gh->World->Prop)(l:Nat)(Y:Yl):Prop where
 aA:∀j G w G' w',T j G w->gE G w G' w'->T j G' w'
 aB:∀m avs h R G w vs,Y avs h R->fS G w h->VL G w avs vs->T none G w->jh X Gb wb G w->YieldAt Fence.wide m P l vs w λe w'=>
 ∃(j:Option AX)(h':eZ)(G':Gh),e=.returned (.bool j.isNone)/\R j h'/\fS G' w' h'/\jh X G w G' w'/\T j G' w'
structure m9 (n:Nat)(keep:Nat->Bool)(Gb:Gh)(wb:World)(X:Nat->Prop)(T:Option AX->Gh->World->Prop)(s:RS)(G:Gh)(w:World)(a0:Act)(ds:List Deferred):Prop where
 sr:SR n keep G w G w s.st a0
 aA:jh X Gb wb G w
 aD:T s.j G w
 aB:vV wb G w ds s.q
def AX.ex:AX->Exit
 | .aA=>.normal
 | .aC id=>.exit id
 | .aB=>.ret
def rL (n:Nat)(keep:Nat->Bool)(Gb:Gh)(wb:World)(X:Nat->Prop)(T:Option AX->Gh->World->Prop)(K:AX->RS->Prop)(e:Exit)(a:Act)(w:World):Prop:=
 ∃(x:AX)(s:RS)(G:Gh)(a0:Act)(ds:List Deferred),e=x.ex/\a=wd a0 ds/\m9 n keep Gb wb X T s G w a0 ds/\K x s
variable {Gb:Gh} {wb:World} {X:Nat->Prop} {T:Option AX->Gh->World->Prop} {l:Nat} {Y:Yl} {m:Nat}
theorem m9.aC (sd:qu P Gb wb X T l Y){s:RS}{G w a0 ds}(r:m9 n keep Gb wb X T s G w a0 ds){G' w' st' a'}(sr:SR n keep G w G' w' st' a'):m9 n keep Gb wb X T ⟨s.j,s.q,st'⟩ G' w' a' ds:=
 ⟨⟨sr.aA,sr.aD,sr.aB,sr.L,sr.R,gE.aC _ _⟩,r.aA.aD (sr.aC.x X),sd.aA _ _ _ _ _ r.aD sr.aC,r.aB.aA sr.aC⟩
theorem HO (sd:qu P Gb wb X T l Y){s:RS}{G w a0 ds}(r:m9 n keep Gb wb X T s G w a0 ds){K:AX->RS->Prop}{e a1 w1}(h:yB n keep G w (λx u=>K x ⟨s.j,s.q,u⟩) e a1 w1):rL n keep Gb wb X T K e (wd a1 ds) w1:=by
 cases e with
 | normal=>obtain⟨G',u,b,hk⟩:=h;exact⟨.aA,_,G',a1,ds,rfl,rfl,r.aC sd b,hk⟩
 | exit id=>obtain⟨G',u,b,hk⟩:=h;exact⟨.aC id,_,G',a1,ds,rfl,rfl,r.aC sd b,hk⟩
 | ret=>obtain⟨G',u,b,hk⟩:=h;exact⟨.aB,_,G',a1,ds,rfl,rfl,r.aC sd b,hk⟩
 | goto t=>exact h.elim
 | panic c=>exact h.elim
 | outgrown=>exact h.elim
theorem mL (sd:qu P Gb wb X T l Y){c:Code}{rc:RC}(hc:oZ P n keep c=some rc){s:RS}{G w a0 ds}(r:m9 n keep Gb wb X T s G w a0 ds){K:AX->RS->Prop}(hk:iA P l Y rc s K):
  c.wpIn Fence.wide m P (rL n keep Gb wb X T K) (wd a0 ds) w:=by
 simp only[oZ,Vu]at hc;obtain⟨ac,C,rfl⟩:=hc;by_cases hq:lF c=true;·rw[Vf hq]at hk;refine wpIn_mono (uV (m:=m) sO ds c ac C r.sr hk) ?_;rintro e _ w1 ⟨a1,rfl,hp⟩;exact HO sd r hp
 ·rw[Ve hq]at hk;obtain⟨E,hk⟩:=hk;have I:ds=[]:=by
   rcases r.aB with h | ⟨h,-⟩;·exact h
   ·rw[E]at h;cases h
  subst I;rw[pj r.sr.aB];refine wpIn_wide.2 (wp_mono (xP c ac C r.sr hk) ?_);intro e a1 w1 hp;have:=HO sd r hp;have hd:a1.defers=[]:=by
   cases e with
   | normal=>obtain⟨G',u,b,-⟩:=hp;exact b.aB
   | exit id=>obtain⟨G',u,b,-⟩:=hp;exact b.aB
   | ret=>obtain⟨G',u,b,-⟩:=hp;exact b.aB
   | goto t=>exact hp.elim
   | panic c=>exact hp.elim
   | outgrown=>exact hp.elim
  rwa [pj hd]at this
theorem SR.aG {G0 w0 G w st a G' w' h'}(sr:SR n keep G0 w0 G w st a)(k:gU G w G' w')(g:fS G' w' h'):SR n keep G' w' G' w' {st with h:=h'} a:=
 ⟨g,sr.aD,sr.aB,λs hk=>(sr.L s hk).aA k,λs hk=>(sr.R s hk).aA k,gE.aC _ _⟩
theorem Lo {o:Oper}(ho:CY o=true){x:fJ}{az:List fJ}(h:kJ P (cd keep) o=some (.aC x az)):
  ∃(y:Operand)(args:Array Operand),x=cd keep y/\az=args.toList.map (cd keep)/\∀(a:Act)(w:World)(l:Nat),a.eval y=.func (.yield l) #[] #[]->(execOp a.eval o).run P w=(Instr.yield l (args.map a.eval)).run P w:=by
 unfold kJ at h;split at h;·cases h
 ·split at h;·cases h
  ·split at h;·cases h
   ·rename_i y args tys hne t;cases h;refine⟨y,args,rfl,rfl,λa w l hy=>?_⟩;obtain⟨dst,op,type,pos,after,guard⟩:=o;have b:op=_:=t;subst b;simp[execOp,resolve,hy,Deferred.ofValue,invoke]
   ·cases h
theorem Tz (sd:qu P Gb wb X T l Y){ops:Array Oper}{s:RS}(hq:s.q=false)(hj:s.j=none){K:AX->RS->Prop}:
  ∀(lo:List Oper){pre d x az post} (_:uU P n keep ops lo=some (pre,d,x,az,post)) {st:St} {G w a0} (_:m9 n keep Gb wb X T ⟨s.j,s.q,st⟩ G w a0 [])
   (_:gP P pre st λs1=>s1.aA x=.aO (.func (.yield l) #[] #[]) /\
    Y (az.map s1.aA) s1.h λj h'=>gP P post {s1.aB d (.aD j.isNone) with h:=h'} λs2=>K .aA ⟨j,false,{s2 with R:=[]}⟩),
   wpListIn Fence.wide m P ops (rL n keep Gb wb X T K) lo (wd a0 []) w:=by
 intro lo;induction lo with
 | nil=>intro pre d x az post h;simp[uU]at h
 | cons o r ih=>
  intro pre d x az post h st G w a0 rs hk;simp only[uU]at h;split at h
  ·rename_i a8;split at h
   ·rename_i x' ad a9;split at h
    ·rename_i d' C ab hd E;cases h;simp only[gP]at hk;obtain⟨hx,hk⟩:=hk;obtain⟨y,args,rfl,rfl,O⟩:=Lo a8 a9;unfold wpListIn;rw[Vf (by simp[Region.wanted,ab])];have M:=rs.sr.aE y;have a4:st.aA (cd keep y)=.aO (.func (.yield l) #[] #[]):=hx;rw[a4]at M;generalize hv:a0.eval y=fv at M;cases M;have a5:VL G w ((args.toList.map (cd keep)).map st.aA) (args.map a0.eval):=
      ⟨by simp,λj c v hc a6=>VL.aA rs.sr.aE args.toList j c v (by simpa using hc) (by simpa using a6)⟩
     have t:=rs.aD;simp only[hj]at t;obtain⟨fn,tmps,assign,body,hy,hr⟩:=sd.aB (m-1) _ _ _ G w _ hk rs.sr.aA a5 t rs.aA;refine⟨λf _=>Vp,?_⟩;rw[qW,n9 ((O a0 w l hv).trans hy) (by simp),Oper.uponIn_round];refine⟨λh=>(by cases h),RoundIn.mono hr ?_⟩;rintro e w' ⟨j,h',G',rfl,hR,hg,a1,hT⟩;show wpListIn Fence.wide m P ops _ r ((wd a0 []).put o.dst (.bool j.isNone)) w';rw[mS];have W:=(rs.sr.aG a1.aA hg).aF hd hg (gE.aC G' w') (.aF j.isNone);have e1:({({st with h:=h'}:St).aB d (.aD j.isNone) with h:=h'}:St)={st.aB d (.aD j.isNone) with h:=h'}:=by cases d<;>rfl
     rw[e1]at W;have:=xO (m:=m) (ops:=ops) (Q:=rL n keep Gb wb X T K) (r:=[]) sO [] (n:=n) (keep:=keep) (G0:=G') (w0:=w') (k:=λs2=>K .aA ⟨j,false,{s2 with R:=[]}⟩) ?_ r post W E hR;·rwa [Wo]at this
     ·intro G2 w2 a3 a2 b U;refine⟨.aA,_,G2,a2,[],rfl,rfl,⟨⟨b.aA,b.aD,b.aB,b.L,λ_ _=>.aI _,gE.aC _ _⟩,(rs.aA.aD a1).aD (b.aC.x X),sd.aA _ _ _ _ _ hT b.aC,.inl rfl⟩,U⟩
    ·cases h
   ·cases h
  ·split at h
   ·rename_i ao u d' x' ad C ac a7;cases h;have:gP P [ao] st (λI=>gP P u I λs1=>s1.aA x=.aO (.func (.yield l) #[] #[]) /\
      Y (az.map s1.aA) s1.h λj h'=>gP P post {s1.aB d (.aD j.isNone) with h:=h'} λs2=>K .aA ⟨j,false,{s2 with R:=[]}⟩):=hk
    have h1:=xO (m:=m) (ops:=ops) (Q:=rL n keep Gb wb X T K) (r:=r) sO [] (n:=n) (keep:=keep) (G0:=G) (w0:=w) (k:=λI=>gP P u I λs1=>s1.aA x=.aO (.func (.yield l) #[] #[]) /\
      Y (az.map s1.aA) s1.h λj h'=>gP P post {s1.aB d (.aD j.isNone) with h:=h'} λs2=>K .aA ⟨j,false,{s2 with R:=[]}⟩) ?_ [o] [ao] rs.sr (by simp only[pI,ac]) this
    ·exact h1
    ·intro G2 w2 a3 a2 b U;exact ih a7 (rs.aC sd b) U
   ·cases h
theorem Ix (sd:qu P Gb wb X T l Y){it:Bool}:∀(c:Code)(rc:RC),lA P n keep it c=some rc->∀{K:AX->RS->Prop}{s:RS}{G w a0 ds},m9 n keep Gb wb X T s G w a0 ds->iA P l Y rc s K->
  c.wpIn Fence.wide m P (rL n keep Gb wb X T K) (wd a0 ds) w:=by
 intro c;induction c with
 | skip=>intro rc hc K s G w a0 ds r hk;exact mL sd hc r hk
 | ret=>intro rc hc K s G w a0 ds r hk;exact mL sd hc r hk
 | exit id=>intro rc hc K s G w a0 ds r hk;exact mL sd hc r hk
 | label id=>intro rc hc K s G w a0 ds r hk;exact mL sd hc r hk
 | goto id=>intro rc hc K s G w a0 ds r hk;exact mL sd hc r hk
 | refuse id=>intro rc hc K s G w a0 ds r hk;exact mL sd hc r hk
 | scope b ih=>
  intro rc hc K s G w a0 ds r hk;simp only[lA]at hc;split at hc;·cases hc
  ·exact mL sd hc r hk
 | region id ops draw=>
  intro rc hc K s G w a0 ds r hk;simp only[lA]at hc;split at hc
  ·rename_i hh;simp only[Vu]at hc;obtain⟨⟨pre,d,x,az,post⟩,a3,rfl⟩:=hc;have a6:draw=false:=by
    cases draw with
    | false=>rfl
    | true=>simp[lU]at hh
   subst a6;obtain⟨hq,hj,hk⟩:=hk;have a2:ds=[]:=by
    rcases r.aB with h | ⟨h,-⟩;·exact h
    ·rw[hq]at h;cases h
   subst a2;refine wpIn_region_list ?_;exact Tz sd hq hj ops.toList a3 r hk
  ·exact mL sd hc r hk
 | seq x y ihx ihy=>
  intro rc hc K s G w a0 ds r hk;simp only[lA]at hc;split at hc
  ·split at hc
   ·rename_i ax ay hx hy;cases hc;refine wpIn_seq (wpIn_mono (ihx ax hx r hk) ?_);rintro e _ w' ⟨z,s',G',a1,C,rfl,rfl,r',u⟩;cases z with
    | aA=>exact ihy ay hy r' u
    | aC id=>exact⟨_,s',G',a1,C,rfl,rfl,r',u⟩
    | aB=>exact⟨_,s',G',a1,C,rfl,rfl,r',u⟩
   ·cases hc
  ·exact mL sd hc r hk
 | cond x y z ihy ihz=>
  intro rc hc K s G w a0 ds r hk;simp only[lA]at hc;split at hc
  ·split at hc
   ·rename_i ay az hy hz;cases hc;simp only[iA]at hk;split at hk
    ·rename_i t ht;have hv:=r.sr.aE x;rw[ht]at hv;generalize he:a0.eval x=v at hv;cases hv;refine wpIn_cond_split (by rw[qW];exact he) (λe=>?_) (λe=>?_);·exact ihy ay hy r (hk.1 e)
     ·exact ihz az hz r (hk.2 e)
    ·exact hk.elim
   ·cases hc
  ·exact mL sd hc r hk
 | block id b ih=>
  intro rc hc K s G w a0 ds r hk;simp only[lA]at hc;split at hc
  ·simp only[Vu]at hc;obtain⟨ab,hb,rfl⟩:=hc;refine wpIn_block (wpIn_mono (ih ab hb r hk) ?_);rintro e _ w' ⟨z,s',G',a1,C,rfl,rfl,r',u⟩;cases z with
   | aA=>exact⟨.aA,s',G',a1,C,rfl,rfl,r',u⟩
   | aC id'=>
    simp only at u;simp only[AX.ex,Exit.inBlock];split<;>rename_i h;·rw[Vf h]at u;exact⟨.aA,s',G',a1,C,rfl,rfl,r',u⟩
    ·rw[Ve h]at u;exact⟨.aC id',s',G',a1,C,rfl,rfl,r',u⟩
   | aB=>exact⟨.aB,s',G',a1,C,rfl,rfl,r',u⟩
  ·exact mL sd hc r hk
 | loop b ih=>
  intro rc hc K s G w a0 ds r hk;simp only[lA]at hc;split at hc
  ·simp only[Vu]at hc;obtain⟨ab,hb,rfl⟩:=hc;obtain⟨I,⟨k,s0,W,h0⟩,M⟩:=hk;obtain⟨G',E⟩:=W n keep G w G w a0 r.sr;refine wpIn_loop_ghost (λk a w=>∃s G a0 ds,a=wd a0 ds/\m9 n keep Gb wb X T s G w a0 ds/\I k s) k ⟨_,G',a0,ds,rfl,r.aC sd E,h0⟩ ?_;rintro k _ w ⟨s,G,a0,ds,rfl,r,hI⟩;refine wpIn_mono (ih ab hb r (M k s hI)) ?_;rintro e _ w' ⟨z,s',G',a1,C,rfl,rfl,r',u⟩;cases z with
   | aA=>obtain⟨m',s0,hlt,W,a9⟩:=u;obtain⟨ac,U⟩:=W n keep G' w' G' w' a1 r'.sr;exact⟨m',hlt,_,ac,a1,C,rfl,r'.aC sd U,a9⟩
   | aC id=>exact⟨.aC id,s',G',a1,C,rfl,rfl,r',u⟩
   | aB=>exact⟨.aB,s',G',a1,C,rfl,rfl,r',u⟩
  ·exact mL sd hc r hk
 | rangeFunc g ps x y _ _=>
  intro rc hc K s G w a0 ds r hk;simp only[lA]at hc;split at hc
  ·rename_i hh;simp only[VF,Ww,V4]at hh;split at hc
   ·rename_i aa ab a8 a7;cases hc;obtain⟨hq,gf,cs,Kn,Ks,hg,hf,a5,hn,hs⟩:=hk;have a2:ds=[]:=by
     rcases r.aB with h | ⟨h,-⟩;·exact h
     ·rw[hq]at h;cases h
    subst a2;refine wpIn_mono (Rc hh.2 hh.1.1 hh.1.2 a8 a7 r.sr [] hg hf a5 (K:=λx O=>K x ⟨s.j,true,O⟩) hn hs m) ?_;rintro e _ w' ⟨a1,D,z,G',O,rfl,fD,hD,a4,E,u,he⟩;refine⟨z,⟨s.j,true,O⟩,G',a1,[sM D],?_,rfl,⟨⟨E.aA,E.aD,E.aB,E.L,E.R,gE.aC _ _⟩,r.aA.aD (E.aC.x X),sd.aA _ _ _ _ _ r.aD E.aC,.inr ⟨rfl,D,rfl,fD,hD,Vr r.aA.aB a4⟩⟩,u⟩;cases z<;>exact he
   ·cases hc
  ·cases hc
end
structure qm where
 n:Nat
 aC:Nat->Bool
 aA:RC
 aB:List jH
def rV (P:Program)(keep:Nat->Bool)(it:Bool)(f:FuncId):Option qm:=
 match P.funcs[f]? with
 | some fn=>match fn.body with
  | some c=>match lA P fn.ntmps keep it c,nT P keep fn.results.toList with
   | some ac,some res=>some ⟨fn.ntmps,keep,ac,res⟩
   | _,_=>none
  | none=>none
 | none=>none
def vU (P:Program)(it:Bool)(f:FuncId)(c:qm):Prop:=fI P f=true/\rV P c.aC it f=some c
section
variable {n:Nat} {keep:Nat->Bool} {P:Program}
theorem jh.aL {X X':Nat->Prop}{G w G1 w1 G2 w2}(a:jh X G w G1 w1)(b:jh X' G1 w1 G2 w2)(h:∀b,X' b->w.heap.size<=b):jh X G w G2 w2 where
 aA:=a.aA.aF b.aA
 S:=⟨λx h=>b.S.1 x (a.S.1 x h),λx h=>(b.S.2 x h).elim (a.S.2 x) (λh=>.inr (Vr a.aB h))⟩
 aF n h:=by rw[b.aF n (Vy h a.aA.N),a.aF n h]
 aG n h:=(b.aG n (Vy h a.aA.N)).trans (a.aG n h)
 aB:=Vr a.aB b.aB
 aE x hx hn hX:=by
  rw[b.aE x (Vy hx a.aB) ?_ (λt=>by have:=h x t;omega),a.aE x hx hn hX];intro ho;rcases a.aC x ho with h | h;·exact hn h
  ·omega
 aC x hx:=by
  rcases b.aC x hx with h | h;·exact a.aC x h
  ·exact .inr (Vr a.aB h)
 aI:=a.aI.aB b.aI
theorem xk {vs:Array Value}{G:Gh}{w:World}{h:eZ}{b:List AV}(hg:fS G w h)(hv:VL G w b vs)(hn:b.length<=n):
  SR n keep G w G w (np keep b h) {tmps:=vs++Array.replicate (n-vs.size) undef,defers:=[]}:=by
 have hle:vs.size<=n:=by rw[<-hv.1];exact hn
 have u:∀(p:Nat->Bool)(s:Nat),V G w (lk s (mK p 0 b)) ((vs++Array.replicate (n-vs.size) undef).getD s undef):=by
  intro p s;rcases Hl p b 0 s with e | ⟨_,e⟩;·rw[e];exact .aI _
  ·simp only[Nat.sub_zero]at e;obtain⟨v,t,hV⟩:=hv.aB e;have hlt:=(Wj.1 t).1;have:(vs++Array.replicate (n-vs.size) undef).getD s undef=v:=by simp[WX,hlt];have:=t;simp[hlt]at this;exact this
   rw[this];exact hV
 exact⟨hg,by simp;omega,rfl,λs _=>u keep s,λs _=>u _ s,gE.aC G w⟩
def y1 (res:List jH)(K:AV->eZ->Prop)(x:AX)(s:RS):Prop:=ia res K x s.st
theorem R8 {f:FuncId}{fn:qm}(hf:rV P keep false f=some fn){C:List AV}(hn:C.length<=fn.n){h:eZ}{K:AV->eZ->Prop}
  (hk:iA P 0 (λ_ _ _=>False) fn.aA ⟨none,false,np keep C h⟩ (y1 fn.aB K)):fy P f C h K:=by
 unfold rV at hf;split at hf
 ·rename_i fd M;split at hf
  ·rename_i c hc;split at hf
   ·rename_i ac res O u;cases hf;intro G w vs hg hv;refine (callsIn_wide (n:=0)).1 (callsIn_of_wp_marks M hc Vp ?_);have sd:qu P G w (λ_=>False) (λ_ _ _=>True) 0 (λ_ _ _=>False):=⟨λ_ _ _ _ _ _ _=>Vp,λ_ _ _ _ _ _ _ h=>h.elim⟩;have r0:m9 fd.ntmps keep G w (λ_=>False) (λ_ _ _=>True) ⟨none,false,np keep C h⟩ G w {tmps:=vs++Array.replicate (fd.ntmps-vs.size) undef,defers:=[]} []:=
     ⟨xk hg hv hn,jh.aK _ _ _,Vp,.inl rfl⟩
    have hw:=Ix (m:=0) sd c ac O r0 hk;rw[pj rfl]at hw;refine wpIn_mono hw ?_;rintro e _ w' ⟨z,s,G',a0,ds,rfl,rfl,r,hK⟩;have fin:ia res K .aB s.st->LeavesInM Fence.wide 0 P fd (wd a0 ds).tmps (λe w'=>∃v r h' G',e=.returned v/\K r h'/\fS G' w' h'/\V G' w' r v/\gE G w G' w') ds .returning w':=by
     intro hK;simp only[ia]at hK;split at hK
     ·rename_i l hl;rcases r.aB with rfl | ⟨-,D,rfl,fD,hD,I⟩;·obtain⟨v,t,hV⟩:=sZ (P:=P) r.sr u hl;exact⟨v,t,v,_,_,G',rfl,hK,r.sr.aA,hV,r.aA.aJ (λ_ h=>h.elim)⟩
      ·obtain⟨g2,s2⟩:=fS.aU r.sr.aA (o':=.deferred none) fD hD rfl rfl;have E:SR fd.ntmps keep G' _ G' _ s.st a0:=r.sr.aG s2.aA g2;obtain⟨v,t,hV⟩:=sZ (P:=P) E u hl;refine⟨by simp,.inl ⟨D,_,rfl,run_takeDeferred hD,v,t,v,_,_,G',rfl,hK,g2,hV,(r.aA.aL s2 (λb hb=>hb▸I)).aJ (λ_ h=>h.elim)⟩⟩
     ·exact hK.elim
    cases z with
    | aA=>exact fin hK
    | aB=>exact fin hK
    | aC id=>exact hK.elim
   ·cases hf
  ·cases hf
 ·cases hf
def qz (Kn:eZ->Prop)(Ks:AX->eZ->Prop):AX->RS->Prop
 | .aC _,_=>False
 | _,s=>s.q=false/\match s.j with
 | none=>Kn s.st.h
 | some x=>Ks x s.st.h
theorem Sd {f:FuncId}{fn:qm}(hf:rV P keep true f=some fn) (hr:fn.aB=[]) {cs:List AV} (hn:cs.length+1<=fn.n) {h:eZ} {Y:Yl} {Kn:eZ->Prop} {Ks:AX->eZ->Prop}
  (hk:∀l,iA P l Y fn.aA ⟨none,false,np keep (.aO (.func (.yield l) #[] #[]) :: cs) h⟩ (qz Kn Ks)):tp P f cs h Y Kn Ks:=by
 unfold rV at hf;split at hf
 ·rename_i fd W;split at hf
  ·rename_i c hc;split at hf
   ·rename_i ac res a2 I;cases hf;subst hr;intro m l C dn G w vs hy hg hv fl hl;refine callsIn_of_wp_marks W hc Vp ?_;have sd:qu P G w (λb=>b=l) (λj G w=>mD G w l/\w.heap[l]?=some (match j with | none=>C | some x=>dn x)) l Y:=by refine⟨λj G w G' w' h s=>⟨h.1.x (s.x (λ_=>False)),(s.aD l h.1.1 h.1.2.1).trans h.2⟩,λm a3 h R G' w' M hY g v t s=>?_⟩;obtain⟨fn,tmps,az,bd,h1,h2⟩:=hy m a3 h R hY G' w' M g v t.1 t.2 s;refine⟨fn,tmps,az,bd,h1,RoundIn.mono h2 ?_⟩;rintro e w2 ⟨j,h',G2,he,hR,g2,s2,U⟩;exact⟨j,h',G2,he,hR,g2,s2,t.1.x s2,U⟩
    have O:VL G w (.aO (.func (.yield l) #[] #[]) :: cs) (#[.func (.yield l) #[] #[]]++vs):=VL.aD (cs:=[.aO (.func (.yield l) #[] #[])]) (vs:=#[.func (.yield l) #[] #[]]) ⟨rfl,λj c v h1 h2=>by
      cases j with
      | zero=>simp at h1 h2;subst h1;subst h2;exact .aP _
      | succ j=>simp at h1⟩ hv
    have r0:m9 fd.ntmps keep G w (λb=>b=l) (λj G w=>mD G w l/\w.heap[l]?=some (match j with | none=>C | some x=>dn x)) ⟨none,false,np keep (.aO (.func (.yield l) #[] #[]) :: cs) h⟩ G w
      {tmps:=(#[.func (.yield l) #[] #[]]++vs)++Array.replicate (fd.ntmps-(#[Value.func (.yield l) #[] #[]]++vs).size) undef,defers:=[]} []:=
     ⟨xk hg O (by simpa using hn),jh.aK _ _ _,⟨fl,hl⟩,.inl rfl⟩
    have hw:=Ix (m:=m) sd c ac a2 r0 (hk l);rw[pj rfl]at hw;refine wpIn_mono hw ?_;rintro e _ w' ⟨z,s,G',a0,ds,rfl,rfl,r,hK⟩;have fin:qz Kn Ks .aB s->LeavesInM Fence.wide m P fd (wd a0 ds).tmps (λe w'=>(∃v,e=.returned v)/\∃(h':eZ)(G':Gh),fS G' w' h'/\jh (λb=>b=l) G w G' w' /\
       ((w'.heap[l]?=some C/\Kn h')\/∃x,w'.heap[l]?=some (dn x)/\Ks x h')) ds .returning w':=by
     rintro⟨hq,hK⟩;have a1:ds=[]:=by
      rcases r.aB with h | ⟨h,-⟩;·exact h
      ·rw[hq]at h;cases h
     subst a1;obtain⟨v,E,-⟩:=sZ (P:=P) r.sr I (l:=[]) rfl;refine⟨v,E,⟨v,rfl⟩,s.st.h,G',r.sr.aA,r.aA,?_⟩;have u:=r.aD;cases hj:s.j with
     | none=>rw[hj]at u hK;exact .inl ⟨u.2,hK⟩
     | some x=>rw[hj]at u hK;exact .inr ⟨x,u.2,hK⟩
    cases z with
    | aA=>exact fin hK
    | aB=>exact fin hK
    | aC id=>exact hK.elim
   ·cases hf
  ·cases hf
 ·cases hf
end
section
variable {P:Program} {l:Nat} {Y:Yl}
def kR (j:Option AX)(q:Bool)(K:AX->RS->Prop):AX->St->Prop:=λx st=>K x ⟨j,q,st⟩
def xA (P:Program)(l:Nat)(Y:Yl)(b:RC)(K:AX->RS->Prop):AX->RS->Prop
 | .aA,s=>iA P l Y b s K
 | .aC id,s=>K (.aC id) s
 | .aB,s=>K .aB s
def xz (id:Nat)(K:AX->RS->Prop):AX->RS->Prop
 | .aA,s=>K .aA s
 | .aC id',s=>if id'=id then K .aA s else K (.aC id') s
 | .aB,s=>K .aB s
def De (P:Program)(l:Nat)(Y:Yl)(v:AV)(a b:RC)(s:RS)(K:AX->RS->Prop):Prop:=
 match v with
 | .aD t=>(t=true->iA P l Y a s K)/\(t=false->iA P l Y b s K)
 | _=>False
def uN (I:Nat->fY->eZ->Prop)(m:Nat)(K:AX->RS->Prop):AX->RS->Prop
 | .aA,s=>∃m',m'<m/\s.j=none/\s.q=false/\s.st.R=[]/\I m' s.st.L s.st.h
 | .aC id,s=>K (.aC id) s
 | .aB,s=>K .aB s
def rY (P:Program)(l:Nat)(Y:Yl)(d:ju)(x:fJ)(az:List fJ)(post:List AO)(K:AX->RS->Prop):St->Prop:=λs1=>s1.aA x=.aO (.func (.yield l) #[] #[])/\Y (az.map s1.aA) s1.h λj h'=>gP P post {s1.aB d (.aD j.isNone) with h:=h'} (uD (kR j false K))
theorem Pj (j:Option AX)(q:Bool)(K:AX->RS->Prop)(x:AX)(st:St):kR j q K x st=K x ⟨j,q,st⟩:=Vn rfl rfl
theorem SQ (a:AC)(j:Option AX)(q:Bool)(st:St)(K:AX->RS->Prop):iA P l Y (.aB a) ⟨j,q,st⟩ K=vc P a st (kR j q K):=Vn rfl rfl
theorem SW (a:AC)(j:Option AX)(st:St)(K:AX->RS->Prop):iA P l Y (.aE a) ⟨j,false,st⟩ K=vc P a st (kR j false K):=by show (false=false/\vc P a st (kR j false K))=_;simp only[true_and]
theorem SY (a b:RC)(s:RS)(K:AX->RS->Prop):iA P l Y (.aG a b) s K=iA P l Y a s (xA P l Y b K):=by simp only[iA];congr 1;funext x st';cases x<;>rfl
theorem SP (id:Nat)(b:RC)(s:RS)(K:AX->RS->Prop):iA P l Y (.aA id b) s K=iA P l Y b s (xz id K):=by simp only[iA];congr 1;funext x st';cases x<;>rfl
theorem SS (c:fJ)(a b:RC)(j:Option AX)(q:Bool)(st:St)(K:AX->RS->Prop):iA P l Y (.aC c a b) ⟨j,q,st⟩ K=De P l Y (st.aA c) a b ⟨j,q,st⟩ K:=by
 show (match st.aA c with
  | .aD t=>(t=true->iA P l Y a ⟨j,q,st⟩ K)/\(t=false->iA P l Y b ⟨j,q,st⟩ K)
  | _=>False)=De P l Y (st.aA c) a b ⟨j,q,st⟩ K
 unfold De;generalize st.aA c=v;cases v<;>rfl
theorem Q7 (b:RC)(K:AX->RS->Prop)(s:RS):xA P l Y b K .aA s=iA P l Y b s K:=Vn rfl rfl
theorem Q6 (b:RC)(K:AX->RS->Prop)(id:Nat)(s:RS):xA P l Y b K (.aC id) s=K (.aC id) s:=Vn rfl rfl
theorem Q8 (b:RC)(K:AX->RS->Prop)(s:RS):xA P l Y b K .aB s=K .aB s:=Vn rfl rfl
theorem QW (id:Nat)(K:AX->RS->Prop)(s:RS):xz id K .aA s=K .aA s:=Vn rfl rfl
theorem QV (id b:Nat)(K:AX->RS->Prop)(s:RS):xz id K (.aC b) s=if b=id then K .aA s else K (.aC b) s:=Vn rfl rfl
theorem QX (id:Nat)(K:AX->RS->Prop)(s:RS):xz id K .aB s=K .aB s:=Vn rfl rfl
theorem Q4 (I:Nat->fY->eZ->Prop)(m:Nat)(K:AX->RS->Prop)(L:fY)(h:eZ):uN I m K .aA ⟨none,false,⟨L,[],h⟩⟩=∃m',m'<m/\I m' L h:=by simp[uN]
theorem Q1 (I:Nat->fY->eZ->Prop)(m:Nat)(K:AX->RS->Prop)(id:Nat)(s:RS):uN I m K (.aC id) s=K (.aC id) s:=Vn rfl rfl
theorem Q5 (I:Nat->fY->eZ->Prop)(m:Nat)(K:AX->RS->Prop)(s:RS):uN I m K .aB s=K .aB s:=Vn rfl rfl
theorem SZ (pre:List AO)(d:ju)(x:fJ)(az:List fJ)(post:List AO)(st:St)(K:AX->RS->Prop):
  iA P l Y (.aI pre d x az post) ⟨none,false,st⟩ K=gP P pre st (rY P l Y d x az post K):=by
 simp only[iA,true_and];rfl
theorem Q9 (d:ju)(x:fJ)(az:List fJ)(post:List AO)(K:AX->RS->Prop)(s1:St):rY P l Y d x az post K s1 =
 (s1.aA x=.aO (.func (.yield l) #[] #[])/\Y (az.map s1.aA) s1.h λj h'=>gP P post {s1.aB d (.aD j.isNone) with h:=h'} (uD (kR j false K))):=Vn rfl rfl
theorem KY (res:List jH)(K:AV->eZ->Prop)(x:AX)(j:Option AX)(q:Bool)(st:St):y1 res K x ⟨j,q,st⟩=ia res K x st:=Vn rfl rfl
theorem SV:∀(c:RC){s:RS}{K K':AX->RS->Prop},(∀x s,K x s->K' x s)->(∀u h (R R':Option AX->eZ->Prop),(∀j h,R j h->R' j h)->Y u h R->Y u h R')->iA P l Y c s K->iA P l Y c s K':=by
 intro c;induction c with
 | aB a=>intro s K K' hk hY h;exact oi a (λx st=>hk _ _) h
 | aE a=>intro s K K' hk hY h;exact⟨h.1,oi a (λx st=>hk _ _) h.2⟩
 | aG a b iha ihb=>
  intro s K K' hk hY h;refine iha ?_ hY h;intro x s' hs;cases x with
  | aA=>exact ihb hk hY hs
  | aC id=>exact hk _ _ hs
  | aB=>exact hk _ _ hs
 | aC c a b iha ihb=>
  intro s K K' hk hY h;simp only[iA]at h ⊢;split;·rename_i t ht;rw[ht]at h;exact⟨λe=>iha hk hY (h.1 e),λe=>ihb hk hY (h.2 e)⟩
  ·rename_i C;split at h;·rename_i t ht;exact absurd ht (C t)
   ·exact h
 | aA id b ih=>
  intro s K K' hk hY h;refine ih ?_ hY h;intro x s' hs;cases x with
  | aA=>exact hk _ _ hs
  | aC id'=>
   simp only at hs ⊢;split at hs;·rename_i e;rw[Vf e];exact hk _ _ hs
   ·rename_i e;rw[Ve e];exact hk _ _ hs
  | aB=>exact hk _ _ hs
 | aD b ih=>
  rintro s K K' hk hY ⟨I,h0,hI⟩;refine⟨I,h0,λm s hs=>ih ?_ hY (hI m s hs)⟩;intro x s' hs;cases x with
  | aA=>exact hs
  | aC id=>exact hk _ _ hs
  | aB=>exact hk _ _ hs
 | aI pre d x az post=>rintro s K K' hk hY ⟨h1,h2,h⟩;refine⟨h1,h2,DA pre ?_ h⟩;rintro s1 ⟨hx,hy⟩;refine⟨hx,hY _ _ _ _ (λj h' hv=>DA post (λs2 hs=>hk _ _ hs) hv) hy⟩
 | aF g ps aa ab=>rintro s K K' hk hY ⟨h1,gf,cs,Kn,Ks,h2,h3,h4,h5,h6⟩;exact⟨h1,gf,cs,Kn,Ks,h2,h3,h4,λh' hn=>hk _ _ (h5 h' hn),λx h' hs=>⟨(h6 x h' hs).1,hk _ _ (h6 x h' hs).2⟩⟩
theorem SU (hY:∀t h (R R':Option AX->eZ->Prop),(∀j h,R j h->R' j h)->Y t h R->Y t h R')(I:Nat->fY->eZ->Prop)(m:Nat){b:RC}{L:fY}{h:eZ}{K:AX->RS->Prop}(h0:I m L h)
  (step:∀m L h,I m L h->iA P l Y b ⟨none,false,⟨L,[],h⟩⟩ (uN I m K)):iA P l Y (.aD b) ⟨none,false,⟨L,[],h⟩⟩ K:=by
 refine⟨λm s=>s.j=none/\s.q=false/\s.st.R=[]/\I m s.st.L s.st.h,⟨m,_,Wk.aA _,rfl,rfl,rfl,h0⟩,λm s hI=>?_⟩;obtain⟨j,q,L,R,h⟩:=s;obtain⟨h1,h2,h3,hI⟩:=hI;simp only at h1 h2 h3 hI;subst h1;subst h2;subst h3;refine SV b ?_ hY (step m L h hI);intro x s hs;cases x with
 | aA=>obtain⟨m',h1,h2,h3,h4,h5⟩:=hs;exact⟨m',s.st,h1,Wk.aA _,h2,h3,h4,h5⟩
 | aC id=>exact hs
 | aB=>exact hs
theorem Lf (aa ab:AC)(ps:List Nat)(L:fY):∀b h (R R':Option AX->eZ->Prop),(∀j h,R j h->R' j h)->oQ P aa ab ps L b h R->oQ P aa ab ps L b h R':=by rintro b h R R' hR ⟨h1,h2⟩;refine⟨h1,oi aa ?_ h2⟩;rintro x s ⟨hx,hb⟩;exact⟨hx,oi ab (λx s' hs=>hR _ _ hs) hb⟩
def kY (R:Option AX->eZ->Prop):AX->St->Prop
 | .aA,s=>R none s.h
 | .aC id,s=>R (some (.aC id)) s.h
 | .aB,s=>R (some .aB) s.h
def kA (P:Program)(ab:AC)(R:Option AX->eZ->Prop):AX->St->Prop
 | .aA,s=>vc P ab s (kY R)
 | _,_=>False
theorem Ld (aa ab:AC)(ps:List Nat)(L:fY)(b:List AV)(h:eZ)(R:Option AX->eZ->Prop)(hl:b.length=ps.length):oQ P aa ab ps L b h R=vc P aa ⟨qO (ps.zip b) L,[],h⟩ (kA P ab R):=by
 unfold oQ;rw[eq_iff_iff];constructor;·rintro⟨_,h⟩;refine oi aa ?_ h;rintro x s ⟨rfl,hb⟩;refine oi ab ?_ hb;intro x s' hs;cases x<;>exact hs
 ·intro h;refine⟨hl,oi aa ?_ h⟩;intro x s hb;cases x with
  | aA=>refine⟨rfl,oi ab ?_ hb⟩;intro x s' hs;cases x<;>exact hs
  | aC id=>exact hb.elim
  | aB=>exact hb.elim
theorem OW (ab:AC)(R:Option AX->eZ->Prop)(s:St):kA P ab R .aA s=vc P ab s (kY R):=Vn rfl rfl
theorem Pq (R:Option AX->eZ->Prop)(s:St):kY R .aA s=R none s.h:=Vn rfl rfl
theorem Pp (R:Option AX->eZ->Prop)(id:Nat)(s:St):kY R (.aC id) s=R (some (.aC id)) s.h:=Vn rfl rfl
theorem Pr (R:Option AX->eZ->Prop)(s:St):kY R .aB s=R (some .aB) s.h:=Vn rfl rfl
theorem SX {g:fJ}{ps:List Nat}{aa ab:AC}{j:Option AX}{L R:fY}{h:eZ}{K:AX->RS->Prop}{gf:FuncId}{cs:List AV}{Kn:eZ->Prop}{Ks:AX->eZ->Prop}
  (hg:St.aA ⟨L,R,h⟩ g=.aM gf [] cs) (hf:fI P gf=true) (b:tp P gf cs h (oQ P aa ab ps L) Kn Ks) (hn:∀h',Kn h'->K .aA ⟨j,true,⟨L,[],h'⟩⟩) (hs:∀x h',Ks x h'->x≠.aA/\K x ⟨j,true,⟨L,[],h'⟩⟩):
  iA P l Y (.aF g ps aa ab) ⟨j,false,⟨L,R,h⟩⟩ K:=
 ⟨rfl,gf,cs,Kn,Ks,hg,hf,b,hn,hs⟩
attribute [go_sem] Pj SQ SW SY SP SS Q7 Q6 Q8 QW QV QX Q4 Q1 Q5 SZ Q9 KY OW Pq Pp Pr
end
end Glb
