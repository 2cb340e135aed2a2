/-
  A library of its own.
-/
import Derived.Test.YtdeiamnhnfmilaaGreatGlbLibC
import Derived.OrdersIn
import Derived.TacticsIn
import Derived.RangeFuncOwn
import Derived.RangeFuncLeaves
set_option linter.unusedSimpArgs false
set_option linter.unusedVariables false
namespace Glb
open Go
structure jM (X:Nat->Prop)(G:Gh)(w:World)(G':Gh)(w':World):Prop where
 aA:ic G w G' w'
 S:(∀b,G.S b->G'.S b)/\∀b,G'.S b->G.S b\/w.heap.size<=b
 aG:∀n,n<G.N->G'.aA n=G.aA n
 aH:∀n,n<G.N->(G'.aE n↔G.aE n)
 aC:w.heap.size<=w'.heap.size
 aF:∀b,b<w.heap.size->¬G.aI b->¬X b->w'.heap[b]?=w.heap[b]?
 aD:∀b,G'.aI b->G.aI b\/w.heap.size<=b
 aI:jV w w'
theorem gI.x {G w G' w'}(s:gI G w G' w')(X:Nat->Prop):jM X G w G' w':=⟨s.aA,s.S,s.aF,s.aJ,s.aC,λb h1 h2 _=>s.aE b h1 h2,s.aG,s.aH⟩
theorem jM.aJ {X:Nat->Prop}{G w G' w'}(s:jM X G w G' w')(hX:∀b,X b->w.heap.size<=b):gI G w G' w':=
 ⟨s.aA,s.S,s.aG,s.aH,s.aC,λb h1 h2=>s.aF b h1 h2 λx=>by have:=hX b x;omega,s.aD,s.aI⟩
theorem jM.aK (X:Nat->Prop)(G w):jM X G w G w:=(gI.aD G w).x X
theorem jM.aE {X:Nat->Prop}{G w G1 w1 G2 w2}(a:jM X G w G1 w1)(b:jM X G1 w1 G2 w2):jM X G w G2 w2 where
 aA:=a.aA.aG b.aA
 S:=⟨λx h=>b.S.1 x (a.S.1 x h),λx h=>(b.S.2 x h).elim (a.S.2 x) (λh=>.inr (Vh a.aC h))⟩
 aG n h:=by rw[b.aG n (Vj h a.aA.N),a.aG n h]
 aH n h:=(b.aH n (Vj h a.aA.N)).trans (a.aH n h)
 aC:=Vh a.aC b.aC
 aF x hx hn hX:=by
  rw[b.aF x (Vj hx a.aC) ?_ hX,a.aF x hx hn hX];intro ho;rcases a.aD x ho with h | h;·exact hn h
  ·omega
 aD x hx:=by
  rcases b.aD x hx with h | h;·exact a.aD x h
  ·exact .inr (Vh a.aC h)
 aI:=a.aI.aC b.aI
def m9 (G:Gh)(w:World)(b:Nat):Prop:=b<w.heap.size/\¬G.aI b/\¬G.S b
theorem m9.x {X:Nat->Prop}{G w G' w' b}(f:m9 G w b)(s:jM X G w G' w'):m9 G' w' b:=
 ⟨Vj f.1 s.aC,λh=>(s.aD b h).elim f.2.1 λh=>by have:=f.1;omega,λh=>(s.S.2 b h).elim f.2.2 λh=>by have:=f.1;omega⟩
theorem Iq {w:World}{l:Nat}{o:Obj} (hl:w.heap[l]?=some o) (hc:o.isCells=false):w.shape? l=none:=by
 simp only[World.shape?,hl];cases o with
 | cells _ _ _=>simp[Obj.isCells]at hc
 | _=>rfl
theorem Gm {w:World}{a:Addr}{o:Obj} (hl:w.heap[a.block]?=some o) (hc:o.isCells=false):w.frozen? a=false:=by
 simp only[World.frozen?,hl];cases o with
 | cells _ _ _=>simp[Obj.isCells]at hc
 | _=>rfl
theorem SU {w:World}{l b:Nat}{o o':Obj} (hl:w.heap[l]?=some o) (hc:o.isCells=false) (u:o'.isCells=false):(w.putObj l o').shape? b=w.shape? b:=by
 by_cases e:b=l
 ·subst e;rw[Iq hl hc,Iq (World.putObj_heap_same (Wf.1 hl).1) u]
 ·simp only[World.shape?,World.putObj_heap_other e]
theorem MY {w:World}{l:Nat}{a:Addr}{o o':Obj} (hl:w.heap[l]?=some o) (hc:o.isCells=false) (u:o'.isCells=false):(w.putObj l o').frozen? a=w.frozen? a:=by
 by_cases e:a.block=l
 ·subst e;rw[Gm hl hc,Gm (World.putObj_heap_same (Wf.1 hl).1) u]
 ·simp only[World.frozen?,World.putObj_heap_other e]
theorem fO.aU {G w h} (g : fO G w h) {l : Nat} {o o' : Obj} (f : m9 G w l) (hl : w.heap[l]? = some o) (hc : o.isCells = false) (u : o'.isCells = false) :
    fO G (w.putObj l o') h /\ jM (λb => b = l) G w G (w.putObj l o') := by
  have hp : ∀ t b, G.aL t b -> b ≠ l := λt b hb e => by
    subst e
    cases t with
    | zero => exact f.2.2 hb
    | succ n => exact f.2.1 (.inr ⟨n, hb⟩)
  have k : ic G w G (w.putObj l o') := ⟨U8 _, λ_ _ _ h => h, λ_ _ h => h, λ_ _ h => h, λt b hb => World.putObj_heap_other (hp t b hb), λb _ => SU hl hc u⟩
  have ow : ∀ n b, G.aD n -> G.aA n = some b -> (w.putObj l o').heap[b]? = w.heap[b]? := λn b h1 h2 => World.putObj_heap_other (λe => f.2.1 (.inl ⟨n, h1, e ▸ h2⟩))
  refine ⟨{ aA := g.aA, aD := g.aD, aE := g.aE, inj := g.inj, aF := g.aF, aG := g.aG, aL := g.aL, aM := g.aM,
            aH := λn b hb => by rw [World.putObj_size]; exact g.aH n b hb, aJ := λb hb => by rw [World.putObj_size]; exact g.aJ b hb,
            aC := λn sz es gr b hn hb => (g.aC n sz es gr b hn hb).aA k (ow n b (g.aN hn hb) hb), aI := g.aI, aK := g.aK }, ?_⟩
  exact ⟨k, ⟨λ_ h => h, λ_ h => .inl h⟩, λ_ _ => rfl, λ_ _ => WA, by simp, λb _ _ hX => World.putObj_heap_other hX, λ_ h => .inl h, rfl, rfl, by simp, λa _ => MY hl hc u⟩
theorem fO.bw {G w h} (g : fO G w h) (o : Obj) : fO G (w.alloc o) h /\ gI G w G (w.alloc o) /\ m9 G (w.alloc o) w.heap.size := by
  have k : ic G w G (w.alloc o) := ⟨U8 _, λ_ _ _ h => h, λ_ _ h => h, λ_ _ h => h, λt b hb => nX (g.aQ hb), λb hb => Dj hb⟩;have fz : ∀ a : Addr, a.block < w.heap.size -> (w.alloc o).frozen? a = w.frozen? a := λa ha => by simp only [World.frozen?, nX ha]
  refine ⟨{ aA := g.aA, aD := g.aD, aE := g.aE, inj := g.inj, aF := g.aF, aG := g.aG, aL := g.aL, aM := g.aM,
            aH := λn b hb => by rw [World.size_alloc]; have := g.aH n b hb; omega, aJ := λb hb => by rw [World.size_alloc]; have := g.aJ b hb; omega,
            aC := λn sz es gr b hn hb => (g.aC n sz es gr b hn hb).aA k (nX (g.aO (g.aN hn hb) hb)), aI := g.aI, aK := g.aK }, ?_, ?_⟩
  · exact ⟨k, ⟨λ_ h => h, λ_ h => .inl h⟩, λ_ _ => rfl, λ_ _ => WA, by simp, λb hb _ => nX hb, λ_ h => .inl h, rfl, rfl, by simp, fz⟩
  · exact ⟨by simp, λh => by have := g.bJ h; omega, λh => by have := g.aJ _ h; omega⟩
def P_ (o:Oper):Bool:=match o.op with
 | .defer _=>false
 | _=>true
def lY:Code->Bool
 | .skip=>true
 | .region _ ops d=>!d || ops.toList.all P_
 | .seq a b=>lY a && lY b
 | .cond _ a b=>lY a && lY b
 | .block _ b=>lY b
 | .loop b=>lY b
 | .exit _=>true
 | .ret=>true
 | _=>false
variable {n:Nat} {keep:Nat->Bool} {P:Program}
abbrev Yl:=List AV->eX->(Option AX->eX->Prop)->Prop
def zl (m:Nat)(P:Program)(l:Nat)(rdy:Obj)(dn:AX->Obj)(Y:Yl)(Gb:Gh)(wb:World):Prop:=
 ∀(avs:List AV)(h:eX)(R:Option AX->eX->Prop),Y avs h R->∀(G:Gh)(w:World)(vs:Array Value),fO G w h->VL G w avs vs->m9 G w l->w.heap[l]?=some rdy->jM (λb=>b=l) Gb wb G w->
  YieldAt Fence.wide m P l vs w λe w'=>∃(j:Option AX)(h':eX)(G':Gh),e=.returned (.bool j.isNone)/\R j h'/\fO G' w' h'/\jM (λb=>b=l) G w G' w'/\w'.heap[l]?=some (match j with | none=>rdy | some x=>dn x)
def ub (P:Program)(gf:FuncId)(cs:List AV)(h:eX)(Y:Yl)(Kn:eX->Prop)(Ks:AX->eX->Prop):Prop:=
 ∀(m l:Nat)(rdy:Obj)(dn:AX->Obj)(G:Gh)(w:World)(vs:Array Value),(∀m,zl m P l rdy dn Y G w)->fO G w h->VL G w cs vs->m9 G w l->w.heap[l]?=some rdy->
  CallsIn Fence.wide m P gf (#[.func (.yield l) #[] #[]]++vs) w λe w'=>(∃v,e=.returned v)/\∃(h':eX)(G':Gh),fO G' w' h'/\jM (λb=>b=l) G w G' w' /\
   ((w'.heap[l]?=some rdy/\Kn h')\/∃x,w'.heap[l]?=some (dn x)/\Ks x h')
def tD:AX->Code
 | .aA=>.skip
 | .aD id=>.exit id
 | .aC=>.ret
def tK (D:Nat):Deferred:={target:=.collected D,args:=#[]}
def rG:List (Nat×AV)->fX->fX
 | [],L=>L
 | p :: r,L=>rG r (mU p.1 p.2 L)
theorem Gc {G:Gh}{w:World}:∀(ps:List Nat)(u:List AV)(vs:List Value)(L:fX)(t:Array Value),(∀p∈ps,p<n/\keep p=true)->t.size=n->u.length=vs.length->ps.length=vs.length->
  (∀(j:Nat)(c:AV)(v:Value),u[j]?=some c->vs[j]?=some v->V G w c v)->(∀s,keep s=true->V G w (lk s L) (t.getD s undef))->
  ((ps.zip vs).foldl (λt (p:Nat×Value)=>t.setIfInBounds p.1 p.2) t).size=n/\∀s,keep s=true->V G w (lk s (rG (ps.zip u) L)) (((ps.zip vs).foldl (λt (p:Nat×Value)=>t.setIfInBounds p.1 p.2) t).getD s undef)
 | [],u,vs,L,t,_,hs,_,_,_,hL=>⟨by simpa using hs,by simpa [rG] using hL⟩
 | p :: ps,u,vs,L,t,hp,hs,E,C,hV,hL=>by
  cases vs with
  | nil=>simp at C
  | cons v vs=>
   cases u with
   | nil=>simp at E
   | cons a u=>
    have h0:=hp p (by simp);refine Gc ps u vs (mU p a L) (t.setIfInBounds p v) (λq hq=>hp q (List.mem_cons_of_mem _ hq)) (by simpa using hs) (by simpa using E) (by simpa using C) (λj c v' h1 h2=>hV (j+1) c v' (by simpa using h1) (by simpa using h2)) λs hk=>?_;have hlt:p<({tmps:=t,defers:=[]}:Act).tmps.size:=by show p<t.size;omega
    have e:=tp (a:={tmps:=t,defers:=[]}) (q:=s) (v:=v) hlt;simp only at e;rw[fm,e];split;·exact hV 0 a v rfl rfl
    ·exact hL s hk
def pB (P:Program)(aa ab:AC)(ps:List Nat)(L:fX):Yl:=λavs h R=>avs.length=ps.length /\
 vc P aa ⟨rG (ps.zip avs) L,[],h⟩ λx s=>x=.aA/\vc P ab s λx s'=>R (match x with | .aA=>none | x=>some x) s'.h
def jO (fn:FuncId)(tmps:Array Value)(ps:Array Tmp)(assign body:Code)(D:Nat)(s:LoopState)(pe:Option Code):Loop:={state:=s,pending:=pe,fn,tmps,params:=ps,assign,body,defers:=D}
theorem KV {ps:Array Tmp}{assign body:Code}(hps:∀p∈ps.toList,p<n/\keep p=true)(ca:lY assign=true)(cb:lY body=true){aa ab:AC}(haa:cC P n keep assign=some aa)(hab:cC P n keep body=some ab)
  {L:fX} {tmps:Array Value} {Gb:Gh} {wb:World} (hsz:tmps.size=n) (hL:∀s,keep s=true->V Gb wb (lk s L) (tmps.getD s undef)) (fn:FuncId) (D l m:Nat):
  zl m P l (.loop (jO fn tmps ps assign body D .ready none)) (λx=>.loop (jO fn tmps ps assign body D .done (some (tD x)))) (pB P aa ab ps.toList L) Gb wb:=by
 rintro avs h R ⟨hlen,hY⟩ G w vs g hv f hl sx;have hsize:vs.size=ps.size:=by rw[<-hv.1,hlen];simp
 refine⟨fn,_,assign,body,run_yield hl hsize,roundIn_of_wpIn Vd ?_⟩;have hfold:((jO fn tmps ps assign body D .ready none).params.zip vs).foldl (λtmps (x:Nat×Value)=>tmps.setIfInBounds x.1 x.2) (jO fn tmps ps assign body D .ready none).tmps =
   (ps.toList.zip vs.toList).foldl (λt (p:Nat×Value)=>t.setIfInBounds p.1 p.2) tmps:=by
  show (ps.zip vs).foldl _ tmps=_;rw[<-Array.foldl_toList,Array.toList_zip]
 have henv:=Gc (n:=n) (keep:=keep) (G:=G) (w:=w) ps.toList avs vs.toList L tmps hps hsz (by rw[hv.1];simp) (by simp;omega) (λj c v h1 h2=>hv.2 j c v h1 (by simpa using h2)) (λs hk=>(hL s hk).aA sx.aA);have sr:SR n keep G w G w ⟨rG (ps.toList.zip avs) L,[],h⟩ ({tmps:=(ps.toList.zip vs.toList).foldl (λt (p:Nat×Value)=>t.setIfInBounds p.1 p.2) tmps,defers:=[]}:Act):=
  ⟨g,henv.1,rfl,henv.2,λ_ _=>.aI _,gI.aD G w⟩
 have e0:∀a:Act,a.defers=[]->wd a []=a:=λa h=>by cases a;simp only[wd];simp only at h;rw[h]
 have hw:=vL (m:=m) (Hq l) [] assign aa haa sr hY;rw[e0 _ rfl]at hw;have hgoal:=wpIn_mono hw (Q':=Exit.then (λa₁ w₁=>∃w₂,(Instr.beginRound l).run P w₁=.ok () w₂/\body.wpIn (Fence.wide.inRound l) m P (roundPost P l λe w'=>∃(j:Option AX)(h':eX)(G':Gh),e=.returned (.bool j.isNone)/\R j h'/\fO G' w' h'/\jM (λb=>b=l) G w G' w'/\w'.heap[l]?=some (match j with | none=>.loop (jO fn tmps ps assign body D .ready none) | some x=>.loop (jO fn tmps ps assign body D .done (some (tD x))))) a₁ w₂) (λ_ _ _=>False)) ?_;·rw[hfold];exact hgoal
 rintro e a1 w1 ⟨a0,rfl,hp⟩;cases e with
 | normal=>
  obtain⟨G1,st1,sr1,-,hb⟩:=hp;have f1:=f.x (sr1.aD.x (λb=>b=l));have hl1:w1.heap[l]?=some (.loop (jO fn tmps ps assign body D .ready none)):=(sr1.aD.aE l f.1 f.2.1).trans hl;refine⟨_,run_beginRound hl1 rfl,?_⟩;obtain⟨g2,s2⟩:=fO.aU sr1.aA (o':=.loop {jO fn tmps ps assign body D .ready none with state:=.busy}) f1 hl1 rfl rfl;have hl2:(w1.putObj l (.loop {jO fn tmps ps assign body D .ready none with state:=.busy})).heap[l]?=some (.loop (jO fn tmps ps assign body D .busy none)):=World.putObj_heap_same f1.1;have f2:=f1.x s2;have S2:=(sr1.aD.x (λb=>b=l)).aE s2;generalize w1.putObj l (.loop {jO fn tmps ps assign body D .ready none with state:=.busy})=w2 at *;have sr2:SR n keep G1 w2 G1 w2 st1 a0:=⟨g2,sr1.aE,sr1.aC,λs hk=>(sr1.L s hk).aA s2.aA,λs hk=>(sr1.R s hk).aA s2.aA,gI.aD G1 w2⟩;refine wpIn_mono (vL (m:=m) (Hq l) [] body ab hab sr2 hb) ?_;rintro e a3 w3 ⟨a4,rfl,hp⟩;have fin:∀(j:Option AX)(jc:Option Code)(G3:Gh)(st3:St),(jc=none↔j=none)->(∀x,j=some x->jc=some (tD x))->SR n keep G1 w2 G3 w3 st3 a4->R j st3.h->
    ∃v w',(Instr.endRound l jc).run P w3=.ok v w'/\∃(j:Option AX)(h':eX)(G':Gh),Ending.returned v=.returned (.bool j.isNone)/\R j h'/\fO G' w' h'/\jM (λb=>b=l) G w G' w'/\w'.heap[l]?=some (match j with | none=>.loop (jO fn tmps ps assign body D .ready none) | some x=>.loop (jO fn tmps ps assign body D .done (some (tD x)))):=by
   intro j jc G3 st3 hj1 hj2 sr3 hR;have f3:=f2.x (sr3.aD.x (λb=>b=l));have hl3:w3.heap[l]?=some (.loop (jO fn tmps ps assign body D .busy none)):=(sr3.aD.aE l f2.1 f2.2.1).trans hl2;obtain⟨g4,s4⟩:=fO.aU sr3.aA (o':=.loop {jO fn tmps ps assign body D .busy none with state:=if jc.isNone then .ready else .done,pending:=jc}) f3 hl3 rfl rfl;refine⟨_,_,run_endRound jc hl3,j,st3.h,G3,?_,hR,g4,(S2.aE (sr3.aD.x _)).aE s4,?_⟩
   ·have:jc.isNone=j.isNone:=by
     cases j with
     | none=>rw[hj1.2 rfl];rfl
     | some x=>rw[hj2 x rfl];rfl
    rw[this]
   ·rw[World.putObj_heap_same f3.1];cases j with
    | none=>rw[hj1.2 rfl];rfl
    | some x=>rw[hj2 x rfl];rfl
  cases e with
  | normal=>obtain⟨G3,st3,sr3,hR⟩:=hp;exact fin none none G3 st3 ⟨λ_=>rfl,λ_=>rfl⟩ (λx h=>by cases h) sr3 hR
  | ret=>obtain⟨G3,st3,sr3,hR⟩:=hp;exact fin (some .aC) (some .ret) G3 st3 (by simp) (λx h=>by cases h;rfl) sr3 hR
  | exit id=>obtain⟨G3,st3,sr3,hR⟩:=hp;exact fin (some (.aD id)) (some (.exit id)) G3 st3 (by simp) (λx h=>by cases h;rfl) sr3 hR
  | goto t=>exact hp.elim
  | panic c=>exact hp.elim
  | outgrown=>exact hp.elim
 | exit id=>obtain⟨G1,st1,sr1,e,-⟩:=hp;cases e
 | ret=>obtain⟨G1,st1,sr1,e,-⟩:=hp;cases e
 | goto l=>exact hp.elim
 | panic c=>exact hp.elim
 | outgrown=>exact hp.elim
def JB (n:Nat)(keep:Nat->Bool)(G:Gh)(w:World)(K:AX->St->Prop)(ds:List Deferred)(e:Exit)(a:Act)(w':World):Prop:=
 ∃(a0:Act)(D:Nat)(x:AX)(G':Gh)(st':St),a=wd a0 (tK D :: ds)/\m9 G' w' D/\w'.heap[D]?=some (.deferred (some []))/\w.heap.size<=D/\SR n keep G w G' w' st' a0/\K x st' /\
  (match x with | .aA=>e=.normal | .aD id=>e=.exit id | .aC=>e=.ret)
theorem QK {g:Operand}{ps:Array Tmp}{assign body:Code}(a3:∀p∈ps.toList,p<n/\keep p=true)(ca:lY assign=true)(cb:lY body=true){aa ab:AC}(a6:cC P n keep assign=some aa)(a5:cC P n keep body=some ab)
  {G0:Gh} {w0:World} {G:Gh} {w:World} {st:St} {a:Act} (sr:SR n keep G0 w0 G w st a) (ds:List Deferred) {gf:FuncId} {cs:List AV} (hg:st.aA (cd keep g)=.aK gf [] cs) (hf:fK P gf=true)
  {Kn:eX->Prop} {Ks:AX->eX->Prop} (a4:ub P gf cs st.h (pB P aa ab ps.toList st.L) Kn Ks) {K:AX->St->Prop}
  (hn:∀h',Kn h'->K .aA {st with R:=[],h:=h'}) (hs:∀x h',Ks x h'->x≠.aA/\K x {st with R:=[],h:=h'}) (m:Nat):
  (Code.rangeFunc g ps assign body).wpIn Fence.wide m P (JB n keep G w K ds) (wd a ds) w:=by
 refine wpIn_rangeFunc ?_;intro fn _;have O:=sr.aF g;rw[hg]at O;generalize hv:a.eval g=fv at O;cases O with
 | aK _ _ us _ vs hlu hUs hl hVs=>
 have a2:us=#[]:=by
  have:us.size=0:=by simpa using hlu.symm
  exact Wu this
 subst a2;obtain⟨gD,sD,fD⟩:=sr.aA.bw (.deferred (some []));obtain⟨gL,sL,fL⟩:=gD.bw (.loop (jO fn a.tmps ps assign body w.heap.size .ready none));rw[World.size_alloc]at fL;have Z:((w.alloc (.deferred (some []))).alloc (.loop (jO fn a.tmps ps assign body w.heap.size .ready none))).heap[w.heap.size+1]?=some (.loop (jO fn a.tmps ps assign body w.heap.size .ready none)):=by have:=World.alloc_heap_new (w.alloc (.deferred (some []))) (.loop (jO fn a.tmps ps assign body w.heap.size .ready none));rwa [World.size_alloc]at this
 have a1:((w.alloc (.deferred (some []))).alloc (.loop (jO fn a.tmps ps assign body w.heap.size .ready none))).heap[w.heap.size]?=some (.deferred (some [])):=
  (nX (by simp)).trans uZ
 have I:=fD.x (sL.x (λb=>b=w.heap.size+1));have sW:=sD.aI sL;obtain⟨W1,W⟩:∃W1,(w.alloc (.deferred (some []))).alloc (.loop (jO fn a.tmps ps assign body w.heap.size .ready none))=W1:=⟨_,rfl⟩;refine⟨w.heap.size+1,[tK w.heap.size],W1,{target:=.fn (.func gf) vs,args:=#[.func (.yield (w.heap.size+1)) #[] #[]]},W1,gf,#[.func (.yield (w.heap.size+1)) #[] #[]]++vs,W1,?_,?_,λ_ _=>Vd,?_,(λh=>by cases h),?_⟩;·rw[<-W];exact run_enterLoop_outer _ _ _ _ _
 ·rw[rU];simp only[resolve,hv];simp[go_sem]
 ·simp[invoke,go_sem,tV hf]
 rw[W]at Z a1 I fL gL sW;have hy:∀m,zl m P (w.heap.size+1) (.loop (jO fn a.tmps ps assign body w.heap.size .ready none)) (λx=>.loop (jO fn a.tmps ps assign body w.heap.size .done (some (tD x)))) (pB P aa ab ps.toList st.L) G W1:=
  λm=>KV a3 ca cb a6 a5 sr.aE (λs hk=>(sr.L s hk).aA sW.aA) fn w.heap.size (w.heap.size+1) m
 refine (a4 (m-1) (w.heap.size+1) _ _ G W1 vs hy gL ⟨hl,λj c v h1 h2=>(hVs j c v h1 h2).aA sW.aA⟩ fL Z).mono ?_;rintro e W2 ⟨⟨v,rfl⟩,h',G',g2,s2,U⟩;have a9:=I.x s2;have a7:W2.heap[w.heap.size]?=some (.deferred (some [])):=(s2.aF _ I.1 I.2.1 (by omega)).trans a1;have a8:=fL.x s2;have C:∀(r:Loop),W2.heap[w.heap.size+1]?=some (.loop r)->r.state≠.busy->∃W3,(Instr.endLoop (w.heap.size+1)).run P W2=.ok r.pending W3/\SR n keep G w G' W3 {st with R:=[],h:=h'} a/\m9 G' W3 w.heap.size/\W3.heap[w.heap.size]?=some (.deferred (some [])):=by intro r hr hb;obtain⟨g3,s3⟩:=fO.aU g2 (o':=.loop {r with state:=.exhausted}) a8 hr rfl rfl;have S3:=((sW.x (λb=>b=w.heap.size+1)).aE s2).aE s3;refine⟨_,run_endLoop hr hb,⟨g3,sr.aE,sr.aC,λs hk=>(sr.L s hk).aA S3.aA,λ_ _=>.aI _,S3.aJ (λb hb=>by omega)⟩,a9.x s3,?_⟩;rw[World.putObj_heap_other (by omega)];exact a7
 have u:({wd a ds with defers:=[tK w.heap.size]++(wd a ds).defers}:Act)=wd a (tK w.heap.size :: ds):=rfl;rcases U with⟨M,hk⟩ | ⟨x,M,hk⟩;·obtain⟨W3,r3,E,f3,d3⟩:=C _ M (by simp[jO]);refine⟨none,W3,r3,?_⟩;exact⟨a,w.heap.size,.aA,G',_,u,f3,d3,U8 _,E,hn h' hk,rfl⟩
 ·obtain⟨W3,r3,E,f3,d3⟩:=C _ M (by simp[jO]);obtain⟨hx,hK⟩:=hs x h' hk;refine⟨some (tD x),W3,r3,?_⟩;cases x with
  | aA=>exact absurd rfl hx
  | aD id=>exact wpIn_exit ⟨a,w.heap.size,.aD id,G',_,u,f3,d3,U8 _,E,hK,rfl⟩
  | aC=>exact wpIn_ret ⟨a,w.heap.size,.aC,G',_,u,f3,d3,U8 _,E,hK,rfl⟩
structure RS where
 j:Option AX
 q:Bool
 st:St
inductive RC where
 | aC (a:AC)
 | aF (a:AC)
 | aH (a b:RC)
 | aD (c:fE) (a b:RC)
 | aA (id:Nat) (b:RC)
 | aE (b:RC)
 | aI (pre:List AO) (d:jP) (x:fE) (args:List fE) (post:List AO)
 | aG (g:fE) (ps:List Nat) (aa ab:AC)
def iT (P:Program)(l:Nat)(Y:Yl):RC->RS->(AX->RS->Prop)->Prop
 | .aC a,s,K=>vc P a s.st λx st'=>K x ⟨s.j,s.q,st'⟩
 | .aF a,s,K=>s.q=false/\vc P a s.st λx st'=>K x ⟨s.j,s.q,st'⟩
 | .aH a b,s,K=>iT P l Y a s λx s'=>match x with
  | .aA=>iT P l Y b s' K
  | .aD id=>K (.aD id) s'
  | .aC=>K .aC s'
 | .aD c a b,s,K=>match s.st.aA c with
  | .aE t=>(t=true->iT P l Y a s K)/\(t=false->iT P l Y b s K)
  | _=>False
 | .aA id b,s,K=>iT P l Y b s λx s'=>match x with
  | .aA=>K .aA s'
  | .aD id'=>if id'=id then K .aA s' else K (.aD id') s'
  | .aC=>K .aC s'
 | .aE b,s,K=>∃I:Nat->RS->Prop,(∃m s0,Wk s.st s0/\I m ⟨s.j,s.q,s0⟩)/\∀m s,I m s->iT P l Y b s λx s'=>match x with
  | .aA=>∃m' s0,m'<m/\Wk s'.st s0/\I m' ⟨s'.j,s'.q,s0⟩
  | .aD id=>K (.aD id) s'
  | .aC=>K .aC s'
 | .aI pre d x args post,s,K=>s.q=false/\s.j=none/\gX P pre s.st λs1=>s1.aA x=.aN (.func (.yield l) #[] #[]) /\
   Y (args.map s1.aA) s1.h λj h'=>gX P post {s1.aC d (.aE j.isNone) with h:=h'} λs2=>K .aA ⟨j,false,{s2 with R:=[]}⟩
 | .aG g ps aa ab,s,K=>s.q=false/\∃gf cs Kn Ks,s.st.aA g=.aK gf [] cs/\fK P gf=true/\ub P gf cs s.st.h (pB P aa ab ps s.st.L) Kn Ks /\
   (∀h',Kn h'->K .aA ⟨s.j,true,{s.st with R:=[],h:=h'}⟩)/\∀x h',Ks x h'->x≠.aA/\K x ⟨s.j,true,{s.st with R:=[],h:=h'}⟩
section
variable {n:Nat} {keep:Nat->Bool} {P:Program}
def CQ (o:Oper):Bool:=match o.op with
 | .call {callee:=.value (.func _),..}=>false
 | .call {callee:=.value _,..}=>true
 | _=>false
def vJ (P:Program)(n:Nat)(keep:Nat->Bool)(ops:Array Oper):List Oper->Option (List AO×jP×fE×List fE×List AO)
 | []=>none
 | o :: r=>if CQ o then (match lj P (cd keep) o with
   | some (.aD x az)=>match o.guard,rk n keep o.dst,qb P n keep ops r with
    | none,some d,some post=>some ([],d,x,az,post)
    | _,_,_=>none
   | _=>none)
  else match wU P n keep ops o,vJ P n keep ops r with
   | some a,some (pre,d,x,az,post)=>some (a :: pre,d,x,az,post)
   | _,_=>none
def mD (it:Bool):Code->Bool
 | .region _ ops d=>it && !d && ops.toList.any CQ
 | .seq a b=>mD it a || mD it b
 | .cond _ a b=>mD it a || mD it b
 | .block _ b=>mD it b
 | .loop b=>mD it b
 | .scope b=>mD it b
 | .rangeFunc _ _ _ _=>true
 | _=>false
def pG (P:Program)(n:Nat)(keep:Nat->Bool)(c:Code):Option RC:=(cC P n keep c).map (if lY c then RC.aC else RC.aF)
def lV (P:Program)(n:Nat)(keep:Nat->Bool)(it:Bool):Code->Option RC
 | .region id ops d=>if mD it (.region id ops d) then (vJ P n keep ops ops.toList).map fun (pre,d,x,az,post)=>.aI pre d x az post else pG P n keep (.region id ops d)
 | .seq a b=>if mD it (.seq a b) then (match lV P n keep it a,lV P n keep it b with
   | some x,some y=>some (.aH x y)
   | _,_=>none) else pG P n keep (.seq a b)
 | .cond c a b=>if mD it (.cond c a b) then (match lV P n keep it a,lV P n keep it b with
   | some x,some y=>some (.aD (cd keep c) x y)
   | _,_=>none) else pG P n keep (.cond c a b)
 | .block id b=>if mD it (.block id b) then (lV P n keep it b).map (.aA id) else pG P n keep (.block id b)
 | .loop b=>if mD it (.loop b) then (lV P n keep it b).map .aE else pG P n keep (.loop b)
 | .scope b=>if mD it (.scope b) then none else pG P n keep (.scope b)
 | .rangeFunc g ps x y=>if lY x && lY y && ps.toList.all (λp=>decide (p<n) && keep p) then (match cC P n keep x,cC P n keep y with
   | some aa,some ab=>some (.aG (cd keep g) ps.toList aa ab)
   | _,_=>none) else none
 | c=>pG P n keep c
def wg (wb:World)(G:Gh)(w:World)(ds:List Deferred)(q:Bool):Prop:=
 ds=[]\/q=true/\∃D,ds=[tK D]/\m9 G w D/\w.heap[D]?=some (.deferred (some []))/\wb.heap.size<=D
theorem wg.aA {wb G w G' w' ds q}(m:wg wb G w ds q)(s:gI G w G' w'):wg wb G' w' ds q:=by
 rcases m with h | ⟨hq,D,h1,h2,h3,h4⟩;·exact .inl h
 ·exact .inr ⟨hq,D,h1,h2.x (s.x (λ_=>False)),(s.aE D h2.1 h2.2.1).trans h3,h4⟩
structure qT (P:Program)(Gb:Gh)(wb:World)(X:Nat->Prop)(T:Option AX->Gh->World->Prop)(l:Nat)(Y:Yl):Prop where
 aA:∀j G w G' w',T j G w->gI G w G' w'->T j G' w'
 aC:∀m avs h R G w vs,Y avs h R->fO G w h->VL G w avs vs->T none G w->jM X Gb wb G w->YieldAt Fence.wide m P l vs w λe w'=>∃(j:Option AX)(h':eX)(G':Gh),e=.returned (.bool j.isNone)/\R j h'/\fO G' w' h'/\jM X G w G' w'/\T j G' w'
structure nO (n:Nat)(keep:Nat->Bool)(Gb:Gh)(wb:World)(X:Nat->Prop)(T:Option AX->Gh->World->Prop)(s:RS)(G:Gh)(w:World)(a0:Act)(ds:List Deferred):Prop where
 sr:SR n keep G w G w s.st a0
 aA:jM X Gb wb G w
 aE:T s.j G w
 aC:wg wb G w ds s.q
def AX.ex:AX->Exit
 | .aA=>.normal
 | .aD id=>.exit id
 | .aC=>.ret
def sE (n:Nat)(keep:Nat->Bool)(Gb:Gh)(wb:World)(X:Nat->Prop)(T:Option AX->Gh->World->Prop)(K:AX->RS->Prop)(e:Exit)(a:Act)(w:World):Prop:=
 ∃(x:AX)(s:RS)(G:Gh)(a0:Act)(ds:List Deferred),e=x.ex/\a=wd a0 ds/\nO n keep Gb wb X T s G w a0 ds/\K x s
variable {Gb:Gh} {wb:World} {X:Nat->Prop} {T:Option AX->Gh->World->Prop} {l:Nat} {Y:Yl} {m:Nat}
theorem nO.aD (sd:qT P Gb wb X T l Y){s:RS}{G w a0 ds}(r:nO n keep Gb wb X T s G w a0 ds){G' w' st' a'}(sr:SR n keep G w G' w' st' a'):nO n keep Gb wb X T ⟨s.j,s.q,st'⟩ G' w' a' ds:=
 ⟨⟨sr.aA,sr.aE,sr.aC,sr.L,sr.R,gI.aD _ _⟩,r.aA.aE (sr.aD.x X),sd.aA _ _ _ _ _ r.aE sr.aD,r.aC.aA sr.aD⟩
theorem HD (sd:qT P Gb wb X T l Y){s:RS}{G w a0 ds}(r:nO n keep Gb wb X T s G w a0 ds){K:AX->RS->Prop}{e a1 w1}(h:yP n keep G w (λx C=>K x ⟨s.j,s.q,C⟩) e a1 w1):sE n keep Gb wb X T K e (wd a1 ds) w1:=by
 cases e with
 | normal=>obtain⟨G',C,u,hk⟩:=h;exact⟨.aA,_,G',a1,ds,rfl,rfl,r.aD sd u,hk⟩
 | exit id=>obtain⟨G',C,u,hk⟩:=h;exact⟨.aD id,_,G',a1,ds,rfl,rfl,r.aD sd u,hk⟩
 | ret=>obtain⟨G',C,u,hk⟩:=h;exact⟨.aC,_,G',a1,ds,rfl,rfl,r.aD sd u,hk⟩
 | goto t=>exact h.elim
 | panic c=>exact h.elim
 | outgrown=>exact h.elim
theorem nC (sd:qT P Gb wb X T l Y){c:Code}{rc:RC}(hc:pG P n keep c=some rc){s:RS}{G w a0 ds}(r:nO n keep Gb wb X T s G w a0 ds){K:AX->RS->Prop}(hk:iT P l Y rc s K):
  c.wpIn Fence.wide m P (sE n keep Gb wb X T K) (wd a0 ds) w:=by
 simp only[pG,Vl]at hc;obtain⟨ac,E,rfl⟩:=hc;by_cases hq:lY c=true;·rw[U4 hq]at hk;refine wpIn_mono (vL (m:=m) tM ds c ac E r.sr hk) ?_;rintro e _ w1 ⟨a1,rfl,hp⟩;exact HD sd r hp
 ·rw[U6 hq]at hk;obtain⟨I,hk⟩:=hk;have M:ds=[]:=by
   rcases r.aC with h | ⟨h,-⟩;·exact h
   ·rw[I]at h;cases h
  subst M;rw[pQ r.sr.aC];refine wpIn_wide.2 (wp_mono (yd c ac E r.sr hk) ?_);intro e a1 w1 hp;have:=HD sd r hp;have hd:a1.defers=[]:=by
   cases e with
   | normal=>obtain⟨G',C,u,-⟩:=hp;exact u.aC
   | exit id=>obtain⟨G',C,u,-⟩:=hp;exact u.aC
   | ret=>obtain⟨G',C,u,-⟩:=hp;exact u.aC
   | goto t=>exact hp.elim
   | panic c=>exact hp.elim
   | outgrown=>exact hp.elim
  rwa [pQ hd]at this
theorem SR.aH {G0 w0 G w st a G' w' h'}(sr:SR n keep G0 w0 G w st a)(k:ic G w G' w')(g:fO G' w' h'):SR n keep G' w' G' w' {st with h:=h'} a:=
 ⟨g,sr.aE,sr.aC,λs hk=>(sr.L s hk).aA k,λs hk=>(sr.R s hk).aA k,gI.aD _ _⟩
theorem Lc {o:Oper}(ho:CQ o=true){x:fE}{az:List fE}(h:lj P (cd keep) o=some (.aD x az)):
  ∃(y:Operand)(args:Array Operand),x=cd keep y/\az=args.toList.map (cd keep)/\∀(a:Act)(w:World)(l:Nat),a.eval y=.func (.yield l) #[] #[]->(execOp a.eval o).run P w=(Instr.yield l (args.map a.eval)).run P w:=by
 unfold lj at h;split at h;·cases h
 ·split at h;·cases h
  ·split at h;·cases h
   ·rename_i y args tys hne u;cases h;refine⟨y,args,rfl,rfl,λa w l hy=>?_⟩;obtain⟨dst,op,type,pos,after,guard⟩:=o;have e:op=_:=u;subst e;simp[execOp,resolve,hy,Deferred.ofValue,invoke]
   ·cases h
theorem Ta (sd:qT P Gb wb X T l Y){ops:Array Oper}{s:RS}(hq:s.q=false)(hj:s.j=none){K:AX->RS->Prop}:
  ∀(lo:List Oper){pre d x az post} (_:vJ P n keep ops lo=some (pre,d,x,az,post)) {st:St} {G w a0} (_:nO n keep Gb wb X T ⟨s.j,s.q,st⟩ G w a0 [])
   (_:gX P pre st λs1=>s1.aA x=.aN (.func (.yield l) #[] #[]) /\
    Y (az.map s1.aA) s1.h λj h'=>gX P post {s1.aC d (.aE j.isNone) with h:=h'} λs2=>K .aA ⟨j,false,{s2 with R:=[]}⟩),
   wpListIn Fence.wide m P ops (sE n keep Gb wb X T K) lo (wd a0 []) w:=by
 intro lo;induction lo with
 | nil=>intro pre d x az post h;simp[vJ]at h
 | cons o r ih=>
  intro pre d x az post h st G w a0 rs hk;simp only[vJ]at h;split at h
  ·rename_i a9;split at h
   ·rename_i x' ad aa;split at h
    ·rename_i d' I ab hd M;cases h;simp only[gX]at hk;obtain⟨hx,hk⟩:=hk;obtain⟨y,args,rfl,rfl,W⟩:=Lc a9 aa;unfold wpListIn;rw[U4 (by simp[Region.wanted,ab])];have U:=rs.sr.aF y;have a5:st.aA (cd keep y)=.aN (.func (.yield l) #[] #[]):=hx;rw[a5]at U;generalize hv:a0.eval y=fv at U;cases U;have a6:VL G w ((args.toList.map (cd keep)).map st.aA) (args.map a0.eval):=
      ⟨by simp,λj c v hc a7=>VL.aA rs.sr.aF args.toList j c v (by simpa using hc) (by simpa using a7)⟩
     have C:=rs.aE;simp only[hj]at C;obtain⟨fn,tmps,assign,body,hy,hr⟩:=sd.aC (m-1) _ _ _ G w _ hk rs.sr.aA a6 C rs.aA;refine⟨λf _=>Vd,?_⟩;rw[rU,oU ((W a0 w l hv).trans hy) (by simp),Oper.uponIn_round];refine⟨λh=>(by cases h),RoundIn.mono hr ?_⟩;rintro e w' ⟨j,h',G',rfl,hR,hg,a3,hT⟩;show wpListIn Fence.wide m P ops _ r ((wd a0 []).put o.dst (.bool j.isNone)) w';rw[nJ];have a1:=(rs.sr.aH a3.aA hg).aG hd hg (gI.aD G' w') (.aG j.isNone);have e1:({({st with h:=h'}:St).aC d (.aE j.isNone) with h:=h'}:St)={st.aC d (.aE j.isNone) with h:=h'}:=by cases d<;>rfl
     rw[e1]at a1;have:=yc (m:=m) (ops:=ops) (Q:=sE n keep Gb wb X T K) (r:=[]) tM [] (n:=n) (keep:=keep) (G0:=G') (w0:=w') (k:=λs2=>K .aA ⟨j,false,{s2 with R:=[]}⟩) ?_ r post a1 M hR;·rwa [VY]at this
     ·intro G2 w2 a4 a2 u Z;refine⟨.aA,_,G2,a2,[],rfl,rfl,⟨⟨u.aA,u.aE,u.aC,u.L,λ_ _=>.aI _,gI.aD _ _⟩,(rs.aA.aE a3).aE (u.aD.x X),sd.aA _ _ _ _ _ hT u.aD,.inl rfl⟩,Z⟩
    ·cases h
   ·cases h
  ·split at h
   ·rename_i ao E d' x' ad I ac a8;cases h;have:gX P [ao] st (λO=>gX P E O λs1=>s1.aA x=.aN (.func (.yield l) #[] #[]) /\
      Y (az.map s1.aA) s1.h λj h'=>gX P post {s1.aC d (.aE j.isNone) with h:=h'} λs2=>K .aA ⟨j,false,{s2 with R:=[]}⟩):=hk
    have h1:=yc (m:=m) (ops:=ops) (Q:=sE n keep Gb wb X T K) (r:=r) tM [] (n:=n) (keep:=keep) (G0:=G) (w0:=w) (k:=λO=>gX P E O λs1=>s1.aA x=.aN (.func (.yield l) #[] #[]) /\
      Y (az.map s1.aA) s1.h λj h'=>gX P post {s1.aC d (.aE j.isNone) with h:=h'} λs2=>K .aA ⟨j,false,{s2 with R:=[]}⟩) ?_ [o] [ao] rs.sr (by simp only[qb,ac]) this
    ·exact h1
    ·intro G2 w2 a4 a2 u Z;exact ih a8 (rs.aD sd u) Z
   ·cases h
theorem Ij (sd:qT P Gb wb X T l Y){it:Bool}:∀(c:Code)(rc:RC),lV P n keep it c=some rc->∀{K:AX->RS->Prop}{s:RS}{G w a0 ds},nO n keep Gb wb X T s G w a0 ds->iT P l Y rc s K->
  c.wpIn Fence.wide m P (sE n keep Gb wb X T K) (wd a0 ds) w:=by
 intro c;induction c with
 | skip=>intro rc hc K s G w a0 ds r hk;exact nC sd hc r hk
 | ret=>intro rc hc K s G w a0 ds r hk;exact nC sd hc r hk
 | exit id=>intro rc hc K s G w a0 ds r hk;exact nC sd hc r hk
 | label id=>intro rc hc K s G w a0 ds r hk;exact nC sd hc r hk
 | goto id=>intro rc hc K s G w a0 ds r hk;exact nC sd hc r hk
 | refuse id=>intro rc hc K s G w a0 ds r hk;exact nC sd hc r hk
 | scope b ih=>
  intro rc hc K s G w a0 ds r hk;simp only[lV]at hc;split at hc;·cases hc
  ·exact nC sd hc r hk
 | region id ops O=>
  intro rc hc K s G w a0 ds r hk;simp only[lV]at hc;split at hc
  ·rename_i hh;simp only[Vl]at hc;obtain⟨⟨pre,d,x,az,post⟩,a3,rfl⟩:=hc;have a6:O=false:=by
    cases O with
    | false=>rfl
    | true=>simp[mD]at hh
   subst a6;obtain⟨hq,hj,hk⟩:=hk;have a2:ds=[]:=by
    rcases r.aC with h | ⟨h,-⟩;·exact h
    ·rw[hq]at h;cases h
   subst a2;refine wpIn_region_list ?_;exact Ta sd hq hj ops.toList a3 r hk
  ·exact nC sd hc r hk
 | seq x y ihx ihy=>
  intro rc hc K s G w a0 ds r hk;simp only[lV]at hc;split at hc
  ·split at hc
   ·rename_i ax ay hx hy;cases hc;refine wpIn_seq (wpIn_mono (ihx ax hx r hk) ?_);rintro e _ w' ⟨z,s',G',a1,C,rfl,rfl,r',u⟩;cases z with
    | aA=>exact ihy ay hy r' u
    | aD id=>exact⟨_,s',G',a1,C,rfl,rfl,r',u⟩
    | aC=>exact⟨_,s',G',a1,C,rfl,rfl,r',u⟩
   ·cases hc
  ·exact nC sd hc r hk
 | cond x y z ihy ihz=>
  intro rc hc K s G w a0 ds r hk;simp only[lV]at hc;split at hc
  ·split at hc
   ·rename_i ay az hy hz;cases hc;simp only[iT]at hk;split at hk
    ·rename_i t ht;have hv:=r.sr.aF x;rw[ht]at hv;generalize he:a0.eval x=v at hv;cases hv;refine wpIn_cond_split (by rw[rU];exact he) (λe=>?_) (λe=>?_);·exact ihy ay hy r (hk.1 e)
     ·exact ihz az hz r (hk.2 e)
    ·exact hk.elim
   ·cases hc
  ·exact nC sd hc r hk
 | block id b ih=>
  intro rc hc K s G w a0 ds r hk;simp only[lV]at hc;split at hc
  ·simp only[Vl]at hc;obtain⟨ab,hb,rfl⟩:=hc;refine wpIn_block (wpIn_mono (ih ab hb r hk) ?_);rintro e _ w' ⟨z,s',G',a1,C,rfl,rfl,r',u⟩;cases z with
   | aA=>exact⟨.aA,s',G',a1,C,rfl,rfl,r',u⟩
   | aD id'=>
    simp only at u;simp only[AX.ex,Exit.inBlock];split<;>rename_i h;·rw[U4 h]at u;exact⟨.aA,s',G',a1,C,rfl,rfl,r',u⟩
    ·rw[U6 h]at u;exact⟨.aD id',s',G',a1,C,rfl,rfl,r',u⟩
   | aC=>exact⟨.aC,s',G',a1,C,rfl,rfl,r',u⟩
  ·exact nC sd hc r hk
 | loop b ih=>
  intro rc hc K s G w a0 ds r hk;simp only[lV]at hc;split at hc
  ·simp only[Vl]at hc;obtain⟨ab,hb,rfl⟩:=hc;obtain⟨I,⟨k,s0,Z,h0⟩,M⟩:=hk;obtain⟨G',E⟩:=Z n keep G w G w a0 r.sr;refine wpIn_loop_ghost (λk a w=>∃s G a0 ds,a=wd a0 ds/\nO n keep Gb wb X T s G w a0 ds/\I k s) k ⟨_,G',a0,ds,rfl,r.aD sd E,h0⟩ ?_;rintro k _ w ⟨s,G,a0,ds,rfl,r,hI⟩;refine wpIn_mono (ih ab hb r (M k s hI)) ?_;rintro e _ w' ⟨z,s',G',a1,C,rfl,rfl,r',u⟩;cases z with
   | aA=>obtain⟨m',s0,hlt,Z,a9⟩:=u;obtain⟨ac,W⟩:=Z n keep G' w' G' w' a1 r'.sr;exact⟨m',hlt,_,ac,a1,C,rfl,r'.aD sd W,a9⟩
   | aD id=>exact⟨.aD id,s',G',a1,C,rfl,rfl,r',u⟩
   | aC=>exact⟨.aC,s',G',a1,C,rfl,rfl,r',u⟩
  ·exact nC sd hc r hk
 | rangeFunc g ps x y _ _=>
  intro rc hc K s G w a0 ds r hk;simp only[lV]at hc;split at hc
  ·rename_i hh;simp only[Vq,Wt,VD]at hh;split at hc
   ·rename_i aa ab a8 a7;cases hc;obtain⟨hq,gf,cs,Kn,Ks,hg,hf,a5,hn,hs⟩:=hk;have a2:ds=[]:=by
     rcases r.aC with h | ⟨h,-⟩;·exact h
     ·rw[hq]at h;cases h
    subst a2;refine wpIn_mono (QK hh.2 hh.1.1 hh.1.2 a8 a7 r.sr [] hg hf a5 (K:=λx U=>K x ⟨s.j,true,U⟩) hn hs m) ?_;rintro e _ w' ⟨a1,D,z,G',U,rfl,fD,hD,a4,E,u,he⟩;refine⟨z,⟨s.j,true,U⟩,G',a1,[tK D],?_,rfl,⟨⟨E.aA,E.aE,E.aC,E.L,E.R,gI.aD _ _⟩,r.aA.aE (E.aD.x X),sd.aA _ _ _ _ _ r.aE E.aD,.inr ⟨rfl,D,rfl,fD,hD,Vh r.aA.aC a4⟩⟩,u⟩;cases z<;>exact he
   ·cases hc
  ·cases hc
end
structure qP where
 n:Nat
 aD:Nat->Bool
 aA:RC
 aC:List kb
def sU (P:Program)(keep:Nat->Bool)(it:Bool)(f:FuncId):Option qP:=
 match P.funcs[f]? with
 | some fn=>match fn.body with
  | some c=>match lV P fn.ntmps keep it c,oJ P keep fn.results.toList with
   | some ac,some res=>some ⟨fn.ntmps,keep,ac,res⟩
   | _,_=>none
  | none=>none
 | none=>none
def wc (P:Program)(it:Bool)(f:FuncId)(c:qP):Prop:=fK P f=true/\sU P c.aD it f=some c
section
variable {n:Nat} {keep:Nat->Bool} {P:Program}
theorem jM.aL {X X':Nat->Prop}{G w G1 w1 G2 w2}(a:jM X G w G1 w1)(b:jM X' G1 w1 G2 w2)(h:∀b,X' b->w.heap.size<=b):jM X G w G2 w2 where
 aA:=a.aA.aG b.aA
 S:=⟨λx h=>b.S.1 x (a.S.1 x h),λx h=>(b.S.2 x h).elim (a.S.2 x) (λh=>.inr (Vh a.aC h))⟩
 aG n h:=by rw[b.aG n (Vj h a.aA.N),a.aG n h]
 aH n h:=(b.aH n (Vj h a.aA.N)).trans (a.aH n h)
 aC:=Vh a.aC b.aC
 aF x hx hn hX:=by
  rw[b.aF x (Vj hx a.aC) ?_ (λe=>by have:=h x e;omega),a.aF x hx hn hX];intro ho;rcases a.aD x ho with h | h;·exact hn h
  ·omega
 aD x hx:=by
  rcases b.aD x hx with h | h;·exact a.aD x h
  ·exact .inr (Vh a.aC h)
 aI:=a.aI.aC b.aI
theorem xB {vs:Array Value}{G:Gh}{w:World}{h:eX}{u:List AV}(hg:fO G w h)(hv:VL G w u vs)(hn:u.length<=n):
  SR n keep G w G w (nY keep u h) {tmps:=vs++Array.replicate (n-vs.size) undef,defers:=[]}:=by
 have hle:vs.size<=n:=by rw[<-hv.1];exact hn
 have E:∀(p:Nat->Bool)(s:Nat),V G w (lk s (nv p 0 u)) ((vs++Array.replicate (n-vs.size) undef).getD s undef):=by
  intro p s;rcases GZ p u 0 s with e | ⟨_,e⟩;·rw[e];exact .aI _
  ·simp only[Nat.sub_zero]at e;obtain⟨v,C,hV⟩:=hv.aC e;have hlt:=(Wf.1 C).1;have:(vs++Array.replicate (n-vs.size) undef).getD s undef=v:=by simp[WX,hlt];have:=C;simp[hlt]at this;exact this
   rw[this];exact hV
 exact⟨hg,by simp;omega,rfl,λs _=>E keep s,λs _=>E _ s,gI.aD G w⟩
def zu (res:List kb)(K:AV->eX->Prop)(x:AX)(s:RS):Prop:=iE res K x s.st
theorem RA {f:FuncId}{fn:qP}(hf:sU P keep false f=some fn){E:List AV}(hn:E.length<=fn.n){h:eX}{K:AV->eX->Prop}
  (hk:iT P 0 (λ_ _ _=>False) fn.aA ⟨none,false,nY keep E h⟩ (zu fn.aC K)):fC P f E h K:=by
 unfold sU at hf;split at hf
 ·rename_i fd O;split at hf
  ·rename_i c hc;split at hf
   ·rename_i ac res U C;cases hf;intro G w vs hg hv;refine (callsIn_wide (n:=0)).1 (callsIn_of_wp_marks O hc Vd ?_);have sd:qT P G w (λ_=>False) (λ_ _ _=>True) 0 (λ_ _ _=>False):=⟨λ_ _ _ _ _ _ _=>Vd,λ_ _ _ _ _ _ _ h=>h.elim⟩;have r0:nO fd.ntmps keep G w (λ_=>False) (λ_ _ _=>True) ⟨none,false,nY keep E h⟩ G w {tmps:=vs++Array.replicate (fd.ntmps-vs.size) undef,defers:=[]} []:=
     ⟨xB hg hv hn,jM.aK _ _ _,Vd,.inl rfl⟩
    have hw:=Ij (m:=0) sd c ac U r0 hk;rw[pQ rfl]at hw;refine wpIn_mono hw ?_;rintro e _ w' ⟨z,s,G',a0,ds,rfl,rfl,r,hK⟩;have fin:iE res K .aC s.st->LeavesInM Fence.wide 0 P fd (wd a0 ds).tmps (λe w'=>∃v r h' G',e=.returned v/\K r h'/\fO G' w' h'/\V G' w' r v/\gI G w G' w') ds .returning w':=by
     intro hK;simp only[iE]at hK;split at hK
     ·rename_i l hl;rcases r.aC with rfl | ⟨-,D,rfl,fD,hD,M⟩;·obtain⟨v,u,hV⟩:=tT (P:=P) r.sr C hl;exact⟨v,u,v,_,_,G',rfl,hK,r.sr.aA,hV,r.aA.aJ (λ_ h=>h.elim)⟩
      ·obtain⟨g2,s2⟩:=fO.aU r.sr.aA (o':=.deferred none) fD hD rfl rfl;have I:SR fd.ntmps keep G' _ G' _ s.st a0:=r.sr.aH s2.aA g2;obtain⟨v,u,hV⟩:=tT (P:=P) I C hl;refine⟨by simp,.inl ⟨D,_,rfl,run_takeDeferred hD,v,u,v,_,_,G',rfl,hK,g2,hV,(r.aA.aL s2 (λb hb=>hb▸M)).aJ (λ_ h=>h.elim)⟩⟩
     ·exact hK.elim
    cases z with
    | aA=>exact fin hK
    | aC=>exact fin hK
    | aD id=>exact hK.elim
   ·cases hf
  ·cases hf
 ·cases hf
def qZ (Kn:eX->Prop)(Ks:AX->eX->Prop):AX->RS->Prop
 | .aD _,_=>False
 | _,s=>s.q=false/\match s.j with
  | none=>Kn s.st.h
  | some x=>Ks x s.st.h
theorem RI {f:FuncId}{fn:qP}(hf:sU P keep true f=some fn) (hr:fn.aC=[]) {cs:List AV} (hn:cs.length+1<=fn.n) {h:eX} {Y:Yl} {Kn:eX->Prop} {Ks:AX->eX->Prop}
  (hk:∀l,iT P l Y fn.aA ⟨none,false,nY keep (.aN (.func (.yield l) #[] #[]) :: cs) h⟩ (qZ Kn Ks)):ub P f cs h Y Kn Ks:=by
 unfold sU at hf;split at hf
 ·rename_i fd W;split at hf
  ·rename_i c hc;split at hf
   ·rename_i ac res a1 I;cases hf;subst hr;intro m l C dn G w vs hy hg hv fl hl;refine callsIn_of_wp_marks W hc Vd ?_;have sd:qT P G w (λb=>b=l) (λj G w=>m9 G w l/\w.heap[l]?=some (match j with | none=>C | some x=>dn x)) l Y:=by refine⟨λj G w G' w' h s=>⟨h.1.x (s.x (λ_=>False)),(s.aE l h.1.1 h.1.2.1).trans h.2⟩,λm a2 h R G' w' M hY g v t s=>?_⟩;obtain⟨fn,tmps,az,bd,h1,h2⟩:=hy m a2 h R hY G' w' M g v t.1 t.2 s;refine⟨fn,tmps,az,bd,h1,RoundIn.mono h2 ?_⟩;rintro e w2 ⟨j,h',G2,he,hR,g2,s2,U⟩;exact⟨j,h',G2,he,hR,g2,s2,t.1.x s2,U⟩
    have O:VL G w (.aN (.func (.yield l) #[] #[]) :: cs) (#[.func (.yield l) #[] #[]]++vs):=VL.aE (cs:=[.aN (.func (.yield l) #[] #[])]) (vs:=#[.func (.yield l) #[] #[]]) ⟨rfl,λj c v h1 h2=>by
      cases j with
      | zero=>simp at h1 h2;subst h1;subst h2;exact .aP _
      | succ j=>simp at h1⟩ hv
    have r0:nO fd.ntmps keep G w (λb=>b=l) (λj G w=>m9 G w l/\w.heap[l]?=some (match j with | none=>C | some x=>dn x)) ⟨none,false,nY keep (.aN (.func (.yield l) #[] #[]) :: cs) h⟩ G w
      {tmps:=(#[.func (.yield l) #[] #[]]++vs)++Array.replicate (fd.ntmps-(#[Value.func (.yield l) #[] #[]]++vs).size) undef,defers:=[]} []:=
     ⟨xB hg O (by simpa using hn),jM.aK _ _ _,⟨fl,hl⟩,.inl rfl⟩
    have hw:=Ij (m:=m) sd c ac a1 r0 (hk l);rw[pQ rfl]at hw;refine wpIn_mono hw ?_;rintro e _ w' ⟨z,s,G',a0,ds,rfl,rfl,r,hK⟩;have fin:qZ Kn Ks .aC s->LeavesInM Fence.wide m P fd (wd a0 ds).tmps (λe w'=>(∃v,e=.returned v)/\∃(h':eX)(G':Gh),fO G' w' h'/\jM (λb=>b=l) G w G' w' /\
       ((w'.heap[l]?=some C/\Kn h')\/∃x,w'.heap[l]?=some (dn x)/\Ks x h')) ds .returning w':=by
     rintro⟨hq,hK⟩;have Z:ds=[]:=by
      rcases r.aC with h | ⟨h,-⟩;·exact h
      ·rw[hq]at h;cases h
     subst Z;obtain⟨v,E,-⟩:=tT (P:=P) r.sr I (l:=[]) rfl;refine⟨v,E,⟨v,rfl⟩,s.st.h,G',r.sr.aA,r.aA,?_⟩;have u:=r.aE;cases hj:s.j with
     | none=>rw[hj]at u hK;exact .inl ⟨u.2,hK⟩
     | some x=>rw[hj]at u hK;exact .inr ⟨x,u.2,hK⟩
    cases z with
    | aA=>exact fin hK
    | aC=>exact fin hK
    | aD id=>exact hK.elim
   ·cases hf
  ·cases hf
 ·cases hf
end
section
variable {P:Program} {l:Nat} {Y:Yl}
def kR (j:Option AX)(q:Bool)(K:AX->RS->Prop):AX->St->Prop:=λx st=>K x ⟨j,q,st⟩
def xP (P:Program)(l:Nat)(Y:Yl)(b:RC)(K:AX->RS->Prop):AX->RS->Prop
 | .aA,s=>iT P l Y b s K
 | .aD id,s=>K (.aD id) s
 | .aC,s=>K .aC s
def xO (id:Nat)(K:AX->RS->Prop):AX->RS->Prop
 | .aA,s=>K .aA s
 | .aD id',s=>if id'=id then K .aA s else K (.aD id') s
 | .aC,s=>K .aC s
def C_ (P:Program)(l:Nat)(Y:Yl)(v:AV)(a b:RC)(s:RS)(K:AX->RS->Prop):Prop:=
 match v with
 | .aE t=>(t=true->iT P l Y a s K)/\(t=false->iT P l Y b s K)
 | _=>False
def vC (I:Nat->fX->eX->Prop)(m:Nat)(K:AX->RS->Prop):AX->RS->Prop
 | .aA,s=>∃m',m'<m/\s.j=none/\s.q=false/\s.st.R=[]/\I m' s.st.L s.st.h
 | .aD id,s=>K (.aD id) s
 | .aC,s=>K .aC s
def rY (P:Program)(l:Nat)(Y:Yl)(d:jP)(x:fE)(az:List fE)(post:List AO)(K:AX->RS->Prop):St->Prop:=λs1=>s1.aA x=.aN (.func (.yield l) #[] #[])/\Y (az.map s1.aA) s1.h λj h'=>gX P post {s1.aC d (.aE j.isNone) with h:=h'} (xE (kR j false K))
theorem Ol (j:Option AX)(q:Bool)(K:AX->RS->Prop)(x:AX)(st:St):kR j q K x st=K x ⟨j,q,st⟩:=Vc rfl rfl
theorem Sl (a:AC)(j:Option AX)(q:Bool)(st:St)(K:AX->RS->Prop):iT P l Y (.aC a) ⟨j,q,st⟩ K=vc P a st (kR j q K):=Vc rfl rfl
theorem Sp (a:AC)(j:Option AX)(st:St)(K:AX->RS->Prop):iT P l Y (.aF a) ⟨j,false,st⟩ K=vc P a st (kR j false K):=by show (false=false/\vc P a st (kR j false K))=_;simp only[true_and]
theorem Sr (a b:RC)(s:RS)(K:AX->RS->Prop):iT P l Y (.aH a b) s K=iT P l Y a s (xP P l Y b K):=by simp only[iT];congr 1;funext x st';cases x<;>rfl
theorem Sk (id:Nat)(b:RC)(s:RS)(K:AX->RS->Prop):iT P l Y (.aA id b) s K=iT P l Y b s (xO id K):=by simp only[iT];congr 1;funext x st';cases x<;>rfl
theorem Sm (c:fE)(a b:RC)(j:Option AX)(q:Bool)(st:St)(K:AX->RS->Prop):iT P l Y (.aD c a b) ⟨j,q,st⟩ K=C_ P l Y (st.aA c) a b ⟨j,q,st⟩ K:=by
 show (match st.aA c with
  | .aE t=>(t=true->iT P l Y a ⟨j,q,st⟩ K)/\(t=false->iT P l Y b ⟨j,q,st⟩ K)
  | _=>False)=C_ P l Y (st.aA c) a b ⟨j,q,st⟩ K
 unfold C_;generalize st.aA c=v;cases v<;>rfl
theorem QF (b:RC)(K:AX->RS->Prop)(s:RS):xP P l Y b K .aA s=iT P l Y b s K:=Vc rfl rfl
theorem QE (b:RC)(K:AX->RS->Prop)(id:Nat)(s:RS):xP P l Y b K (.aD id) s=K (.aD id) s:=Vc rfl rfl
theorem QG (b:RC)(K:AX->RS->Prop)(s:RS):xP P l Y b K .aC s=K .aC s:=Vc rfl rfl
theorem Qv (id:Nat)(K:AX->RS->Prop)(s:RS):xO id K .aA s=K .aA s:=Vc rfl rfl
theorem Qu (id e:Nat)(K:AX->RS->Prop)(s:RS):xO id K (.aD e) s=if e=id then K .aA s else K (.aD e) s:=Vc rfl rfl
theorem Qw (id:Nat)(K:AX->RS->Prop)(s:RS):xO id K .aC s=K .aC s:=Vc rfl rfl
theorem QC (I:Nat->fX->eX->Prop)(m:Nat)(K:AX->RS->Prop)(L:fX)(h:eX):vC I m K .aA ⟨none,false,⟨L,[],h⟩⟩=∃m',m'<m/\I m' L h:=by simp[vC]
theorem QB (I:Nat->fX->eX->Prop)(m:Nat)(K:AX->RS->Prop)(id:Nat)(s:RS):vC I m K (.aD id) s=K (.aD id) s:=Vc rfl rfl
theorem QD (I:Nat->fX->eX->Prop)(m:Nat)(K:AX->RS->Prop)(s:RS):vC I m K .aC s=K .aC s:=Vc rfl rfl
theorem Ss (pre:List AO)(d:jP)(x:fE)(az:List fE)(post:List AO)(st:St)(K:AX->RS->Prop):
  iT P l Y (.aI pre d x az post) ⟨none,false,st⟩ K=gX P pre st (rY P l Y d x az post K):=by
 simp only[iT,true_and];rfl
theorem QH (d:jP)(x:fE)(az:List fE)(post:List AO)(K:AX->RS->Prop)(s1:St):rY P l Y d x az post K s1 =
  (s1.aA x=.aN (.func (.yield l) #[] #[])/\Y (az.map s1.aA) s1.h λj h'=>gX P post {s1.aC d (.aE j.isNone) with h:=h'} (xE (kR j false K))):=Vc rfl rfl
theorem KB (res:List kb)(K:AV->eX->Prop)(x:AX)(j:Option AX)(q:Bool)(st:St):zu res K x ⟨j,q,st⟩=iE res K x st:=Vc rfl rfl
theorem So:∀(c:RC){s:RS}{K K':AX->RS->Prop},(∀x s,K x s->K' x s)->(∀u h (R R':Option AX->eX->Prop),(∀j h,R j h->R' j h)->Y u h R->Y u h R')->iT P l Y c s K->iT P l Y c s K':=by
 intro c;induction c with
 | aC a=>intro s K K' hk hY h;exact oY a (λx st=>hk _ _) h
 | aF a=>intro s K K' hk hY h;exact⟨h.1,oY a (λx st=>hk _ _) h.2⟩
 | aH a b iha ihb=>
  intro s K K' hk hY h;refine iha ?_ hY h;intro x s' hs;cases x with
  | aA=>exact ihb hk hY hs
  | aD id=>exact hk _ _ hs
  | aC=>exact hk _ _ hs
 | aD c a b iha ihb=>
  intro s K K' hk hY h;simp only[iT]at h ⊢;split;·rename_i t ht;rw[ht]at h;exact⟨λe=>iha hk hY (h.1 e),λe=>ihb hk hY (h.2 e)⟩
  ·rename_i C;split at h;·rename_i t ht;exact absurd ht (C t)
   ·exact h
 | aA id b ih=>
  intro s K K' hk hY h;refine ih ?_ hY h;intro x s' hs;cases x with
  | aA=>exact hk _ _ hs
  | aD id'=>
   simp only at hs ⊢;split at hs;·rename_i e;rw[U4 e];exact hk _ _ hs
   ·rename_i e;rw[U6 e];exact hk _ _ hs
  | aC=>exact hk _ _ hs
 | aE b ih=>
  rintro s K K' hk hY ⟨I,h0,hI⟩;refine⟨I,h0,λm s hs=>ih ?_ hY (hI m s hs)⟩;intro x s' hs;cases x with
  | aA=>exact hs
  | aD id=>exact hk _ _ hs
  | aC=>exact hk _ _ hs
 | aI pre d x az post=>rintro s K K' hk hY ⟨h1,h2,h⟩;refine⟨h1,h2,Dy pre ?_ h⟩;rintro s1 ⟨hx,hy⟩;refine⟨hx,hY _ _ _ _ (λj h' hv=>Dy post (λs2 hs=>hk _ _ hs) hv) hy⟩
 | aG g ps aa ab=>rintro s K K' hk hY ⟨h1,gf,cs,Kn,Ks,h2,h3,h4,h5,h6⟩;exact⟨h1,gf,cs,Kn,Ks,h2,h3,h4,λh' hn=>hk _ _ (h5 h' hn),λx h' hs=>⟨(h6 x h' hs).1,hk _ _ (h6 x h' hs).2⟩⟩
theorem Sn (hY:∀e h (R R':Option AX->eX->Prop),(∀j h,R j h->R' j h)->Y e h R->Y e h R')(I:Nat->fX->eX->Prop)(m:Nat){b:RC}{L:fX}{h:eX}{K:AX->RS->Prop}(h0:I m L h)
  (step:∀m L h,I m L h->iT P l Y b ⟨none,false,⟨L,[],h⟩⟩ (vC I m K)):iT P l Y (.aE b) ⟨none,false,⟨L,[],h⟩⟩ K:=by
 refine⟨λm s=>s.j=none/\s.q=false/\s.st.R=[]/\I m s.st.L s.st.h,⟨m,_,Wk.aA _,rfl,rfl,rfl,h0⟩,λm s hI=>?_⟩;obtain⟨j,q,L,R,h⟩:=s;obtain⟨h1,h2,h3,hI⟩:=hI;simp only at h1 h2 h3 hI;subst h1;subst h2;subst h3;refine So b ?_ hY (step m L h hI);intro x s hs;cases x with
 | aA=>obtain⟨m',h1,h2,h3,h4,h5⟩:=hs;exact⟨m',s.st,h1,Wk.aA _,h2,h3,h4,h5⟩
 | aD id=>exact hs
 | aC=>exact hs
theorem KU (aa ab:AC)(ps:List Nat)(L:fX):∀e h (R R':Option AX->eX->Prop),(∀j h,R j h->R' j h)->pB P aa ab ps L e h R->pB P aa ab ps L e h R':=by rintro e h R R' hR ⟨h1,h2⟩;refine⟨h1,oY aa ?_ h2⟩;rintro x s ⟨hx,hb⟩;exact⟨hx,oY ab (λx s' hs=>hR _ _ hs) hb⟩
def kY (R:Option AX->eX->Prop):AX->St->Prop
 | .aA,s=>R none s.h
 | .aD id,s=>R (some (.aD id)) s.h
 | .aC,s=>R (some .aC) s.h
def kA (P:Program)(ab:AC)(R:Option AX->eX->Prop):AX->St->Prop
 | .aA,s=>vc P ab s (kY R)
 | _,_=>False
theorem KT (aa ab:AC)(ps:List Nat)(L:fX)(e:List AV)(h:eX)(R:Option AX->eX->Prop)(hl:e.length=ps.length):pB P aa ab ps L e h R=vc P aa ⟨rG (ps.zip e) L,[],h⟩ (kA P ab R):=by
 unfold pB;rw[eq_iff_iff];constructor;·rintro⟨_,h⟩;refine oY aa ?_ h;rintro x s ⟨rfl,hb⟩;refine oY ab ?_ hb;intro x s' hs;cases x<;>exact hs
 ·intro h;refine⟨hl,oY aa ?_ h⟩;intro x s hb;cases x with
  | aA=>refine⟨rfl,oY ab ?_ hb⟩;intro x s' hs;cases x<;>exact hs
  | aD id=>exact hb.elim
  | aC=>exact hb.elim
theorem NX (ab:AC)(R:Option AX->eX->Prop)(s:St):kA P ab R .aA s=vc P ab s (kY R):=Vc rfl rfl
theorem Ot (R:Option AX->eX->Prop)(s:St):kY R .aA s=R none s.h:=Vc rfl rfl
theorem Oq (R:Option AX->eX->Prop)(id:Nat)(s:St):kY R (.aD id) s=R (some (.aD id)) s.h:=Vc rfl rfl
theorem Ou (R:Option AX->eX->Prop)(s:St):kY R .aC s=R (some .aC) s.h:=Vc rfl rfl
theorem Sq {g:fE}{ps:List Nat}{aa ab:AC}{j:Option AX}{L R:fX}{h:eX}{K:AX->RS->Prop}{gf:FuncId}{cs:List AV}{Kn:eX->Prop}{Ks:AX->eX->Prop}
  (hg:St.aA ⟨L,R,h⟩ g=.aK gf [] cs) (hf:fK P gf=true) (e:ub P gf cs h (pB P aa ab ps L) Kn Ks) (hn:∀h',Kn h'->K .aA ⟨j,true,⟨L,[],h'⟩⟩) (hs:∀x h',Ks x h'->x≠.aA/\K x ⟨j,true,⟨L,[],h'⟩⟩):
  iT P l Y (.aG g ps aa ab) ⟨j,false,⟨L,R,h⟩⟩ K:=
 ⟨rfl,gf,cs,Kn,Ks,hg,hf,e,hn,hs⟩
attribute [go_sem] Ol Sl Sp Sr Sk Sm QF QE QG Qv Qu Qw QC QB QD Ss QH KB NX Ot Oq Ou
end
end Glb
