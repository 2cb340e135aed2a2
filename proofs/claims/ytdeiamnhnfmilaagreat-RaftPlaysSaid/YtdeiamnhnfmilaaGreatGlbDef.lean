/-
  A library of its own.
-/
import Derived.Test.YtdeiamnhnfmilaaGreatGlbInA
import Derived.DefersIn
set_option linter.unusedSimpArgs false
set_option linter.unusedVariables false
namespace Glb
open Go
inductive DC where
 | aC (a:AC) (d:DC)
 | aB (ops:List AO) (g:FuncId) (args:List fJ) (rest:AC)
structure rp where
 n:Nat
 aC:Nat->Bool
 aA:DC
 aB:List jH
section
variable {n:Nat} {keep:Nat->Bool} {P:Program}
def uT (P:Program)(n:Nat)(keep:Nat->Bool)(ops:Array Oper):List Oper->Option (List AO×FuncId×List fJ)
 | []=>none
 | o :: r=>match o.op with
 | .defer {callee:=.value (.func g),args,..}=>match r,o.guard,o.dst with
  | [],none,none=>some ([],g,args.toList.map (cd keep))
  | _,_,_=>none
 | _=>match wP P n keep ops o,uT P n keep ops r with
  | some a,some (pre,g,az)=>some (a :: pre,g,az)
  | _,_=>none
def G5 (P:Program)(n:Nat)(keep:Nat->Bool):Code->Option (List AO×FuncId×List fJ)
 | .region _ ops false=>uT P n keep ops ops.toList
 | _=>none
def t_ (P:Program)(n:Nat)(keep:Nat->Bool):Code->Option DC
 | .seq a b=>match G5 P n keep a with
  | some (pre,g,az)=>if lF b then (cC P n keep b).map (.aB pre g az) else none
  | none=>match cC P n keep a,t_ P n keep b with
   | some x,some d=>some (.aC x d)
   | _,_=>none
 | _=>none
def ua (P:Program)(keep:Nat->Bool)(f:FuncId):Option rp:=
 match P.funcs[f]? with
 | some fn=>match fn.body with
  | some c=>match t_ P fn.ntmps keep c,nT P keep fn.results.toList with
   | some dc,some res=>some ⟨fn.ntmps,keep,dc,res⟩
   | _,_=>none
  | none=>none
 | none=>none
def vT (P:Program)(f:FuncId)(c:rp):Prop:=fI P f=true/\ua P c.aC f=some c
def pk (P:Program)(f:FuncId)(avs:List AV)(h:eZ)(K:AV->eZ->Prop):Prop:=
 ∀(G:Gh)(w:World)(vs:Array Value),fS G w h->VL G w avs vs->∀(m:Nat)(u:FrameMode),CallsDIn Fence.wide m P f vs u w λe u' w'=>u'=u /\
 ∃v r h' G',e=.returned v/\K r h'/\fS G' w' h'/\V G' w' r v/\gE G w G' w'
theorem Me {f:FuncId}{fn:fH}(hf:pJ P keep f=some fn){I:List AV}(hn:I.length<=fn.n){h:eZ}{K:AV->eZ->Prop}
  (hk:vc P fn.aA (np keep I h) (ia fn.aB K)):pk P f I h K:=by
 unfold pJ at hf;split at hf
 ·rename_i fd M;split at hf
  ·rename_i c hc;split at hf
   ·rename_i ac res O E;cases hf;intro G w vs hg hv m u;refine callsDIn_of_wp M hc Vp ?_;refine wpIn_wide.2 (wp_mono (xP c ac O (xk hg hv hn) hk) ?_);intro e a w' hp;have fin:∀{G' t},SR fd.ntmps keep G w G' w' t a->ia res K .aB t->a.defers=[]/\∃v,(results fd a.tmps).run P w'=.ok v w' /\
      ∃v0 r h' G',Ending.returned v=.returned v0/\K r h'/\fS G' w' h'/\V G' w' r v0/\gE G w G' w':=by
     intro G' t b hK;simp only[ia]at hK;split at hK;·rename_i l hl;obtain⟨v,C,hV⟩:=sZ (P:=P) b E hl;exact⟨b.aB,v,C,v,_,_,G',rfl,hK,b.aA,hV,b.aC⟩
     ·exact hK.elim
    cases e with
    | normal=>obtain⟨G',t,b,hK⟩:=hp;exact fin b hK
    | ret=>obtain⟨G',t,b,hK⟩:=hp;exact fin b hK
    | exit id=>obtain⟨G',t,b,hK⟩:=hp;exact hK.elim
    | goto l=>exact hp.elim
    | panic c=>exact hp.elim
    | outgrown=>exact hp.elim
   ·cases hf
  ·cases hf
 ·cases hf
def nV (P:Program):DC->St->(FuncId->List AV->AX->St->Prop)->Prop
 | .aC a d,st,K=>vc P a st λx s=>x=.aA/\nV P d s K
 | .aB ops g args rest,st,K=>gP P ops st λs=>vc P rest {s with R:=[]} (K g (args.map s.aA))
def nf (g:FuncId)(vs:Array Value):Deferred:={target:=.fn (.func g) #[],args:=vs}
def DY (n:Nat)(keep:Nat->Bool)(G0:Gh)(w0:World)(K:FuncId->List AV->AX->St->Prop)(e:Exit)(a:Act)(w:World):Prop:=
 ∃(x:AX)(st:St)(G:Gh)(a0:Act)(g:FuncId)(avs:List AV)(vs:Array Value),e=x.ex/\a=wd a0 [nf g vs]/\SR n keep G0 w0 G w st a0/\VL G w avs vs/\K g avs x st
variable {G0:Gh} {w0:World} {m:Nat}
theorem Tx {ops:Array Oper}{Q:Exit->Act->World->Prop}{K:List AO×FuncId×List fJ->Prop}{k:FuncId->List AV->St->Prop}
  (hn:∀G' w' b a' g I vs,SR n keep G0 w0 G' w' b a'->VL G' w' I vs->k g I b->wpListIn Fence.wide m P ops Q [] (wd a' [nf g vs]) w'):
  ∀(l:List Oper){pre g az} (_:uT P n keep ops l=some (pre,g,az)) {G w st a} (_:SR n keep G0 w0 G w st a) (_:gP P pre st λs=>k g (az.map s.aA) s),wpListIn Fence.wide m P ops Q l (wd a []) w:=by
 intro l;induction l with
 | nil=>intro pre g az h;simp[uT]at h
 | cons o r ih=>
  intro pre g az h G w st a sr hk;unfold uT at h;split at h
  ·rename_i g' args tys U;split at h
   ·rename_i a0 E;cases h;simp only[gP]at hk;unfold wpListIn;rw[Vf (by simp[Region.wanted,a0])];refine⟨λf _=>Vp,?_⟩;rw[qW];have u:(o.semAt Fence.wide.round a.eval).run P w=.ok (.defer (nf g (args.map a.eval))) w:=by have e1:o.semAt Fence.wide.round a.eval=execOp a.eval o:=rfl;rw[e1];obtain⟨dst,op,type,pos,after,guard⟩:=o;have C:op=_:=U;subst C;simp[execOp,resolve,Act.eval,Deferred.ofValue,Sem.run_pure,nf]
    rw[u,Oper.uponIn_defer,E];refine hn G w st a g (args.toList.map (cd keep) |>.map st.aA) (args.map a.eval) sr ⟨by simp,λj c v hc hv=>VL.aA sr.aE args.toList j c v (by simpa using hc) (by simpa using hv)⟩ hk
   ·cases h
  ·split at h;·rename_i ao t g' as' a1 O;cases h;have:gP P [ao] st (λb=>gP P t b λs=>k g (az.map s.aA) s):=hk;exact xO (m:=m) (ops:=ops) (Q:=Q) (r:=r) sO [] (n:=n) (keep:=keep) (G0:=G0) (w0:=w0) (k:=λb=>gP P t b λs=>k g (az.map s.aA) s) (λG2 w2 st2 a2 M W=>ih O M W) [o] [ao] sr (by simp only[pI,a1]) this
   ·cases h
theorem MY:∀(c:Code)(dc:DC),t_ P n keep c=some dc->∀{K:FuncId->List AV->AX->St->Prop}{G w st a},SR n keep G0 w0 G w st a->nV P dc st K->c.wpIn Fence.wide m P (DY n keep G0 w0 K) a w:=by
 intro c;induction c with
 | seq x y ihx ihy=>
  intro dc hc K G w st a sr hk;simp only[t_]at hc;split at hc
  ·rename_i pre g az hh;split at hc
   ·rename_i hcalm;simp only[Vu]at hc;obtain⟨ay,U,rfl⟩:=hc;unfold G5 at hh;split at hh
    ·rename_i id ops;refine wpIn_seq (wpIn_region_list ?_);have e0:wd a []=a:=pj sr.aB;rw[<-e0];refine Tx (K:=λ_=>True) (k:=λg M s=>vc P ay {s with R:=[]} (K g M)) ?_ ops.toList hh sr hk;intro G' w' I a' g M vs u W O;have a1:SR n keep G' w' G' w' {I with R:=[]} a':=⟨u.aA,u.aD,u.aB,u.L,λ_ _=>.aI _,gE.aC G' w'⟩;have:=uV (m:=m) (n:=n) (keep:=keep) sO [nf g vs] y ay U a1 O;show y.wpIn _ _ _ _ _ _;refine wpIn_mono this ?_;rintro e _ w2 ⟨a0,rfl,hp⟩;have fin:∀{G2 E}(x:AX),SR n keep G' w' G2 w2 E a0->K g M x E->e=x.ex->DY n keep G0 w0 K e (wd a0 [nf g vs]) w2:=λx b C he=>⟨x,_,_,a0,g,M,vs,he,rfl,⟨b.aA,b.aD,b.aB,b.L,b.R,u.aC.aI b.aC⟩,⟨W.1,λj c v h1 h2=>(W.2 j c v h1 h2).aA b.aC.aA⟩,C⟩;cases e with
     | normal=>obtain⟨G2,E,b,C⟩:=hp;exact fin .aA b C rfl
     | exit id=>obtain⟨G2,E,b,C⟩:=hp;exact fin (.aC id) b C rfl
     | ret=>obtain⟨G2,E,b,C⟩:=hp;exact fin .aB b C rfl
     | goto t=>exact hp.elim
     | panic c=>exact hp.elim
     | outgrown=>exact hp.elim
    ·cases hh
   ·cases hc
  ·split at hc
   ·rename_i hx ax ay a2 U;cases hc;refine wpIn_seq (wpIn_wide.2 (wp_mono (xP x ax a2 sr hk) ?_));intro e a' w' hp;cases e with
    | normal=>obtain⟨G',I,u,-,O⟩:=hp;exact ihy ay U u O
    | exit id=>obtain⟨G',I,u,e,-⟩:=hp;cases e
    | ret=>obtain⟨G',I,u,e,-⟩:=hp;cases e
    | goto l=>exact hp.elim
    | panic c=>exact hp.elim
    | outgrown=>exact hp.elim
   ·cases hc
 | _=>intro dc hc;simp[t_]at hc
def pD (P:Program)(res:List jH)(K:AV->eZ->Prop)(g:FuncId)(avs:List AV):AX->St->Prop
 | .aC _,_=>False
 | _,st=>fI P g=true/\pk P g avs st.h λ_ h'=>match kC {st with R:=[],h:=h'} res with
 | some l=>K (o9 l) h'
 | none=>False
theorem GJ {f:FuncId}{fn:rp}(hf:ua P keep f=some fn){avs:List AV}(hn:avs.length<=fn.n){h:eZ}{K:AV->eZ->Prop}
  (hk:nV P fn.aA (np keep avs h) (pD P fn.aB K)):fy P f avs h K:=by
 unfold ua at hf;split at hf
 ·rename_i fd hfd;split at hf
  ·rename_i c hc;split at hf
   ·rename_i ac res hac hres;cases hf;intro G w vs hg hv;refine (callsIn_wide (n:=0)).1 (callsIn_of_wp_marks hfd hc Vp ?_);refine wpIn_mono (MY (m:=0) c ac hac (xk hg hv hn) hk) ?_;rintro e _ w' ⟨x,st,G',a0,g,avs',vs',rfl,rfl,sr,hvl,hK⟩;have fin:pD P res K g avs' .aB st->LeavesInM Fence.wide 0 P fd (wd a0 [nf g vs']).tmps (λe w'=>∃v r h' G',e=.returned v/\K r h'/\fS G' w' h'/\V G' w' r v/\gE G w G' w') [nf g vs'] .returning w':=by
     rintro⟨hfg,hK⟩;have hinv:(invoke (nf g vs').target (nf g vs').args).run P w'=.ok (.enter g vs') w':=by simp[nf,invoke,ta hfg]
     refine⟨by simp,.inr ⟨λh=>(by cases h),.func g,#[],g,vs',rfl,hinv,λ_ _=>Vp,?_⟩⟩;refine (hK G' w' vs' sr.aA hvl 0 .returning).mono ?_;rintro e u' w2 ⟨rfl,v,r,h',G2,rfl,hm,hg2,hV2,hS2⟩;split at hm;·rename_i l hl;have sr2:SR fd.ntmps keep G2 w2 G2 w2 {st with R:=[],h:=h'} a0:=⟨hg2,sr.aD,sr.aB,λs hk=>(sr.L s hk).aA hS2.aA,λ_ _=>.aI _,gE.aC _ _⟩;obtain⟨v2,hrun,hV⟩:=sZ (P:=P) sr2 hres hl;exact⟨v2,hrun,v2,_,_,G2,rfl,hm,hg2,hV,sr.aC.aI hS2⟩
     ·exact hm.elim
    cases x with
    | aA=>exact fin hK
    | aB=>exact fin hK
    | aC id=>exact hK.elim
   ·cases hf
  ·cases hf
 ·cases hf
def CE (P:Program)(d:DC)(K:FuncId->List AV->AX->St->Prop):AX->St->Prop
 | .aA,s=>nV P d s K
 | _,_=>False
def Ha (P:Program)(g:FuncId)(args:List fJ)(rest:AC)(K:FuncId->List AV->AX->St->Prop):St->Prop:=λs=>vc P rest ⟨s.L,[],s.h⟩ (K g (args.map s.aA))
theorem MX (a:AC)(d:DC)(st:St)(K:FuncId->List AV->AX->St->Prop):nV P (.aC a d) st K=vc P a st (CE P d K):=by simp only[nV];congr 1;funext x s;cases x<;>simp[CE]
theorem O0 (d:DC)(K:FuncId->List AV->AX->St->Prop)(s:St):CE P d K .aA s=nV P d s K:=Vn rfl rfl
theorem MW (ops:List AO)(g:FuncId)(args:List fJ)(rest:AC)(st:St)(K:FuncId->List AV->AX->St->Prop):nV P (.aB ops g args rest) st K=gP P ops st (Ha P g args rest K):=Vn rfl rfl
theorem O1 (g:FuncId)(args:List fJ)(rest:AC)(K:FuncId->List AV->AX->St->Prop)(L R:fY)(h:eZ):Ha P g args rest K ⟨L,R,h⟩=vc P rest ⟨L,[],h⟩ (K g (args.map (St.aA ⟨L,R,h⟩))):=Vn rfl rfl
def sJ (res:List jH)(L:fY)(K:AV->eZ->Prop):AV->eZ->Prop:=λ_ h'=>ia res K .aB ⟨L,[],h'⟩
def sj (P:Program)(g:FuncId)(avs:List AV)(h:eZ)(K:AV->eZ->Prop):Prop:=fI P g=true/\pk P g avs h K
theorem KX (res:List jH)(K:AV->eZ->Prop)(g:FuncId)(b:List AV)(L R:fY)(h:eZ):pD P res K g b .aB ⟨L,R,h⟩=sj P g b h (sJ res L K):=Vn rfl rfl
theorem KW (res:List jH)(K:AV->eZ->Prop)(g:FuncId)(b:List AV)(L R:fY)(h:eZ):pD P res K g b .aA ⟨L,R,h⟩=sj P g b h (sJ res L K):=Vn rfl rfl
theorem Pl (res:List jH)(L:fY)(K:AV->eZ->Prop)(v:AV)(h':eZ):sJ res L K v h'=ia res K .aB ⟨L,[],h'⟩:=Vn rfl rfl
theorem pk.aA {f avs h}{K K':AV->eZ->Prop}(hc:pk P f avs h K)(hk:∀r h',K r h'->K' r h'):pk P f avs h K':=
 λG w vs hg hv m u=>(hc G w vs hg hv m u).mono λ_ _ _ ⟨hu,v,r,h',G',h1,h2,h3⟩=>⟨hu,v,r,h',G',h1,hk _ _ h2,h3⟩
theorem Cq {f:FuncId}{b:List AV}{h:eZ}{K K':AV->eZ->Prop}(hc:fI P f=true/\pk P f b h K)(hk:∀r h',K r h'->K' r h'):sj P f b h K':=⟨hc.1,hc.2.aA hk⟩
attribute [go_sem] MX O0 MW O1 KX KW Pl
end
end Glb
