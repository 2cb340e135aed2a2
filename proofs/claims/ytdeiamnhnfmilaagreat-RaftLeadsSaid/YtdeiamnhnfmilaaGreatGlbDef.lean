/-
  A library of its own.
-/
import Derived.Test.YtdeiamnhnfmilaaGreatGlbInA
import Derived.DefersIn
set_option linter.unusedSimpArgs false
set_option linter.unusedVariables false
namespace Glb
open Go
inductive DC where
 | aD (a:AC) (d:DC)
 | aC (ops:List AO) (g:FuncId) (args:List fN) (rest:AC)
structure tW where
 n:Nat
 aD:Nat->Bool
 aA:DC
 aC:List kU
section
variable {n:Nat} {keep:Nat->Bool} {P:Program}
def xg (P:Program)(n:Nat)(keep:Nat->Bool)(ops:Array Oper):List Oper->Option (List AO×FuncId×List fN)
 | []=>none
 | o :: r=>match o.op with
  | .defer {callee:=.value (.func g),args,..}=>match r,o.guard,o.dst with
   | [],none,none=>some ([],g,args.toList.map (cd keep))
   | _,_,_=>none
  | _=>match yv P n keep ops o,xg P n keep ops r with
   | some a,some (pre,g,az)=>some (a :: pre,g,az)
   | _,_=>none
def HU (P:Program)(n:Nat)(keep:Nat->Bool):Code->Option (List AO×FuncId×List fN)
 | .region _ ops false=>xg P n keep ops ops.toList
 | _=>none
def wg (P:Program)(n:Nat)(keep:Nat->Bool):Code->Option DC
 | .seq a b=>match HU P n keep a with
  | some (pre,g,az)=>if mW b then (cC P n keep b).map (.aC pre g az) else none
  | none=>match cC P n keep a,wg P n keep b with
   | some x,some d=>some (.aD x d)
   | _,_=>none
 | _=>none
def wh (P:Program)(keep:Nat->Bool)(f:FuncId):Option tW:=
 match P.funcs[f]? with
 | some fn=>match fn.body with
  | some c=>match wg P fn.ntmps keep c,pS P keep fn.results.toList with
   | some dc,some res=>some ⟨fn.ntmps,keep,dc,res⟩
   | _,_=>none
  | none=>none
 | none=>none
def xI (P:Program)(f:FuncId)(c:tW):Prop:=fZ P f=true/\wh P c.aD f=some c
def qR (P:Program)(f:FuncId)(avs:List AV)(h:fu)(K:AV->fu->Prop):Prop:=
 ∀(G:Gh)(w:World)(vs:Array Value),fY G w h->VL G w avs vs->∀(m:Nat)(u:FrameMode),CallsDIn Fence.wide m P f vs u w λe u' w'=>u'=u /\
  ∃v r h' G',e=.returned v/\K r h'/\fY G' w' h'/\V G' w' r v/\gP G w G' w'
theorem NP {f:FuncId}{fn:fT}(hf:rF P keep f=some fn){W:List AV}(hn:W.length<=fn.n){h:fu}{K:AV->fu->Prop}
  (hk:vc P fn.aA (pf keep W h) (iS fn.aC K)):qR P f W h K:=by
 unfold rF at hf;split at hf
 ·rename_i fd Z;split at hf
  ·rename_i c hc;split at hf
   ·rename_i ac res a1 U;cases hf;intro G w vs hg hv m u;refine callsDIn_of_wp Z hc Xb ?_;refine wpIn_wide.2 (wp_mono (zS c ac a1 (yZ hg hv hn) hk) ?_);intro e a w' hp;have fin:∀{G' I},SR fd.ntmps keep G w G' w' I a->iS res K .aC I->a.defers=[]/\∃v,(results fd a.tmps).run P w'=.ok v w' /\
      ∃v0 r h' G',Ending.returned v=.returned v0/\K r h'/\fY G' w' h'/\V G' w' r v0/\gP G w G' w':=by
     intro G' I E hK;simp only[iS]at hK;split at hK;·rename_i l hl;obtain⟨v,O,hV⟩:=vp (P:=P) E U hl;exact⟨E.aC,v,O,v,_,_,G',rfl,hK,E.aA,hV,E.aD⟩
     ·exact hK.elim
    cases e with
    | normal=>obtain⟨G',I,E,hK⟩:=hp;exact fin E hK
    | ret=>obtain⟨G',I,E,hK⟩:=hp;exact fin E hK
    | exit id=>obtain⟨G',I,E,hK⟩:=hp;exact hK.elim
    | goto l=>exact hp.elim
    | panic c=>exact hp.elim
    | outgrown=>exact hp.elim
   ·cases hf
  ·cases hf
 ·cases hf
def pT (P:Program):DC->St->(FuncId->List AV->AX->St->Prop)->Prop
 | .aD a d,st,K=>vc P a st λx s=>x=.aA/\pT P d s K
 | .aC ops g args rest,st,K=>ig P ops st λs=>vc P rest {s with R:=[]} (K g (args.map s.aA))
def oZ (g:FuncId)(vs:Array Value):Deferred:={target:=.fn (.func g) #[],args:=vs}
def Fq (n:Nat)(keep:Nat->Bool)(G0:Gh)(w0:World)(K:FuncId->List AV->AX->St->Prop)(e:Exit)(a:Act)(w:World):Prop:=
 ∃(x:AX)(st:St)(G:Gh)(a0:Act)(g:FuncId)(avs:List AV)(vs:Array Value),e=x.ex/\a=wd a0 [oZ g vs]/\SR n keep G0 w0 G w st a0/\VL G w avs vs/\K g avs x st
variable {G0:Gh} {w0:World} {m:Nat}
theorem U8 {ops:Array Oper}{Q:Exit->Act->World->Prop}{K:List AO×FuncId×List fN->Prop}{k:FuncId->List AV->St->Prop}
  (hn:∀G' w' e a' g U vs,SR n keep G0 w0 G' w' e a'->VL G' w' U vs->k g U e->wpListIn Fence.wide m P ops Q [] (wd a' [oZ g vs]) w'):
  ∀(l:List Oper){pre g az} (_:xg P n keep ops l=some (pre,g,az)) {G w st a} (_:SR n keep G0 w0 G w st a) (_:ig P pre st λs=>k g (az.map s.aA) s),wpListIn Fence.wide m P ops Q l (wd a []) w:=by
 intro l;induction l with
 | nil=>intro pre g az h;simp[xg]at h
 | cons o r ih=>
  intro pre g az h G w st a sr hk;unfold xg at h;split at h
  ·rename_i g' args tys a1;split at h
   ·rename_i a4 O;cases h;simp only[ig]at hk;unfold wpListIn;rw[WW (by simp[Region.wanted,a4])];refine⟨λf _=>Xb,?_⟩;rw[tP];have E:(o.semAt Fence.wide.round a.eval).run P w=.ok (.defer (oZ g (args.map a.eval))) w:=by have e1:o.semAt Fence.wide.round a.eval=execOp a.eval o:=rfl;rw[e1];obtain⟨dst,op,type,pos,after,guard⟩:=o;have I:op=_:=a1;subst I;simp[execOp,resolve,Act.eval,Deferred.ofValue,Sem.run_pure,oZ]
    rw[E,Oper.uponIn_defer,O];refine hn G w st a g (args.toList.map (cd keep) |>.map st.aA) (args.map a.eval) sr ⟨ς,λj c v hc hv=>VL.aA sr.aF args.toList j c v (by simpa using hc) (by simpa using hv)⟩ hk
   ·cases h
  ·split at h;·rename_i ao u g' as' a5 Z;cases h;have:ig P [ao] st (λe=>ig P u e λs=>k g (az.map s.aA) s):=hk;exact zR (m:=m) (ops:=ops) (Q:=Q) (r:=r) u0 [] (n:=n) (keep:=keep) (G0:=G0) (w0:=w0) (k:=λe=>ig P u e λs=>k g (az.map s.aA) s) (λG2 w2 st2 a2 W a3=>ih Z W a3) [o] [ao] sr (by simp only[rD,a5]) this
   ·cases h
theorem N_:∀(c:Code)(dc:DC),wg P n keep c=some dc->∀{K:FuncId->List AV->AX->St->Prop}{G w st a},SR n keep G0 w0 G w st a->pT P dc st K->c.wpIn Fence.wide m P (Fq n keep G0 w0 K) a w:=by
 intro c;induction c with
 | seq x y ihx ihy=>
  intro dc hc K G w st a sr hk;simp only[wg]at hc;split at hc
  ·rename_i pre g az hh;split at hc
   ·rename_i hcalm;simp only[Xn]at hc;obtain⟨ay,a1,rfl⟩:=hc;unfold HU at hh;split at hh
    ·rename_i id ops;refine wpIn_seq (wpIn_region_list ?_);have e0:wd a []=a:=qP sr.aC;rw[<-e0];refine U8 (K:=λ_=>True) (k:=λg W s=>vc P ay {s with R:=[]} (K g W)) ?_ ops.toList hh sr hk;intro G' w' U a' g W vs E a2 Z;have a3:SR n keep G' w' G' w' {U with R:=[]} a':=⟨E.aA,E.aE,E.aC,E.L,λ_ _=>.aI _,gP.aD G' w'⟩;have:=xk (m:=m) (n:=n) (keep:=keep) u0 [oZ g vs] y ay a1 a3 Z;show y.wpIn _ _ _ _ _ _;refine wpIn_mono this ?_;rintro e _ w2 ⟨a0,rfl,hp⟩;have fin:∀{G2 O}(x:AX),SR n keep G' w' G2 w2 O a0->K g W x O->e=x.ex->Fq n keep G0 w0 K e (wd a0 [oZ g vs]) w2:=λx u I he=>⟨x,_,_,a0,g,W,vs,he,rfl,⟨u.aA,u.aE,u.aC,u.L,u.R,E.aD.aI u.aD⟩,⟨a2.1,λj c v h1 h2=>(a2.2 j c v h1 h2).aA u.aD.aA⟩,I⟩;cases e with
     | normal=>obtain⟨G2,O,u,I⟩:=hp;exact fin .aA u I rfl
     | exit id=>obtain⟨G2,O,u,I⟩:=hp;exact fin (.aD id) u I rfl
     | ret=>obtain⟨G2,O,u,I⟩:=hp;exact fin .aC u I rfl
     | goto t=>exact hp.elim
     | panic c=>exact hp.elim
     | outgrown=>exact hp.elim
    ·cases hh
   ·cases hc
  ·split at hc
   ·rename_i hx ax ay a4 a1;cases hc;refine wpIn_seq (wpIn_wide.2 (wp_mono (zS x ax a4 sr hk) ?_));intro e a' w' hp;cases e with
    | normal=>obtain⟨G',U,E,-,Z⟩:=hp;exact ihy ay a1 E Z
    | exit id=>obtain⟨G',U,E,e,-⟩:=hp;cases e
    | ret=>obtain⟨G',U,E,e,-⟩:=hp;cases e
    | goto l=>exact hp.elim
    | panic c=>exact hp.elim
    | outgrown=>exact hp.elim
   ·cases hc
 | _=>intro dc hc;simp[wg]at hc
def rA (P:Program)(res:List kU)(K:AV->fu->Prop)(g:FuncId)(avs:List AV):AX->St->Prop
 | .aD _,_=>False
 | _,st=>fZ P g=true/\qR P g avs st.h λ_ h'=>match mh {st with R:=[],h:=h'} res with
  | some l=>K (qH l) h'
  | none=>False
theorem Hy {f:FuncId}{fn:tW}(hf:wh P keep f=some fn){avs:List AV}(hn:avs.length<=fn.n){h:fu}{K:AV->fu->Prop}
  (hk:pT P fn.aA (pf keep avs h) (rA P fn.aC K)):fO P f avs h K:=by
 unfold wh at hf;split at hf
 ·rename_i fd hfd;split at hf
  ·rename_i c hc;split at hf
   ·rename_i ac res hac hres;cases hf;intro G w vs hg hv;refine (callsIn_wide (n:=0)).1 (callsIn_of_wp_marks hfd hc Xb ?_);refine wpIn_mono (N_ (m:=0) c ac hac (yZ hg hv hn) hk) ?_;rintro e _ w' ⟨x,st,G',a0,g,avs',vs',rfl,rfl,sr,hvl,hK⟩;have fin:rA P res K g avs' .aC st->LeavesInM Fence.wide 0 P fd (wd a0 [oZ g vs']).tmps (λe w'=>∃v r h' G',e=.returned v/\K r h'/\fY G' w' h'/\V G' w' r v/\gP G w G' w') [oZ g vs'] .returning w':=by
     rintro⟨hfg,hK⟩;have hinv:(invoke (oZ g vs').target (oZ g vs').args).run P w'=.ok (.enter g vs') w':=by simp[oZ,invoke,vq hfg]
     refine⟨ς,.inr ⟨λh=>(by cases h),.func g,#[],g,vs',rfl,hinv,λ_ _=>Xb,?_⟩⟩;refine (hK G' w' vs' sr.aA hvl 0 .returning).mono ?_;rintro e u' w2 ⟨rfl,v,r,h',G2,rfl,hm,hg2,hV2,hS2⟩;split at hm;·rename_i l hl;have sr2:SR fd.ntmps keep G2 w2 G2 w2 {st with R:=[],h:=h'} a0:=⟨hg2,sr.aE,sr.aC,λs hk=>(sr.L s hk).aA hS2.aA,λ_ _=>.aI _,gP.aD _ _⟩;obtain⟨v2,hrun,hV⟩:=vp (P:=P) sr2 hres hl;exact⟨v2,hrun,v2,_,_,G2,rfl,hm,hg2,hV,sr.aD.aI hS2⟩
     ·exact hm.elim
    cases x with
    | aA=>exact fin hK
    | aC=>exact fin hK
    | aD id=>exact hK.elim
   ·cases hf
  ·cases hf
 ·cases hf
def DP (P:Program)(d:DC)(K:FuncId->List AV->AX->St->Prop):AX->St->Prop
 | .aA,s=>pT P d s K
 | _,_=>False
def Ic (P:Program)(g:FuncId)(args:List fN)(rest:AC)(K:FuncId->List AV->AX->St->Prop):St->Prop:=λs=>vc P rest ⟨s.L,[],s.h⟩ (K g (args.map s.aA))
theorem N9 (a:AC)(d:DC)(st:St)(K:FuncId->List AV->AX->St->Prop):pT P (.aD a d) st K=vc P a st (DP P d K):=by simp only[pT];congr 1;funext x s;cases x<;>simp[DP]
theorem PI (d:DC)(K:FuncId->List AV->AX->St->Prop)(s:St):DP P d K .aA s=pT P d s K:=W_ rfl rfl
theorem N8 (ops:List AO)(g:FuncId)(args:List fN)(rest:AC)(st:St)(K:FuncId->List AV->AX->St->Prop):pT P (.aC ops g args rest) st K=ig P ops st (Ic P g args rest K):=W_ rfl rfl
theorem PJ (g:FuncId)(args:List fN)(rest:AC)(K:FuncId->List AV->AX->St->Prop)(L R:gx)(h:fu):Ic P g args rest K ⟨L,R,h⟩=vc P rest ⟨L,[],h⟩ (K g (args.map (St.aA ⟨L,R,h⟩))):=W_ rfl rfl
def uW (res:List kU)(L:gx)(K:AV->fu->Prop):AV->fu->Prop:=λ_ h'=>iS res K .aC ⟨L,[],h'⟩
def uI (P:Program)(g:FuncId)(avs:List AV)(h:fu)(K:AV->fu->Prop):Prop:=fZ P g=true/\qR P g avs h K
theorem Ma (res:List kU)(K:AV->fu->Prop)(g:FuncId)(e:List AV)(L R:gx)(h:fu):rA P res K g e .aC ⟨L,R,h⟩=uI P g e h (uW res L K):=W_ rfl rfl
theorem L_ (res:List kU)(K:AV->fu->Prop)(g:FuncId)(e:List AV)(L R:gx)(h:fu):rA P res K g e .aA ⟨L,R,h⟩=uI P g e h (uW res L K):=W_ rfl rfl
theorem P4 (res:List kU)(L:gx)(K:AV->fu->Prop)(v:AV)(h':fu):uW res L K v h'=iS res K .aC ⟨L,[],h'⟩:=W_ rfl rfl
theorem qR.aA {f avs h}{K K':AV->fu->Prop}(hc:qR P f avs h K)(hk:∀r h',K r h'->K' r h'):qR P f avs h K':=
 λG w vs hg hv m u=>(hc G w vs hg hv m u).mono λ_ _ _ ⟨hu,v,r,h',G',h1,h2,h3⟩=>⟨hu,v,r,h',G',h1,hk _ _ h2,h3⟩
theorem Dw {f:FuncId}{e:List AV}{h:fu}{K K':AV->fu->Prop}(hc:fZ P f=true/\qR P f e h K)(hk:∀r h',K r h'->K' r h'):uI P f e h K':=⟨hc.1,hc.2.aA hk⟩
attribute [go_sem] N9 PI N8 PJ Ma L_ P4
end
end Glb
