/-
  A library of its own.
-/
import Derived.Test.YtdeiamnhnfmilaaGreatGlbInA
import Derived.DefersIn
set_option linter.unusedSimpArgs false
set_option linter.unusedVariables false
namespace Glb
open Go
inductive DC where
 | aD (a:AC) (d:DC)
 | aC (ops:List AO) (g:FuncId) (args:List fE) (rest:AC)
structure sk where
 n:Nat
 aD:Nat->Bool
 aA:DC
 aC:List kb
section
variable {n:Nat} {keep:Nat->Bool} {P:Program}
def vI (P:Program)(n:Nat)(keep:Nat->Bool)(ops:Array Oper):List Oper->Option (List AO×FuncId×List fE)
 | []=>none
 | o :: r=>match o.op with
  | .defer {callee:=.value (.func g),args,..}=>match r,o.guard,o.dst with
   | [],none,none=>some ([],g,args.toList.map (cd keep))
   | _,_,_=>none
  | _=>match wU P n keep ops o,vI P n keep ops r with
   | some a,some (pre,g,az)=>some (a :: pre,g,az)
   | _,_=>none
def Gv (P:Program)(n:Nat)(keep:Nat->Bool):Code->Option (List AO×FuncId×List fE)
 | .region _ ops false=>vI P n keep ops ops.toList
 | _=>none
def uM (P:Program)(n:Nat)(keep:Nat->Bool):Code->Option DC
 | .seq a b=>match Gv P n keep a with
  | some (pre,g,az)=>if lY b then (cC P n keep b).map (.aC pre g az) else none
  | none=>match cC P n keep a,uM P n keep b with
   | some x,some d=>some (.aD x d)
   | _,_=>none
 | _=>none
def uN (P:Program)(keep:Nat->Bool)(f:FuncId):Option sk:=
 match P.funcs[f]? with
 | some fn=>match fn.body with
  | some c=>match uM P fn.ntmps keep c,oJ P keep fn.results.toList with
   | some dc,some res=>some ⟨fn.ntmps,keep,dc,res⟩
   | _,_=>none
  | none=>none
 | none=>none
def wa (P:Program)(f:FuncId)(c:sk):Prop:=fK P f=true/\uN P c.aD f=some c
def pR (P:Program)(f:FuncId)(avs:List AV)(h:eX)(K:AV->eX->Prop):Prop:=
 ∀(G:Gh)(w:World)(vs:Array Value),fO G w h->VL G w avs vs->∀(m:Nat)(u:FrameMode),CallsDIn Fence.wide m P f vs u w λe u' w'=>u'=u /\
  ∃v r h' G',e=.returned v/\K r h'/\fO G' w' h'/\V G' w' r v/\gI G w G' w'
theorem L3 {f:FuncId}{fn:fM}(hf:qc P keep f=some fn){O:List AV}(hn:O.length<=fn.n){h:eX}{K:AV->eX->Prop}
  (hk:vc P fn.aA (nY keep O h) (iE fn.aC K)):pR P f O h K:=by
 unfold qc at hf;split at hf
 ·rename_i fd U;split at hf
  ·rename_i c hc;split at hf
   ·rename_i ac res W M;cases hf;intro G w vs hg hv m u;refine callsDIn_of_wp U hc Vd ?_;refine wpIn_wide.2 (wp_mono (yd c ac W (xB hg hv hn) hk) ?_);intro e a w' hp;have fin:∀{G' E},SR fd.ntmps keep G w G' w' E a->iE res K .aC E->a.defers=[]/\∃v,(results fd a.tmps).run P w'=.ok v w' /\
      ∃v0 r h' G',Ending.returned v=.returned v0/\K r h'/\fO G' w' h'/\V G' w' r v0/\gI G w G' w':=by
     intro G' E C hK;simp only[iE]at hK;split at hK;·rename_i l hl;obtain⟨v,I,hV⟩:=tT (P:=P) C M hl;exact⟨C.aC,v,I,v,_,_,G',rfl,hK,C.aA,hV,C.aD⟩
     ·exact hK.elim
    cases e with
    | normal=>obtain⟨G',E,C,hK⟩:=hp;exact fin C hK
    | ret=>obtain⟨G',E,C,hK⟩:=hp;exact fin C hK
    | exit id=>obtain⟨G',E,C,hK⟩:=hp;exact hK.elim
    | goto l=>exact hp.elim
    | panic c=>exact hp.elim
    | outgrown=>exact hp.elim
   ·cases hf
  ·cases hf
 ·cases hf
def oK (P:Program):DC->St->(FuncId->List AV->AX->St->Prop)->Prop
 | .aD a d,st,K=>vc P a st λx s=>x=.aA/\oK P d s K
 | .aC ops g args rest,st,K=>gX P ops st λs=>vc P rest {s with R:=[]} (K g (args.map s.aA))
def nT (g:FuncId)(vs:Array Value):Deferred:={target:=.fn (.func g) #[],args:=vs}
def DU (n:Nat)(keep:Nat->Bool)(G0:Gh)(w0:World)(K:FuncId->List AV->AX->St->Prop)(e:Exit)(a:Act)(w:World):Prop:=
 ∃(x:AX)(st:St)(G:Gh)(a0:Act)(g:FuncId)(avs:List AV)(vs:Array Value),e=x.ex/\a=wd a0 [nT g vs]/\SR n keep G0 w0 G w st a0/\VL G w avs vs/\K g avs x st
variable {G0:Gh} {w0:World} {m:Nat}
theorem S_ {ops:Array Oper}{Q:Exit->Act->World->Prop}{K:List AO×FuncId×List fE->Prop}{k:FuncId->List AV->St->Prop}
  (hn:∀G' w' e a' g M vs,SR n keep G0 w0 G' w' e a'->VL G' w' M vs->k g M e->wpListIn Fence.wide m P ops Q [] (wd a' [nT g vs]) w'):
  ∀(l:List Oper){pre g az} (_:vI P n keep ops l=some (pre,g,az)) {G w st a} (_:SR n keep G0 w0 G w st a) (_:gX P pre st λs=>k g (az.map s.aA) s),wpListIn Fence.wide m P ops Q l (wd a []) w:=by
 intro l;induction l with
 | nil=>intro pre g az h;simp[vI]at h
 | cons o r ih=>
  intro pre g az h G w st a sr hk;unfold vI at h;split at h
  ·rename_i g' args tys W;split at h
   ·rename_i a1 I;cases h;simp only[gX]at hk;unfold wpListIn;rw[U4 (by simp[Region.wanted,a1])];refine⟨λf _=>Vd,?_⟩;rw[rU];have C:(o.semAt Fence.wide.round a.eval).run P w=.ok (.defer (nT g (args.map a.eval))) w:=by have e1:o.semAt Fence.wide.round a.eval=execOp a.eval o:=rfl;rw[e1];obtain⟨dst,op,type,pos,after,guard⟩:=o;have E:op=_:=W;subst E;simp[execOp,resolve,Act.eval,Deferred.ofValue,Sem.run_pure,nT]
    rw[C,Oper.uponIn_defer,I];refine hn G w st a g (args.toList.map (cd keep) |>.map st.aA) (args.map a.eval) sr ⟨by simp,λj c v hc hv=>VL.aA sr.aF args.toList j c v (by simpa using hc) (by simpa using hv)⟩ hk
   ·cases h
  ·split at h;·rename_i ao u g' as' a3 U;cases h;have:gX P [ao] st (λe=>gX P u e λs=>k g (az.map s.aA) s):=hk;exact yc (m:=m) (ops:=ops) (Q:=Q) (r:=r) tM [] (n:=n) (keep:=keep) (G0:=G0) (w0:=w0) (k:=λe=>gX P u e λs=>k g (az.map s.aA) s) (λG2 w2 st2 a2 O Z=>ih U O Z) [o] [ao] sr (by simp only[qb,a3]) this
   ·cases h
theorem Mm:∀(c:Code)(dc:DC),uM P n keep c=some dc->∀{K:FuncId->List AV->AX->St->Prop}{G w st a},SR n keep G0 w0 G w st a->oK P dc st K->c.wpIn Fence.wide m P (DU n keep G0 w0 K) a w:=by
 intro c;induction c with
 | seq x y ihx ihy=>
  intro dc hc K G w st a sr hk;simp only[uM]at hc;split at hc
  ·rename_i pre g az hh;split at hc
   ·rename_i hcalm;simp only[Vl]at hc;obtain⟨ay,W,rfl⟩:=hc;unfold Gv at hh;split at hh
    ·rename_i id ops;refine wpIn_seq (wpIn_region_list ?_);have e0:wd a []=a:=pQ sr.aC;rw[<-e0];refine S_ (K:=λ_=>True) (k:=λg O s=>vc P ay {s with R:=[]} (K g O)) ?_ ops.toList hh sr hk;intro G' w' M a' g O vs C Z U;have a1:SR n keep G' w' G' w' {M with R:=[]} a':=⟨C.aA,C.aE,C.aC,C.L,λ_ _=>.aI _,gI.aD G' w'⟩;have:=vL (m:=m) (n:=n) (keep:=keep) tM [nT g vs] y ay W a1 U;show y.wpIn _ _ _ _ _ _;refine wpIn_mono this ?_;rintro e _ w2 ⟨a0,rfl,hp⟩;have fin:∀{G2 I}(x:AX),SR n keep G' w' G2 w2 I a0->K g O x I->e=x.ex->DU n keep G0 w0 K e (wd a0 [nT g vs]) w2:=λx u E he=>⟨x,_,_,a0,g,O,vs,he,rfl,⟨u.aA,u.aE,u.aC,u.L,u.R,C.aD.aI u.aD⟩,⟨Z.1,λj c v h1 h2=>(Z.2 j c v h1 h2).aA u.aD.aA⟩,E⟩;cases e with
     | normal=>obtain⟨G2,I,u,E⟩:=hp;exact fin .aA u E rfl
     | exit id=>obtain⟨G2,I,u,E⟩:=hp;exact fin (.aD id) u E rfl
     | ret=>obtain⟨G2,I,u,E⟩:=hp;exact fin .aC u E rfl
     | goto t=>exact hp.elim
     | panic c=>exact hp.elim
     | outgrown=>exact hp.elim
    ·cases hh
   ·cases hc
  ·split at hc
   ·rename_i hx ax ay a2 W;cases hc;refine wpIn_seq (wpIn_wide.2 (wp_mono (yd x ax a2 sr hk) ?_));intro e a' w' hp;cases e with
    | normal=>obtain⟨G',M,C,-,U⟩:=hp;exact ihy ay W C U
    | exit id=>obtain⟨G',M,C,e,-⟩:=hp;cases e
    | ret=>obtain⟨G',M,C,e,-⟩:=hp;cases e
    | goto l=>exact hp.elim
    | panic c=>exact hp.elim
    | outgrown=>exact hp.elim
   ·cases hc
 | _=>intro dc hc;simp[uM]at hc
def p8 (P:Program)(res:List kb)(K:AV->eX->Prop)(g:FuncId)(avs:List AV):AX->St->Prop
 | .aD _,_=>False
 | _,st=>fK P g=true/\pR P g avs st.h λ_ h'=>match kU {st with R:=[],h:=h'} res with
  | some l=>K (pJ l) h'
  | none=>False
theorem F8 {f:FuncId}{fn:sk}(hf:uN P keep f=some fn){avs:List AV}(hn:avs.length<=fn.n){h:eX}{K:AV->eX->Prop}
  (hk:oK P fn.aA (nY keep avs h) (p8 P fn.aC K)):fC P f avs h K:=by
 unfold uN at hf;split at hf
 ·rename_i fd hfd;split at hf
  ·rename_i c hc;split at hf
   ·rename_i ac res hac hres;cases hf;intro G w vs hg hv;refine (callsIn_wide (n:=0)).1 (callsIn_of_wp_marks hfd hc Vd ?_);refine wpIn_mono (Mm (m:=0) c ac hac (xB hg hv hn) hk) ?_;rintro e _ w' ⟨x,st,G',a0,g,avs',vs',rfl,rfl,sr,hvl,hK⟩;have fin:p8 P res K g avs' .aC st->LeavesInM Fence.wide 0 P fd (wd a0 [nT g vs']).tmps (λe w'=>∃v r h' G',e=.returned v/\K r h'/\fO G' w' h'/\V G' w' r v/\gI G w G' w') [nT g vs'] .returning w':=by
     rintro⟨hfg,hK⟩;have hinv:(invoke (nT g vs').target (nT g vs').args).run P w'=.ok (.enter g vs') w':=by simp[nT,invoke,tV hfg]
     refine⟨by simp,.inr ⟨λh=>(by cases h),.func g,#[],g,vs',rfl,hinv,λ_ _=>Vd,?_⟩⟩;refine (hK G' w' vs' sr.aA hvl 0 .returning).mono ?_;rintro e u' w2 ⟨rfl,v,r,h',G2,rfl,hm,hg2,hV2,hS2⟩;split at hm;·rename_i l hl;have sr2:SR fd.ntmps keep G2 w2 G2 w2 {st with R:=[],h:=h'} a0:=⟨hg2,sr.aE,sr.aC,λs hk=>(sr.L s hk).aA hS2.aA,λ_ _=>.aI _,gI.aD _ _⟩;obtain⟨v2,hrun,hV⟩:=tT (P:=P) sr2 hres hl;exact⟨v2,hrun,v2,_,_,G2,rfl,hm,hg2,hV,sr.aD.aI hS2⟩
     ·exact hm.elim
    cases x with
    | aA=>exact fin hK
    | aC=>exact fin hK
    | aD id=>exact hK.elim
   ·cases hf
  ·cases hf
 ·cases hf
def Ct (P:Program)(d:DC)(K:FuncId->List AV->AX->St->Prop):AX->St->Prop
 | .aA,s=>oK P d s K
 | _,_=>False
def GI (P:Program)(g:FuncId)(args:List fE)(rest:AC)(K:FuncId->List AV->AX->St->Prop):St->Prop:=λs=>vc P rest ⟨s.L,[],s.h⟩ (K g (args.map s.aA))
theorem Ml (a:AC)(d:DC)(st:St)(K:FuncId->List AV->AX->St->Prop):oK P (.aD a d) st K=vc P a st (Ct P d K):=by simp only[oK];congr 1;funext x s;cases x<;>simp[Ct]
theorem N6 (d:DC)(K:FuncId->List AV->AX->St->Prop)(s:St):Ct P d K .aA s=oK P d s K:=Vc rfl rfl
theorem Mk (ops:List AO)(g:FuncId)(args:List fE)(rest:AC)(st:St)(K:FuncId->List AV->AX->St->Prop):oK P (.aC ops g args rest) st K=gX P ops st (GI P g args rest K):=Vc rfl rfl
theorem N7 (g:FuncId)(args:List fE)(rest:AC)(K:FuncId->List AV->AX->St->Prop)(L R:fX)(h:eX):GI P g args rest K ⟨L,R,h⟩=vc P rest ⟨L,[],h⟩ (K g (args.map (St.aA ⟨L,R,h⟩))):=Vc rfl rfl
def tG (res:List kb)(L:fX)(K:AV->eX->Prop):AV->eX->Prop:=λ_ h'=>iE res K .aC ⟨L,[],h'⟩
def ta (P:Program)(g:FuncId)(avs:List AV)(h:eX)(K:AV->eX->Prop):Prop:=fK P g=true/\pR P g avs h K
theorem KA (res:List kb)(K:AV->eX->Prop)(g:FuncId)(e:List AV)(L R:fX)(h:eX):p8 P res K g e .aC ⟨L,R,h⟩=ta P g e h (tG res L K):=Vc rfl rfl
theorem Kz (res:List kb)(K:AV->eX->Prop)(g:FuncId)(e:List AV)(L R:fX)(h:eX):p8 P res K g e .aA ⟨L,R,h⟩=ta P g e h (tG res L K):=Vc rfl rfl
theorem Om (res:List kb)(L:fX)(K:AV->eX->Prop)(v:AV)(h':eX):tG res L K v h'=iE res K .aC ⟨L,[],h'⟩:=Vc rfl rfl
theorem pR.aA {f avs h}{K K':AV->eX->Prop}(hc:pR P f avs h K)(hk:∀r h',K r h'->K' r h'):pR P f avs h K':=
 λG w vs hg hv m u=>(hc G w vs hg hv m u).mono λ_ _ _ ⟨hu,v,r,h',G',h1,h2,h3⟩=>⟨hu,v,r,h',G',h1,hk _ _ h2,h3⟩
theorem Ce {f:FuncId}{e:List AV}{h:eX}{K K':AV->eX->Prop}(hc:fK P f=true/\pR P f e h K)(hk:∀r h',K r h'->K' r h'):ta P f e h K':=⟨hc.1,hc.2.aA hk⟩
attribute [go_sem] Ml N6 Mk N7 KA Kz Om
end
end Glb
