/-
  A library of its own.
-/
import Derived.Test.YtdeiamnhnfmilaaGreatGlbInA
import Derived.DefersIn
set_option linter.unusedSimpArgs false
set_option linter.unusedVariables false
namespace Glb
open Go
inductive DC where
 | aD (a:AC) (d:DC)
 | aC (ops:List AO) (g:FuncId) (args:List fB) (rest:AC)
structure ss where
 n:Nat
 aD:Nat->Bool
 aA:DC
 aC:List kh
section
variable {n:Nat} {keep:Nat->Bool} {P:Program}
def vD (P:Program)(n:Nat)(keep:Nat->Bool)(ops:Array Oper):List Oper->Option (List AO×FuncId×List fB)
 | []=>none
 | o :: r=>match o.op with
  | .defer {callee:=.value (.func g),args,..}=>match r,o.guard,o.dst with
   | [],none,none=>some ([],g,args.toList.map (cd keep))
   | _,_,_=>none
  | _=>match wH P n keep ops o,vD P n keep ops r with
   | some a,some (pre,g,az)=>some (a :: pre,g,az)
   | _,_=>none
def FI (P:Program)(n:Nat)(keep:Nat->Bool):Code->Option (List AO×FuncId×List fB)
 | .region _ ops false=>vD P n keep ops ops.toList
 | _=>none
def uI (P:Program)(n:Nat)(keep:Nat->Bool):Code->Option DC
 | .seq a b=>match FI P n keep a with
  | some (pre,g,az)=>if mi b then (cC P n keep b).map (.aC pre g az) else none
  | none=>match cC P n keep a,uI P n keep b with
   | some x,some d=>some (.aD x d)
   | _,_=>none
 | _=>none
def wI (P:Program)(keep:Nat->Bool)(f:FuncId):Option ss:=
 match P.funcs[f]? with
 | some fn=>match fn.body with
  | some c=>match uI P fn.ntmps keep c,oK P keep fn.results.toList with
   | some dc,some res=>some ⟨fn.ntmps,keep,dc,res⟩
   | _,_=>none
  | none=>none
 | none=>none
def vW (P:Program)(f:FuncId)(c:ss):Prop:=fP P f=true/\wI P c.aD f=some c
def pU (P:Program)(f:FuncId)(avs:List AV)(h:eW)(K:AV->eW->Prop):Prop:=
 ∀(G:Gh)(w:World)(vs:Array Value),fO G w h->VL G w avs vs->∀(m:Nat)(u:FrameMode),CallsDIn Fence.wide m P f vs u w λe u' w'=>u'=u /\
  ∃v r h' G',e=.returned v/\K r h'/\fO G' w' h'/\V G' w' r v/\gy G w G' w'
theorem Lj {f:FuncId}{fn:fJ}(hf:qj P keep f=some fn){U:List AV}(hn:U.length<=fn.n){h:eW}{K:AV->eW->Prop}
  (hk:vc P fn.aA (n6 keep U h) (i_ fn.aC K)):pU P f U h K:=by
 unfold qj at hf;split at hf
 ·rename_i fd W;split at hf
  ·rename_i c hc;split at hf
   ·rename_i ac res Z O;cases hf;intro G w vs hg hv m u;refine callsDIn_of_wp W hc UF ?_;refine wpIn_wide.2 (wp_mono (xR c ac Z (xj hg hv hn) hk) ?_);intro e a w' hp;have fin:∀{G' I},SR fd.ntmps keep G w G' w' I a->i_ res K .aC I->a.defers=[]/\∃v,(results fd a.tmps).run P w'=.ok v w' /\
      ∃v0 r h' G',Ending.returned v=.returned v0/\K r h'/\fO G' w' h'/\V G' w' r v0/\gy G w G' w':=by
     intro G' I E hK;simp only[i_]at hK;split at hK;·rename_i l hl;obtain⟨v,M,hV⟩:=tR (P:=P) E O hl;exact⟨E.aC,v,M,v,_,_,G',rfl,hK,E.aA,hV,E.aD⟩
     ·exact hK.elim
    cases e with
    | normal=>obtain⟨G',I,E,hK⟩:=hp;exact fin E hK
    | ret=>obtain⟨G',I,E,hK⟩:=hp;exact fin E hK
    | exit id=>obtain⟨G',I,E,hK⟩:=hp;exact hK.elim
    | goto l=>exact hp.elim
    | panic c=>exact hp.elim
    | outgrown=>exact hp.elim
   ·cases hf
  ·cases hf
 ·cases hf
def oM (P:Program):DC->St->(FuncId->List AV->AX->St->Prop)->Prop
 | .aD a d,st,K=>vc P a st λx s=>x=.aA/\oM P d s K
 | .aC ops g args rest,st,K=>gU P ops st λs=>vc P rest {s with R:=[]} (K g (args.map s.aA))
def nW (g:FuncId)(vs:Array Value):Deferred:={target:=.fn (.func g) #[],args:=vs}
def Dh (n:Nat)(keep:Nat->Bool)(G0:Gh)(w0:World)(K:FuncId->List AV->AX->St->Prop)(e:Exit)(a:Act)(w:World):Prop:=
 ∃(x:AX)(st:St)(G:Gh)(a0:Act)(g:FuncId)(avs:List AV)(vs:Array Value),e=x.ex/\a=wd a0 [nW g vs]/\SR n keep G0 w0 G w st a0/\VL G w avs vs/\K g avs x st
variable {G0:Gh} {w0:World} {m:Nat}
theorem Ss {ops:Array Oper}{Q:Exit->Act->World->Prop}{K:List AO×FuncId×List fB->Prop}{k:FuncId->List AV->St->Prop}
  (hn:∀G' w' e a' g O vs,SR n keep G0 w0 G' w' e a'->VL G' w' O vs->k g O e->wpListIn Fence.wide m P ops Q [] (wd a' [nW g vs]) w'):
  ∀(l:List Oper){pre g az} (_:vD P n keep ops l=some (pre,g,az)) {G w st a} (_:SR n keep G0 w0 G w st a) (_:gU P pre st λs=>k g (az.map s.aA) s),wpListIn Fence.wide m P ops Q l (wd a []) w:=by
 intro l;induction l with
 | nil=>intro pre g az h;simp[vD]at h
 | cons o r ih=>
  intro pre g az h G w st a sr hk;unfold vD at h;split at h
  ·rename_i g' args tys Z;split at h
   ·rename_i a3 M;cases h;simp only[gU]at hk;unfold wpListIn;rw[Uv (by simp[Region.wanted,a3])];refine⟨λf _=>UF,?_⟩;rw[rZ];have E:(o.semAt Fence.wide.round a.eval).run P w=.ok (.defer (nW g (args.map a.eval))) w:=by have e1:o.semAt Fence.wide.round a.eval=execOp a.eval o:=rfl;rw[e1];obtain⟨dst,op,type,pos,after,guard⟩:=o;have I:op=_:=Z;subst I;simp[execOp,resolve,Act.eval,Deferred.ofValue,Sem.run_pure,nW]
    rw[E,Oper.uponIn_defer,M];refine hn G w st a g (args.toList.map (cd keep) |>.map st.aA) (args.map a.eval) sr ⟨by simp,λj c v hc hv=>VL.aA sr.aF args.toList j c v (by simpa using hc) (by simpa using hv)⟩ hk
   ·cases h
  ·split at h;·rename_i ao u g' as' a4 W;cases h;have:gU P [ao] st (λe=>gU P u e λs=>k g (az.map s.aA) s):=hk;exact xQ (m:=m) (ops:=ops) (Q:=Q) (r:=r) tL [] (n:=n) (keep:=keep) (G0:=G0) (w0:=w0) (k:=λe=>gU P u e λs=>k g (az.map s.aA) s) (λG2 w2 st2 a2 U a1=>ih W U a1) [o] [ao] sr (by simp only[qi,a4]) this
   ·cases h
theorem LF:∀(c:Code)(dc:DC),uI P n keep c=some dc->∀{K:FuncId->List AV->AX->St->Prop}{G w st a},SR n keep G0 w0 G w st a->oM P dc st K->c.wpIn Fence.wide m P (Dh n keep G0 w0 K) a w:=by
 intro c;induction c with
 | seq x y ihx ihy=>
  intro dc hc K G w st a sr hk;simp only[uI]at hc;split at hc
  ·rename_i pre g az hh;split at hc
   ·rename_i hcalm;simp only[UN]at hc;obtain⟨ay,Z,rfl⟩:=hc;unfold FI at hh;split at hh
    ·rename_i id ops;refine wpIn_seq (wpIn_region_list ?_);have e0:wd a []=a:=pT sr.aC;rw[<-e0];refine Ss (K:=λ_=>True) (k:=λg U s=>vc P ay {s with R:=[]} (K g U)) ?_ ops.toList hh sr hk;intro G' w' O a' g U vs E a1 W;have a2:SR n keep G' w' G' w' {O with R:=[]} a':=⟨E.aA,E.aE,E.aC,E.L,λ_ _=>.aI _,gy.aD G' w'⟩;have:=vG (m:=m) (n:=n) (keep:=keep) tL [nW g vs] y ay Z a2 W;show y.wpIn _ _ _ _ _ _;refine wpIn_mono this ?_;rintro e _ w2 ⟨a0,rfl,hp⟩;have fin:∀{G2 M}(x:AX),SR n keep G' w' G2 w2 M a0->K g U x M->e=x.ex->Dh n keep G0 w0 K e (wd a0 [nW g vs]) w2:=λx u I he=>⟨x,_,_,a0,g,U,vs,he,rfl,⟨u.aA,u.aE,u.aC,u.L,u.R,E.aD.aI u.aD⟩,⟨a1.1,λj c v h1 h2=>(a1.2 j c v h1 h2).aA u.aD.aA⟩,I⟩;cases e with
     | normal=>obtain⟨G2,M,u,I⟩:=hp;exact fin .aA u I rfl
     | exit id=>obtain⟨G2,M,u,I⟩:=hp;exact fin (.aD id) u I rfl
     | ret=>obtain⟨G2,M,u,I⟩:=hp;exact fin .aC u I rfl
     | goto t=>exact hp.elim
     | panic c=>exact hp.elim
     | outgrown=>exact hp.elim
    ·cases hh
   ·cases hc
  ·split at hc
   ·rename_i hx ax ay a3 Z;cases hc;refine wpIn_seq (wpIn_wide.2 (wp_mono (xR x ax a3 sr hk) ?_));intro e a' w' hp;cases e with
    | normal=>obtain⟨G',O,E,-,W⟩:=hp;exact ihy ay Z E W
    | exit id=>obtain⟨G',O,E,e,-⟩:=hp;cases e
    | ret=>obtain⟨G',O,E,e,-⟩:=hp;cases e
    | goto l=>exact hp.elim
    | panic c=>exact hp.elim
    | outgrown=>exact hp.elim
   ·cases hc
 | _=>intro dc hc;simp[uI]at hc
def qg (P:Program)(res:List kh)(K:AV->eW->Prop)(g:FuncId)(avs:List AV):AX->St->Prop
 | .aD _,_=>False
 | _,st=>fP P g=true/\pU P g avs st.h λ_ h'=>match lj {st with R:=[],h:=h'} res with
  | some l=>K (pM l) h'
  | none=>False
theorem Fj {f:FuncId}{fn:ss}(hf:wI P keep f=some fn){avs:List AV}(hn:avs.length<=fn.n){h:eW}{K:AV->eW->Prop}
  (hk:oM P fn.aA (n6 keep avs h) (qg P fn.aC K)):fC P f avs h K:=by
 unfold wI at hf;split at hf
 ·rename_i fd hfd;split at hf
  ·rename_i c hc;split at hf
   ·rename_i ac res hac hres;cases hf;intro G w vs hg hv;refine (callsIn_wide (n:=0)).1 (callsIn_of_wp_marks hfd hc UF ?_);refine wpIn_mono (LF (m:=0) c ac hac (xj hg hv hn) hk) ?_;rintro e _ w' ⟨x,st,G',a0,g,avs',vs',rfl,rfl,sr,hvl,hK⟩;have fin:qg P res K g avs' .aC st->LeavesInM Fence.wide 0 P fd (wd a0 [nW g vs']).tmps (λe w'=>∃v r h' G',e=.returned v/\K r h'/\fO G' w' h'/\V G' w' r v/\gy G w G' w') [nW g vs'] .returning w':=by
     rintro⟨hfg,hK⟩;have hinv:(invoke (nW g vs').target (nW g vs').args).run P w'=.ok (.enter g vs') w':=by simp[nW,invoke,tS hfg]
     refine⟨by simp,.inr ⟨λh=>(by cases h),.func g,#[],g,vs',rfl,hinv,λ_ _=>UF,?_⟩⟩;refine (hK G' w' vs' sr.aA hvl 0 .returning).mono ?_;rintro e u' w2 ⟨rfl,v,r,h',G2,rfl,hm,hg2,hV2,hS2⟩;split at hm;·rename_i l hl;have sr2:SR fd.ntmps keep G2 w2 G2 w2 {st with R:=[],h:=h'} a0:=⟨hg2,sr.aE,sr.aC,λs hk=>(sr.L s hk).aA hS2.aA,λ_ _=>.aI _,gy.aD _ _⟩;obtain⟨v2,hrun,hV⟩:=tR (P:=P) sr2 hres hl;exact⟨v2,hrun,v2,_,_,G2,rfl,hm,hg2,hV,sr.aD.aI hS2⟩
     ·exact hm.elim
    cases x with
    | aA=>exact fin hK
    | aC=>exact fin hK
    | aD id=>exact hK.elim
   ·cases hf
  ·cases hf
 ·cases hf
def BX (P:Program)(d:DC)(K:FuncId->List AV->AX->St->Prop):AX->St->Prop
 | .aA,s=>oM P d s K
 | _,_=>False
def FO (P:Program)(g:FuncId)(args:List fB)(rest:AC)(K:FuncId->List AV->AX->St->Prop):St->Prop:=λs=>vc P rest ⟨s.L,[],s.h⟩ (K g (args.map s.aA))
theorem LC (a:AC)(d:DC)(st:St)(K:FuncId->List AV->AX->St->Prop):oM P (.aD a d) st K=vc P a st (BX P d K):=by simp only[oM];congr 1;funext x s;cases x<;>simp[BX]
theorem Nj (d:DC)(K:FuncId->List AV->AX->St->Prop)(s:St):BX P d K .aA s=oM P d s K:=UE rfl rfl
theorem LB (ops:List AO)(g:FuncId)(args:List fB)(rest:AC)(st:St)(K:FuncId->List AV->AX->St->Prop):oM P (.aC ops g args rest) st K=gU P ops st (FO P g args rest K):=UE rfl rfl
theorem Nk (g:FuncId)(args:List fB)(rest:AC)(K:FuncId->List AV->AX->St->Prop)(L R:fV)(h:eW):FO P g args rest K ⟨L,R,h⟩=vc P rest ⟨L,[],h⟩ (K g (args.map (St.aA ⟨L,R,h⟩))):=UE rfl rfl
def tG (res:List kh)(L:fV)(K:AV->eW->Prop):AV->eW->Prop:=λ_ h'=>i_ res K .aC ⟨L,[],h'⟩
def ta (P:Program)(g:FuncId)(avs:List AV)(h:eW)(K:AV->eW->Prop):Prop:=fP P g=true/\pU P g avs h K
theorem JK (res:List kh)(K:AV->eW->Prop)(g:FuncId)(e:List AV)(L R:fV)(h:eW):qg P res K g e .aC ⟨L,R,h⟩=ta P g e h (tG res L K):=UE rfl rfl
theorem JJ (res:List kh)(K:AV->eW->Prop)(g:FuncId)(e:List AV)(L R:fV)(h:eW):qg P res K g e .aA ⟨L,R,h⟩=ta P g e h (tG res L K):=UE rfl rfl
theorem Nz (res:List kh)(L:fV)(K:AV->eW->Prop)(v:AV)(h':eW):tG res L K v h'=i_ res K .aC ⟨L,[],h'⟩:=UE rfl rfl
theorem pU.aA {f avs h}{K K':AV->eW->Prop}(hc:pU P f avs h K)(hk:∀r h',K r h'->K' r h'):pU P f avs h K':=
 λG w vs hg hv m u=>(hc G w vs hg hv m u).mono λ_ _ _ ⟨hu,v,r,h',G',h1,h2,h3⟩=>⟨hu,v,r,h',G',h1,hk _ _ h2,h3⟩
theorem BJ {f:FuncId}{e:List AV}{h:eW}{K K':AV->eW->Prop}(hc:fP P f=true/\pU P f e h K)(hk:∀r h',K r h'->K' r h'):ta P f e h K':=⟨hc.1,hc.2.aA hk⟩
attribute [go_sem] LC Nj LB Nk JK JJ Nz
end
end Glb
