/-
  A library of its own.
-/
import Derived.Test.YtdeiamnhnfmilaaGreatGlbInA
import Derived.DefersIn
set_option linter.unusedSimpArgs false
set_option linter.unusedVariables false
namespace Glb
open Go
inductive DC where
 | seq (a:AC) (d:DC)
 | defer (ops:List AO) (g:FuncId) (args:List Opd) (rest:AC)
structure DFn where
 n:Nat
 keep:Nat->Bool
 code:DC
 res:List h_u
section
variable {n:Nat} {keep:Nat->Bool} {P:Program}
def i_i (P:Program)(n:Nat)(keep:Nat->Bool)(ops:Array Oper):List Oper->Option (List AO×FuncId×List Opd)
 | []=>none
 | o :: r=>match o.op with
  | .defer {callee:=.value (.func g),args,..}=>match r,o.guard,o.dst with
   | [],none,none=>some ([],g,args.toList.map (cd keep))
   | _,_,_=>none
  | _=>match cAO P n keep ops o,i_i P n keep ops r with
   | some a,some (pre,g,as)=>some (a :: pre,g,as)
   | _,_=>none
def C_0 (P:Program)(n:Nat)(keep:Nat->Bool):Code->Option (List AO×FuncId×List Opd)
 | .region _ ops false=>i_i P n keep ops ops.toList
 | _=>none
def cDC (P:Program)(n:Nat)(keep:Nat->Bool):Code->Option DC
 | .seq a b=>match C_0 P n keep a with
  | some (pre,g,as)=>if calm b then (cC P n keep b).map (.defer pre g as) else none
  | none=>match cC P n keep a,cDC P n keep b with
   | some x,some d=>some (.seq x d)
   | _,_=>none
 | _=>none
def E_g (P:Program)(keep:Nat->Bool)(f:FuncId):Option DFn:=
 match P.funcs[f]? with
 | some fn=>match fn.body with
  | some c=>match cDC P fn.ntmps keep c,v_r P keep fn.results.toList with
   | some dc,some res=>some ⟨fn.ntmps,keep,dc,res⟩
   | _,_=>none
  | none=>none
 | none=>none
def IsD (P:Program)(f:FuncId)(c:DFn):Prop:=f2_ P f=true/\E_g P c.keep f=some c
def b_f (P:Program)(f:FuncId)(avs:List AV)(h:a0_)(K:AV->a0_->Prop):Prop:=
 ∀(G:Gh)(w:World)(vs:Array Value),Gam G w h->VL G w avs vs->∀(m:Nat)(u:FrameMode),CallsDIn Fence.wide m P f vs u w λe u' w'=>u'=u /\
  ∃v r h' G',e=.returned v/\K r h'/\Gam G' w' h'/\V G' w' r v/\Stp G w G' w'
theorem m_p {f:FuncId}{fn:AFn}(hf:cFn P keep f=some fn){avs:List AV}(hn:avs.length<=fn.n){h:a0_}{K:AV->a0_->Prop}
  (hk:vc P fn.code (Y0_ keep avs h) (b2_ fn.res K)):b_f P f avs h K:=by
 unfold cFn at hf
 split at hf
 ·rename_i fd hfd
  split at hf
  ·rename_i c hc
   split at hf
   ·rename_i ac res hac hres
    cases hf
    intro G w vs hg hv m u
    refine callsDIn_of_wp hfd hc trivial ?_
    refine wpIn_wide.2 (wp_mono (b_2 c ac hac (g_w hg hv hn) hk) ?_)
    intro e a w' hp
    have fin:∀{G' st'},SR fd.ntmps keep G w G' w' st' a->b2_ res K .ret st'->a.defers=[]/\∃v,(results fd a.tmps).run P w'=.ok v w' /\
      ∃v0 r h' G',Ending.returned v=.returned v0/\K r h'/\Gam G' w' h'/\V G' w' r v0/\Stp G w G' w':=by
     intro G' st' sr' hK
     simp only[b2_]at hK
     split at hK
     ·rename_i l hl
      obtain⟨v,hrun,hV⟩:=t0_ (P:=P) sr' hres hl
      exact⟨sr'.defers,v,hrun,v,_,_,G',rfl,hK,sr'.gam,hV,sr'.stp⟩
     ·exact hK.elim
    cases e with
    | normal=>obtain⟨G',st',sr',hK⟩:=hp;exact fin sr' hK
    | ret=>obtain⟨G',st',sr',hK⟩:=hp;exact fin sr' hK
    | exit id=>obtain⟨G',st',sr',hK⟩:=hp;exact hK.elim
    | goto l=>exact hp.elim
    | panic c=>exact hp.elim
    | outgrown=>exact hp.elim
   ·cases hf
  ·cases hf
 ·cases hf
def dvc (P:Program):DC->St->(FuncId->List AV->AX->St->Prop)->Prop
 | .seq a d,st,K=>vc P a st λx s=>x=.normal/\dvc P d s K
 | .defer ops g args rest,st,K=>f1_ P ops st λs=>vc P rest {s with R:=[]} (K g (args.map s.get))
def d_r (g:FuncId)(vs:Array Value):Deferred:={target:=.fn (.func g) #[],args:=vs}
def D_m (n:Nat)(keep:Nat->Bool)(G0:Gh)(w0:World)(K:FuncId->List AV->AX->St->Prop)(e:Exit)(a:Act)(w:World):Prop:=
 ∃(x:AX)(st:St)(G:Gh)(a0:Act)(g:FuncId)(avs:List AV)(vs:Array Value),e=x.ex/\a=wd a0 [d_r g vs]/\SR n keep G0 w0 G w st a0/\VL G w avs vs/\K g avs x st
variable {G0:Gh} {w0:World} {m:Nat}
theorem i_h {ops:Array Oper}{Q:Exit->Act->World->Prop}{K:List AO×FuncId×List Opd->Prop}{k:FuncId->List AV->St->Prop}
  (hn:∀G' w' st' a' g avs vs,SR n keep G0 w0 G' w' st' a'->VL G' w' avs vs->k g avs st'->wpListIn Fence.wide m P ops Q [] (wd a' [d_r g vs]) w'):
  ∀(l:List Oper){pre g as} (_:i_i P n keep ops l=some (pre,g,as)) {G w st a} (_:SR n keep G0 w0 G w st a) (_:f1_ P pre st λs=>k g (as.map s.get) s),wpListIn Fence.wide m P ops Q l (wd a []) w:=by
 intro l
 induction l with
 | nil=>intro pre g as h;simp[i_i]at h
 | cons o r ih=>
  intro pre g as h G w st a sr hk
  unfold i_i at h
  split at h
  ·rename_i g' args tys hop
   split at h
   ·rename_i hgd hdst
    cases h
    simp only[f1_]at hk
    unfold wpListIn
    rw[if_pos (by simp[Region.wanted,hgd])]
    refine⟨λf _=>trivial,?_⟩
    rw[J2_]
    have hrun:(o.semAt Fence.wide.round a.eval).run P w=.ok (.defer (d_r g (args.map a.eval))) w:=by
     have e1:o.semAt Fence.wide.round a.eval=execOp a.eval o:=rfl
     rw[e1]
     obtain⟨dst,op,type,pos,after,guard⟩:=o
     have hop':op=_:=hop
     subst hop'
     simp[execOp,resolve,Act.eval,Deferred.ofValue,Sem.run_pure,d_r]
    rw[hrun,Oper.uponIn_defer,hdst]
    refine hn G w st a g (args.toList.map (cd keep) |>.map st.get) (args.map a.eval) sr ⟨by simp,λj c v hc hv=>VL.map sr.stands args.toList j c v (by simpa using hc) (by simpa using hv)⟩ hk
   ·cases h
  ·split at h
   ·rename_i ao pre' g' as' hao hsp
    cases h
    have:f1_ P [ao] st (λst'=>f1_ P pre' st' λs=>k g (as.map s.get) s):=hk
    exact O9_ (m:=m) (ops:=ops) (Q:=Q) (r:=r) H8_ [] (n:=n) (keep:=keep) (G0:=G0) (w0:=w0) (k:=λst'=>f1_ P pre' st' λs=>k g (as.map s.get) s) (λG2 w2 st2 a2 sr2 hk2=>ih hsp sr2 hk2) [o] [ao] sr (by simp only[q_e,hao]) this
   ·cases h
theorem u_a:∀(c:Code)(dc:DC),cDC P n keep c=some dc->∀{K:FuncId->List AV->AX->St->Prop}{G w st a},SR n keep G0 w0 G w st a->dvc P dc st K->c.wpIn Fence.wide m P (D_m n keep G0 w0 K) a w:=by
 intro c
 induction c with
 | seq x y ihx ihy=>
  intro dc hc K G w st a sr hk
  simp only[cDC]at hc
  split at hc
  ·rename_i pre g as hh
   split at hc
   ·rename_i hcalm
    simp only[J_7]at hc
    obtain⟨ay,hay,rfl⟩:=hc
    unfold C_0 at hh
    split at hh
    ·rename_i id ops
     refine wpIn_seq (wpIn_region_list ?_)
     have e0:wd a []=a:=h_z sr.defers
     rw[<-e0]
     refine i_h (K:=λ_=>True) (k:=λg avs s=>vc P ay {s with R:=[]} (K g avs)) ?_ ops.toList hh sr hk
     intro G' w' st' a' g avs vs sr' hvl hk'
     have sr1:SR n keep G' w' G' w' {st' with R:=[]} a':=⟨sr'.gam,sr'.size,sr'.defers,sr'.L,λ_ _=>.top _,Stp.refl G' w'⟩
     have:=P0_ (m:=m) (n:=n) (keep:=keep) H8_ [d_r g vs] y hcalm ay hay sr1 hk'
     show y.wpIn _ _ _ _ _ _
     refine wpIn_mono this ?_
     rintro e _ w2 ⟨a0,rfl,hp⟩
     have fin:∀{G2 st2}(x:AX),SR n keep G' w' G2 w2 st2 a0->K g avs x st2->e=x.ex->D_m n keep G0 w0 K e (wd a0 [d_r g vs]) w2:=λx sr2 hk2 he=>
      ⟨x,_,_,a0,g,avs,vs,he,rfl,⟨sr2.gam,sr2.size,sr2.defers,sr2.L,sr2.R,sr'.stp.trans sr2.stp⟩,⟨hvl.1,λj c v h1 h2=>(hvl.2 j c v h1 h2).keep sr2.stp.keep⟩,hk2⟩
     cases e with
     | normal=>obtain⟨G2,st2,sr2,hk2⟩:=hp;exact fin .normal sr2 hk2 rfl
     | exit id=>obtain⟨G2,st2,sr2,hk2⟩:=hp;exact fin (.exit id) sr2 hk2 rfl
     | ret=>obtain⟨G2,st2,sr2,hk2⟩:=hp;exact fin .ret sr2 hk2 rfl
     | goto t=>exact hp.elim
     | panic c=>exact hp.elim
     | outgrown=>exact hp.elim
    ·cases hh
   ·cases hc
  ·split at hc
   ·rename_i hx ax ay hax hay
    cases hc
    refine wpIn_seq (wpIn_wide.2 (wp_mono (b_2 x ax hax sr hk) ?_))
    intro e a' w' hp
    cases e with
    | normal=>obtain⟨G',st',sr',-,hk'⟩:=hp;exact ihy ay hay sr' hk'
    | exit id=>obtain⟨G',st',sr',e,-⟩:=hp;cases e
    | ret=>obtain⟨G',st',sr',e,-⟩:=hp;cases e
    | goto l=>exact hp.elim
    | panic c=>exact hp.elim
    | outgrown=>exact hp.elim
   ·cases hc
 | _=>intro dc hc;simp[cDC]at hc
def a_9 (P:Program)(res:List h_u)(K:AV->a0_->Prop)(g:FuncId)(avs:List AV):AX->St->Prop
 | .exit _,_=>False
 | _,st=>f2_ P g=true/\b_f P g avs st.h λ_ h'=>match q5_ {st with R:=[],h:=h'} res with
  | some l=>K (B3_ l) h'
  | none=>False
theorem f_k {f:FuncId}{fn:DFn}(hf:E_g P keep f=some fn){avs:List AV}(hn:avs.length<=fn.n){h:a0_}{K:AV->a0_->Prop}
  (hk:dvc P fn.code (Y0_ keep avs h) (a_9 P fn.res K)):a6_ P f avs h K:=by
 unfold E_g at hf
 split at hf
 ·rename_i fd hfd
  split at hf
  ·rename_i c hc
   split at hf
   ·rename_i ac res hac hres
    cases hf
    intro G w vs hg hv
    refine (callsIn_wide (n:=0)).1 (callsIn_of_wp_marks hfd hc trivial ?_)
    refine wpIn_mono (u_a (m:=0) c ac hac (g_w hg hv hn) hk) ?_
    rintro e _ w' ⟨x,st,G',a0,g,avs',vs',rfl,rfl,sr,hvl,hK⟩
    have fin:a_9 P res K g avs' .ret st->LeavesInM Fence.wide 0 P fd (wd a0 [d_r g vs']).tmps (λe w'=>∃v r h' G',e=.returned v/\K r h'/\Gam G' w' h'/\V G' w' r v/\Stp G w G' w') [d_r g vs'] .returning w':=by
     rintro⟨hfg,hK⟩
     have hinv:(invoke (d_r g vs').target (d_r g vs').args).run P w'=.ok (.enter g vs') w':=by
      simp[d_r,invoke,o6_ hfg]
     refine⟨by simp,.inr ⟨λh=>(by cases h),.func g,#[],g,vs',rfl,hinv,λ_ _=>trivial,?_⟩⟩
     refine (hK G' w' vs' sr.gam hvl 0 .returning).mono ?_
     rintro e u' w2 ⟨rfl,v,r,h',G2,rfl,hm,hg2,hV2,hS2⟩
     split at hm
     ·rename_i l hl
      have sr2:SR fd.ntmps keep G2 w2 G2 w2 {st with R:=[],h:=h'} a0:=⟨hg2,sr.size,sr.defers,λs hk=>(sr.L s hk).keep hS2.keep,λ_ _=>.top _,Stp.refl _ _⟩
      obtain⟨v2,hrun,hV⟩:=t0_ (P:=P) sr2 hres hl
      exact⟨v2,hrun,v2,_,_,G2,rfl,hm,hg2,hV,sr.stp.trans hS2⟩
     ·exact hm.elim
    cases x with
    | normal=>exact fin hK
    | ret=>exact fin hK
    | exit id=>exact hK.elim
   ·cases hf
  ·cases hf
 ·cases hf
def kD1 (P:Program)(d:DC)(K:FuncId->List AV->AX->St->Prop):AX->St->Prop
 | .normal,s=>dvc P d s K
 | _,_=>False
def kD2 (P:Program)(g:FuncId)(args:List Opd)(rest:AC)(K:FuncId->List AV->AX->St->Prop):St->Prop:=λs=>vc P rest ⟨s.L,[],s.h⟩ (K g (args.map s.get))
theorem B_a (a:AC)(d:DC)(st:St)(K:FuncId->List AV->AX->St->Prop):dvc P (.seq a d) st K=vc P a st (kD1 P d K):=by
 simp only[dvc]
 congr 1
 funext x s
 cases x<;>simp[kD1]
theorem p_x (d:DC)(K:FuncId->List AV->AX->St->Prop)(s:St):kD1 P d K .normal s=dvc P d s K:=Eq.trans rfl rfl
theorem u_b (ops:List AO)(g:FuncId)(args:List Opd)(rest:AC)(st:St)(K:FuncId->List AV->AX->St->Prop):dvc P (.defer ops g args rest) st K=f1_ P ops st (kD2 P g args rest K):=Eq.trans rfl rfl
theorem C_v (g:FuncId)(args:List Opd)(rest:AC)(K:FuncId->List AV->AX->St->Prop)(L R:Env)(h:a0_):kD2 P g args rest K ⟨L,R,h⟩=vc P rest ⟨L,[],h⟩ (K g (args.map (St.get ⟨L,R,h⟩))):=Eq.trans rfl rfl
def B_z (res:List h_u)(L:Env)(K:AV->a0_->Prop):AV->a0_->Prop:=λ_ h'=>b2_ res K .ret ⟨L,[],h'⟩
def p_8 (P:Program)(g:FuncId)(avs:List AV)(h:a0_)(K:AV->a0_->Prop):Prop:=f2_ P g=true/\b_f P g avs h K
theorem q_j (res:List h_u)(K:AV->a0_->Prop)(g:FuncId)(avs:List AV)(L R:Env)(h:a0_):a_9 P res K g avs .ret ⟨L,R,h⟩=p_8 P g avs h (B_z res L K):=Eq.trans rfl rfl
theorem g_9 (res:List h_u)(K:AV->a0_->Prop)(g:FuncId)(avs:List AV)(L R:Env)(h:a0_):a_9 P res K g avs .normal ⟨L,R,h⟩=p_8 P g avs h (B_z res L K):=Eq.trans rfl rfl
theorem A_x (res:List h_u)(L:Env)(K:AV->a0_->Prop)(v:AV)(h':a0_):B_z res L K v h'=b2_ res K .ret ⟨L,[],h'⟩:=Eq.trans rfl rfl
theorem b_f.mono {f avs h}{K K':AV->a0_->Prop}(hc:b_f P f avs h K)(hk:∀r h',K r h'->K' r h'):b_f P f avs h K':=
 λG w vs hg hv m u=>(hc G w vs hg hv m u).mono λ_ _ _ ⟨hu,v,r,h',G',h1,h2,h3⟩=>⟨hu,v,r,h',G',h1,hk _ _ h2,h3⟩
theorem d_u {f:FuncId}{avs:List AV}{h:a0_}{K K':AV->a0_->Prop}(hc:f2_ P f=true/\b_f P f avs h K)(hk:∀r h',K r h'->K' r h'):p_8 P f avs h K':=⟨hc.1,hc.2.mono hk⟩
attribute [go_sem] B_a p_x u_b C_v q_j g_9 A_x
end
end Glb
