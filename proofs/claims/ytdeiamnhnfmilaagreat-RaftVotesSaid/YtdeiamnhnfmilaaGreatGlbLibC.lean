/-
  A library of its own.
-/
import Derived.Test.YtdeiamnhnfmilaaGreatGlbLibB
set_option linter.unusedSimpArgs false
set_option linter.unusedVariables false
namespace Glb
open Go
def G_8:Value->Value->Bool
 | .pointer none,.pointer none=>true
 | .nilIface,.nilIface=>true
 | .nilFunc,.nilFunc=>true
 | .map none,.map none=>true
 | _,_=>false
mutual
def AV.beq:AV->AV->Bool
 | .top,.top=>true
 | .bool a,.bool b=>a == b
 | .int k a,.int l b=>decide (k=l) && decide (a=b)
 | .str a,.str b=>decide (a=b)
 | .raw a,.raw b=>G_8 a b
 | .nils,.nils=>true
 | .ptr a b c d,.ptr a' b' c' d'=>a == a' && b == b' && c == c' && d == d'
 | .vptr t cs,.vptr t' cs'=>t == t' && AV.beqL cs cs'
 | .ref a b c d e,.ref a' b' c' d' e'=>a == a' && b == b' && c == c' && d == d' && decide (e=e')
 | .vals t c s es,.vals t' c' s' es'=>t == t' && c == c' && s == s' && AV.beqLL es es'
 | .agg cs,.agg cs'=>AV.beqL cs cs'
 | .tup cs,.tup cs'=>AV.beqL cs cs'
 | .clo f fs cs,.clo f' fs' cs'=>f == f' && AV.beqL fs fs' && AV.beqL cs cs'
 | .iface t v,.iface t' v'=>t == t' && AV.beq v v'
 | _,_=>false
def AV.beqL:List AV->List AV->Bool
 | [],[]=>true
 | a :: r,b :: s=>AV.beq a b && AV.beqL r s
 | _,_=>false
def AV.beqLL:List (List AV)->List (List AV)->Bool
 | [],[]=>true
 | a :: r,b :: s=>AV.beqL a b && AV.beqLL r s
 | _,_=>false
end
section
variable {P:Program}
end
end Glb
namespace Glb
open Go Go.RowKit
def o_e (W W':World):Prop:=W.keptBut W' (λ_=>False)/\(∀a,a.block<W.heap.size->W'.frozen? a=W.frozen? a)/\W.heap.size<=W'.heap.size
theorem o_e.frame {W W':World}(h:o_e W W')(may:MemPlace->Prop):W.keptBut W' may:=World.keptBut_mono (λ_ f=>f.elim) h.1
theorem Stp.grown {G w G' w'}(s:Stp G w G' w')(hno:∀b,¬G.owned b):o_e w w':=by
 refine⟨⟨s.rest.1,s.rest.2.1,λi hi=>?_⟩,s.rest.2.2.2,s.size⟩
 rw[s.frame i hi (hno i)]
 cases w.heap[i]? with
 | none=>rfl
 | some o=>cases o<;>simp
def Is (P:Program)(f:FuncId)(c:AFn):Prop:=cFn P c.keep f=some c/\f2_ P f=true
section
variable {P:Program}
def oR:Option AV->(AV->Prop)->Prop
 | some v,k=>k v
 | none,_=>False
def oH:Option (AV×a0_)->(AV->a0_->Prop)->Prop
 | some (v,h),k=>k v h
 | none,_=>False
def D_r (P:Program)(b:AC)(K:AX->St->Prop):AX->St->Prop
 | .normal,st=>vc P b st K
 | .exit id,st=>K (.exit id) st
 | .ret,st=>K .ret st
def D_s (K:AX->St->Prop):St->Prop:=λst=>K .normal ⟨st.L,[],st.h⟩
def kN (K:AX->St->Prop):St->Prop:=λst=>K .normal st
def D_u (id:Nat)(K:AX->St->Prop):AX->St->Prop
 | .normal,st=>K .normal st
 | .exit id',st=>if id'=id then K .normal st else K (.exit id') st
 | .ret,st=>K .ret st
def t_l (I:Nat->Env->a0_->Prop)(m:Nat)(K:AX->St->Prop):AX->St->Prop
 | .normal,st=>∃m',m'<m/\st.R=[]/\I m' st.L st.h
 | .exit id,st=>K (.exit id) st
 | .ret,st=>K .ret st
def D_t (P:Program)(d:Dst)(r:List AO)(st:St)(k:St->Prop):AV->Prop:=λv=>f1_ P r (st.put d v) k
def p_v (P:Program)(d:Dst)(r:List AO)(st:St)(k:St->Prop):AV->a0_->Prop:=λv h=>f1_ P r {st.put d v with h:=h} k
def c_e (P:Program)(f:FuncId)(avs:List AV)(h:a0_)(K:AV->a0_->Prop):Prop:=f2_ P f=true/\a6_ P f avs h K
def h_2 (P:Program)(x:AV)(args:List AV)(h:a0_)(K:AV->a0_->Prop):Prop:=
 match x with
 | .clo f fs cs=>c_e P f (fs++args++cs) h K
 | _=>False
def k_4 (P:Program)(v:AV)(a b:AC)(st:St)(K:AX->St->Prop):Prop:=
 match v with
 | .bool t=>(t=true->vc P a st K)/\(t=false->vc P b st K)
 | _=>False
def H5_ (P:Program)(v:AV)(want:Bool)(d:Dst)(op:AOp)(r:List AO)(st:St)(k:St->Prop):Prop:=
 match v with
 | .bool b=>(b=want->f1_ P (⟨d,op,none⟩ :: r) st k)/\(b=(!want)->f1_ P r (st.put d (.tup [])) k)
 | .tup _=>f1_ P r (st.put d (.tup [])) k
 | _=>False
theorem y_z (st:St)(K:AX->St->Prop):vc P .skip st K=K .normal st:=Eq.trans rfl rfl
theorem B_7 (st:St)(K:AX->St->Prop):vc P .ret st K=K .ret st:=Eq.trans rfl rfl
theorem y_0 (id:Nat)(st:St)(K:AX->St->Prop):vc P (.exit id) st K=K (.exit id) st:=Eq.trans rfl rfl
theorem B_8 (ops:List AO)(st:St)(K:AX->St->Prop):vc P (.reg ops) st K=f1_ P ops st (D_s K):=Eq.trans rfl rfl
theorem B_6 (a b:AC)(st:St)(K:AX->St->Prop):vc P (.seq a b) st K=vc P a st (D_r P b K):=by
 simp only[vc]
 congr 1
 funext x st'
 cases x<;>rfl
theorem v_x (id:Nat)(b:AC)(st:St)(K:AX->St->Prop):vc P (.block id b) st K=vc P b st (D_u id K):=by
 simp only[vc]
 congr 1
 funext x st'
 cases x<;>rfl
theorem y_2 (c:Opd)(a b:AC)(st:St)(K:AX->St->Prop):vc P (.cond c a b) st K=k_4 P (st.get c) a b st K:=by
 simp only[vc,k_4]
 generalize st.get c=v
 cases v<;>rfl
theorem l_6 (b:AC)(K:AX->St->Prop)(st:St):D_r P b K .normal st=vc P b st K:=Eq.trans rfl rfl
theorem t_g (b:AC)(K:AX->St->Prop)(id:Nat)(st:St):D_r P b K (.exit id) st=K (.exit id) st:=Eq.trans rfl rfl
theorem w_5 (b:AC)(K:AX->St->Prop)(st:St):D_r P b K .ret st=K .ret st:=Eq.trans rfl rfl
theorem l_7 (id:Nat)(K:AX->St->Prop)(st:St):D_u id K .normal st=K .normal st:=Eq.trans rfl rfl
theorem t_m (id id':Nat)(K:AX->St->Prop)(st:St):D_u id K (.exit id') st=if id'=id then K .normal st else K (.exit id') st:=Eq.trans rfl rfl
theorem w_9 (id:Nat)(K:AX->St->Prop)(st:St):D_u id K .ret st=K .ret st:=Eq.trans rfl rfl
theorem A_y (K:AX->St->Prop)(L R:Env)(h:a0_):D_s K ⟨L,R,h⟩=K .normal ⟨L,[],h⟩:=Eq.trans rfl rfl
theorem E_d (K:AX->St->Prop)(st:St):kN K st=K .normal st:=Eq.trans rfl rfl
theorem j_l (I:Nat->Env->a0_->Prop)(m:Nat)(K:AX->St->Prop)(L:Env)(h:a0_):t_l I m K .normal ⟨L,[],h⟩=∃m',m'<m/\I m' L h:=by
 simp[t_l]
theorem p_w (I:Nat->Env->a0_->Prop)(m:Nat)(K:AX->St->Prop)(id:Nat)(st:St):t_l I m K (.exit id) st=K (.exit id) st:=Eq.trans rfl rfl
theorem t_k (I:Nat->Env->a0_->Prop)(m:Nat)(K:AX->St->Prop)(st:St):t_l I m K .ret st=K .ret st:=Eq.trans rfl rfl
theorem h_4 {o:AO}{st:St}{k k':St->Prop}(hk:∀s,k s->k' s)(h:e_0 P o st k):e_0 P o st k':=by
 unfold e_0 at h ⊢
 split
 ·rename_i ro he;(try simp only[he]at h);split at h
  ·rename_i v hv;(try simp only[hv]);exact hk _ h
  ·exact h.elim
 ·rename_i ho he;(try simp only[he]at h);split at h
  ·rename_i v h' hv;(try simp only[hv]);exact hk _ h
  ·exact h.elim
 ·rename_i f args he;(try simp only[he]at h);exact⟨h.1,h.2.mono λ_ _ x=>hk _ x⟩
 ·rename_i x args he;(try simp only[he]at h);split at h
  ·rename_i f fs cs hx;(try simp only[hx]);exact⟨h.1,h.2.mono λ_ _ x=>hk _ x⟩
  ·exact h.elim
theorem O8_:∀(l:List AO){st:St}{k k':St->Prop},(∀s,k s->k' s)->f1_ P l st k->f1_ P l st k':=by
 intro l
 induction l with
 | nil=>intro st k k' hk h;exact hk _ h
 | cons o r ih=>
  intro st k k' hk h
  simp only[f1_]at h ⊢
  split
  ·rename_i hg;(try simp only[hg]at h);exact h_4 (λs hs=>ih hk hs) h
  ·rename_i x want hg
   try simp only[hg]at h
   split at h
   ·rename_i b hb;(try simp only[hb]);exact⟨λe=>h_4 (λs hs=>ih hk hs) (h.1 e),λe=>ih hk (h.2 e)⟩
   ·rename_i cs hb;(try simp only[hb]);exact ih hk h
   ·exact h.elim
theorem R7_ {dep:Nat->Nat->Bool}{lo n i:Nat}{d:DS}{xs:List (Nat×Nat×a5_)}{v:AV}{h':a0_}{k k':DS->Prop}(hk:∀s,k s->k' s)
  (h:e_1 dep lo n i d xs v h' k):e_1 dep lo n i d xs v h' k':=⟨h.1,h.2.1,hk _ h.2.2⟩
theorem h_5 {dep:Nat->Nat->Bool}{lo n:Nat}{o:DO}{d:DS}{k k':DS->Prop}(hk:∀s,k s->k' s)(h:h_v P dep lo n o d k):h_v P dep lo n o d k':=by
 unfold h_v at h ⊢
 split<;>rename_i h1 h2<;>(try simp only[h1,h2]at h)
 ·split at h
  ·rename_i v hv;(try simp only[hv]);exact⟨h.1,hk _ h.2⟩
  ·exact h.elim
 ·rename_i hne
  split at h
  ·rename_i v hv;(try simp only[hv]);exact hk _ h
  ·exact h.elim
 ·split at h
  ·rename_i v b hv;(try simp only[hv]);exact hk _ h
  ·exact h.elim
 ·split at h
  ·rename_i v h' hv;(try simp only[hv]);exact R7_ hk h
  ·exact h.elim
 ·exact⟨h.1,h.2.mono λ_ _ x=>R7_ hk x⟩
 ·split at h
  ·rename_i f fs cs hx;(try simp only[hx]);exact⟨h.1,h.2.mono λ_ _ x=>R7_ hk x⟩
  ·exact h.elim
theorem v_0 {dep:Nat->Nat->Bool}{lo n:Nat}:∀(l:List DO){d:DS}{k k':DS->Prop},(∀s,k s->k' s)->vcD P dep lo n l d k->vcD P dep lo n l d k':=by
 intro l
 induction l with
 | nil=>intro d k k' hk h;exact hk _ h
 | cons o r ih=>
  intro d k k' hk h
  simp only[vcD]at h ⊢
  split
  ·rename_i hg;(try simp only[hg]at h);exact h_5 (λs hs=>ih hk hs) h
  ·rename_i x want hg
   try simp only[hg]at h
   split at h
   ·rename_i b hb;(try simp only[hb]);exact⟨λe=>h_5 (λs hs=>ih hk hs) (h.1 e),λe=>ih hk (h.2 e)⟩
   ·rename_i cs hb;(try simp only[hb]);exact ih hk h
   ·exact h.elim
theorem J3_:∀(c:AC){st:St}{K K':AX->St->Prop},(∀x s,K x s->K' x s)->vc P c st K->vc P c st K':=by
 intro c
 induction c with
 | skip=>intro st K K' hk h;exact hk _ _ h
 | reg ops=>intro st K K' hk h;exact O8_ ops (λs hs=>hk _ _ hs) h
 | dreg r=>intro st K K' hk h;exact v_0 r.items (λs hs=>hk _ _ hs) h
 | seq a b iha ihb=>
  intro st K K' hk h
  refine iha ?_ h
  intro x s hs
  cases x with
  | normal=>exact ihb hk hs
  | exit id=>exact hk _ _ hs
  | ret=>exact hk _ _ hs
 | cond c a b iha ihb=>
  intro st K K' hk h
  simp only[vc]at h ⊢
  split at h
  ·rename_i t ht;(try simp only[ht]);exact⟨λe=>iha hk (h.1 e),λe=>ihb hk (h.2 e)⟩
  ·exact h.elim
 | block id b ih=>
  intro st K K' hk h
  refine ih ?_ h
  intro x s hs
  cases x with
  | normal=>exact hk _ _ hs
  | exit id'=>
   simp only at hs ⊢
   split<;>rename_i e
   ·rw[if_pos e]at hs;exact hk _ _ hs
   ·rw[if_neg e]at hs;exact hk _ _ hs
  | ret=>exact hk _ _ hs
 | loop b ih=>
  rintro st K K' hk ⟨I,h0,hstep⟩
  refine⟨I,h0,λm s hI=>ih ?_ (hstep m s hI)⟩
  intro x s hs
  cases x with
  | normal=>exact hs
  | exit id=>exact hk _ _ hs
  | ret=>exact hk _ _ hs
 | exit id=>intro st K K' hk h;exact hk _ _ h
 | ret=>intro st K K' hk h;exact hk _ _ h
 | bad=>intro st K K' hk h;exact h.elim
theorem e8_ (I:Nat->Env->a0_->Prop)(m:Nat){b:AC}{L:Env}{h:a0_}{K:AX->St->Prop}(h0:I m L h)
  (step:∀m L h,I m L h->vc P b ⟨L,[],h⟩ (t_l I m K)):vc P (.loop b) ⟨L,[],h⟩ K:=by
 refine⟨λm s=>s.R=[]/\I m s.L s.h,⟨m,_,Wk.refl _,rfl,h0⟩,λm s hI=>?_⟩
 obtain⟨L,R,h⟩:=s
 obtain⟨hR,hI⟩:=hI
 simp only at hR hI
 subst hR
 refine J3_ b ?_ (step m L h hI)
 intro x s hs
 cases x with
 | normal=>obtain⟨m',h1,h2,h3⟩:=hs;exact⟨m',s,h1,Wk.refl _,h2,h3⟩
 | exit id=>exact hs
 | ret=>exact hs
theorem r_m (st:St)(k:St->Prop):f1_ P [] st k=k st:=Eq.trans rfl rfl
theorem y_3 (d:Dst)(ro:ROp)(r:List AO)(st:St)(k:St->Prop):
  f1_ P (⟨d,.r ro,none⟩ :: r) st k=oR (rev st.get st.h ro) (D_t P d r st k):=by
 simp only[f1_,e_0]
 cases rev st.get st.h ro<;>rfl
theorem y_4 (d:Dst)(ho:HOp)(r:List AO)(st:St)(k:St->Prop):
  f1_ P (⟨d,.h ho,none⟩ :: r) st k=oH (hev st.get st.h ho) (p_v P d r st k):=by
 simp only[f1_,e_0]
 cases hev st.get st.h ho<;>rfl
theorem o_t (d:Dst)(f:FuncId)(args:List Opd)(r:List AO)(st:St)(k:St->Prop):
  f1_ P (⟨d,.call f args,none⟩ :: r) st k=c_e P f (args.map st.get) st.h (p_v P d r st k):=Eq.trans rfl rfl
theorem k_7 (d:Dst)(x:Opd)(args:List Opd)(r:List AO)(st:St)(k:St->Prop):
  f1_ P (⟨d,.callv x args,none⟩ :: r) st k=h_2 P (st.get x) (args.map st.get) st.h (p_v P d r st k):=by
 simp only[f1_,e_0,h_2]
 cases st.get x<;>rfl
theorem k_6 (d:Dst)(op:AOp)(x:Opd)(want:Bool)(r:List AO)(st:St)(k:St->Prop):
  f1_ P (⟨d,op,some (x,want)⟩ :: r) st k=H5_ P (st.get x) want d op r st k:=by
 simp only[f1_,H5_]
 generalize hv:st.get x=v
 cases v<;>rfl
theorem A_n (v:AV)(k:AV->Prop):oR (some v) k=k v:=Eq.trans rfl rfl
theorem A_p (v:AV)(h:a0_)(k:AV->a0_->Prop):oH (some (v,h)) k=k v h:=Eq.trans rfl rfl
theorem t_h (r:List AO)(L R:Env)(h:a0_)(k:St->Prop)(v:AV):D_t P .none r ⟨L,R,h⟩ k v=f1_ P r ⟨L,R,h⟩ k:=Eq.trans rfl rfl
theorem w_7 (s:Nat)(r:List AO)(L R:Env)(h:a0_)(k:St->Prop)(v:AV):D_t P (.loc s) r ⟨L,R,h⟩ k v=f1_ P r ⟨ins s v L,R,h⟩ k:=Eq.trans rfl rfl
theorem w_6 (s:Nat)(r:List AO)(L R:Env)(h:a0_)(k:St->Prop)(v:AV):D_t P (.tmp s) r ⟨L,R,h⟩ k v=f1_ P r ⟨L,(s,v) :: R,h⟩ k:=Eq.trans rfl rfl
theorem p_u (r:List AO)(L R:Env)(h h':a0_)(k:St->Prop)(v:AV):p_v P .none r ⟨L,R,h⟩ k v h'=f1_ P r ⟨L,R,h'⟩ k:=Eq.trans rfl rfl
theorem t_j (s:Nat)(r:List AO)(L R:Env)(h h':a0_)(k:St->Prop)(v:AV):p_v P (.loc s) r ⟨L,R,h⟩ k v h'=f1_ P r ⟨ins s v L,R,h'⟩ k:=Eq.trans rfl rfl
theorem t_i (s:Nat)(r:List AO)(L R:Env)(h h':a0_)(k:St->Prop)(v:AV):p_v P (.tmp s) r ⟨L,R,h⟩ k v h'=f1_ P r ⟨L,(s,v) :: R,h'⟩ k:=Eq.trans rfl rfl
theorem A_6 (s:Nat)(L R:Env)(h:a0_):St.get ⟨L,R,h⟩ (.loc s)=lk s L:=Eq.trans rfl rfl
theorem A_5 (s:Nat)(L R:Env)(h:a0_):St.get ⟨L,R,h⟩ (.tmp s)=lk s R:=Eq.trans rfl rfl
theorem A_7 (v:AV)(st:St):st.get (.cst v)=v:=Eq.trans rfl rfl
theorem C_l (s:Nat):lk s []=.top:=Eq.trans rfl rfl
theorem c9_ (s t:Nat)(v:AV)(r:Env):lk s ((t,v) :: r)=if t=s then v else lk s r:=Eq.trans rfl rfl
theorem k_1 (d:Dst)(op:AOp)(r:List AO)(st:St)(k:St->Prop):H5_ P (.bool true) true d op r st k=f1_ P (⟨d,op,none⟩ :: r) st k:=by simp[H5_]
theorem h_0 (d:Dst)(op:AOp)(r:List AO)(st:St)(k:St->Prop):H5_ P (.bool false) false d op r st k=f1_ P (⟨d,op,none⟩ :: r) st k:=by simp[H5_]
theorem r_g (d:Dst)(op:AOp)(r:List AO)(st:St)(k:St->Prop):H5_ P (.bool true) false d op r st k=f1_ P r (st.put d (.tup [])) k:=by simp[H5_]
theorem r_h (d:Dst)(op:AOp)(r:List AO)(st:St)(k:St->Prop):H5_ P (.bool false) true d op r st k=f1_ P r (st.put d (.tup [])) k:=by simp[H5_]
theorem o_n (cs:List AV)(want:Bool)(d:Dst)(op:AOp)(r:List AO)(st:St)(k:St->Prop):H5_ P (.tup cs) want d op r st k=f1_ P r (st.put d (.tup [])) k:=Eq.trans rfl rfl
theorem w_u (L R:Env)(h:a0_)(v:AV):St.put ⟨L,R,h⟩ .none v=⟨L,R,h⟩:=Eq.trans rfl rfl
theorem A_j (s:Nat)(L R:Env)(h:a0_)(v:AV):St.put ⟨L,R,h⟩ (.loc s) v=⟨ins s v L,R,h⟩:=Eq.trans rfl rfl
theorem A_i (s:Nat)(L R:Env)(h:a0_)(v:AV):St.put ⟨L,R,h⟩ (.tmp s) v=⟨L,(s,v) :: R,h⟩:=Eq.trans rfl rfl
theorem r_i {b:Bool}{d:Dst}{op:AOp}{r:List AO}{st:St}{k:St->Prop}(h1:b=true->f1_ P (⟨d,op,none⟩ :: r) st k)
  (h2:b=false->f1_ P r (st.put d (.tup [])) k):H5_ P (.bool b) true d op r st k:=⟨h1,h2⟩
theorem r_j {b:Bool}{d:Dst}{op:AOp}{r:List AO}{st:St}{k:St->Prop}(h1:b=false->f1_ P (⟨d,op,none⟩ :: r) st k)
  (h2:b=true->f1_ P r (st.put d (.tup [])) k):H5_ P (.bool b) false d op r st k:=⟨h1,h2⟩
theorem o_q (a b:AC)(st:St)(K:AX->St->Prop):k_4 P (.bool true) a b st K=vc P a st K:=by simp[k_4]
theorem k_3 (a b:AC)(st:St)(K:AX->St->Prop):k_4 P (.bool false) a b st K=vc P b st K:=by simp[k_4]
theorem b0_ {t:Bool}{a b:AC}{st:St}{K:AX->St->Prop}(h1:t=true->vc P a st K)(h2:t=false->vc P b st K):k_4 P (.bool t) a b st K:=⟨h1,h2⟩
theorem a1_ {f:FuncId}{avs:List AV}{h:a0_}{K K':AV->a0_->Prop}(hc:f2_ P f=true/\a6_ P f avs h K')(hk:∀r h',K' r h'->K r h'):c_e P f avs h K:=
 ⟨hc.1,hc.2.mono hk⟩
theorem o_r (f:FuncId)(fs cs args:List AV)(h:a0_)(K:AV->a0_->Prop):h_2 P (.clo f fs cs) args h K=c_e P f (fs++args++cs) h K:=Eq.trans rfl rfl
def C_x:ROp->Bool
 | .load _ _ _=>true
 | _=>false
def kDN (fin:List (Nat×Nat))(L:Env)(K:AX->St->Prop):DS->Prop:=λd=>K .normal ⟨r_a d.R fin L,[],d.h⟩
def E_a (masks:List Nat)(i j:Nat):Bool:=(masks.getD i 0).testBit j
def kDv (P:Program)(dep:Nat->Nat->Bool)(lo k i:Nat)(r:List DO)(d:DS)(K:DS->Prop):AV->Prop:=λv=>vcD P dep lo k r (d.val i v) K
def kDl (P:Program)(dep:Nat->Nat->Bool)(lo k i:Nat)(agg:Bool)(n:Nat)(x:AV)(r:List DO)(d:DS)(K:DS->Prop):AV->Prop:=λv=>
 f0_ lo k x=true/\vcD P dep lo k r {d.val i v with pend:=(i,x,agg,n,v) :: d.pend} K
def oL (o:Option (AV×a5_))(k:AV->a5_->Prop):Prop:=match o with
 | some (v,b)=>k v b
 | none=>False
def kDL (P:Program)(dep:Nat->Nat->Bool)(lo k i nm:Nat)(r:List DO)(d:DS)(K:DS->Prop):AV->a5_->Prop:=λv b=>
 vcD P dep lo k r {d.val i v with h:=d.h.set (lo+nm) (some b),lts:=(i,lo+nm,b) :: d.lts} K
def y7_ (dep:Nat->Nat->Bool)(i:Nat)(l:List (Nat×Nat×a5_)):List (Nat×Nat×a5_):=l.filter λx=>!dep i x.1
def kDB (P:Program)(dep:Nat->Nat->Bool)(lo k i:Nat)(r:List DO)(d:DS)(K:DS->Prop):AV->a0_->Prop:=λv h'=>
 Y1_ dep lo k i d.lts h'=true/\d_0 dep i (C5_ (y7_ dep i d.lts) h') d.pend/\vcD P dep lo k r {d.val i v with h:=C5_ (y7_ dep i d.lts) h'} K
def C3_ (P:Program)(dep:Nat->Nat->Bool)(lo k:Nat)(v:AV)(want:Bool)(i nm:Nat)(hv:Bool)(op:AOp)(r:List DO)(d:DS)(K:DS->Prop):Prop:=
 match v with
 | .bool b=>(b=want->vcD P dep lo k (⟨i,nm,hv,op,none⟩ :: r) d K)/\(b=(!want)->vcD P dep lo k r (d.val i (.tup [])) K)
 | .tup _=>vcD P dep lo k r (d.val i (.tup [])) K
 | _=>False
theorem y_1 (masks:List Nat)(k:Nat)(items:List DO)(fin:List (Nat×Nat))(L R:Env)(h:a0_)(K:AX->St->Prop):
  vc P (.dreg ⟨masks,k,items,fin⟩) ⟨L,R,h⟩ K=vcD P (E_a masks) h.length k items ⟨L,[],h++List.replicate k none,[],[]⟩ (kDN fin L K):=Eq.trans rfl rfl
theorem C_s (fin:List (Nat×Nat))(L L' R:Env)(h:a0_)(p:List (Nat×AV×Bool×Nat×AV))(l:List (Nat×Nat×a5_))(K:AX->St->Prop):kDN fin L K ⟨L',R,h,p,l⟩=K .normal ⟨r_a R fin L,[],h⟩:=Eq.trans rfl rfl
theorem x_g (R L:Env):r_a R [] L=L:=Eq.trans rfl rfl
theorem t_4 (R L:Env)(t i:Nat)(r:List (Nat×Nat)):r_a R ((t,i) :: r) L=r_a R r (ins t (lk i R) L):=Eq.trans rfl rfl
section
variable {dep:Nat->Nat->Bool} {lo k i nm:Nat}
theorem z_a (d:DS)(K:DS->Prop):vcD P dep lo k [] d K=K d:=Eq.trans rfl rfl
theorem J4_ {ro:ROp}(h:C_x ro=false)(r:List DO)(d:DS)(K:DS->Prop):vcD P dep lo k (⟨i,nm,false,.r ro,none⟩ :: r) d K=oR (rev d.get [] ro) (kDv P dep lo k i r d K):=by
 simp only[vcD,h_v]
 cases ro with
 | load=>cases h
 | _=>simp only;generalize rev d.get [] _=o;cases o<;>rfl
theorem z_c (x:Opd)(r:List DO)(d:DS)(K:DS->Prop):vcD P dep lo k (⟨i,nm,false,.r (.mov x),none⟩ :: r) d K=oR (rev d.get [] (.mov x)) (kDv P dep lo k i r d K):=J4_ rfl r d K
theorem v_z (c a b:Opd)(r:List DO)(d:DS)(K:DS->Prop):vcD P dep lo k (⟨i,nm,false,.r (.pick c a b),none⟩ :: r) d K=oR (rev d.get [] (.pick c a b)) (kDv P dep lo k i r d K):=J4_ rfl r d K
theorem r_r (z:List AV)(ps:List (Nat×Nat×Opd))(r:List DO)(d:DS)(K:DS->Prop):vcD P dep lo k (⟨i,nm,false,.r (.build z ps),none⟩ :: r) d K=oR (rev d.get [] (.build z ps)) (kDv P dep lo k i r d K):=J4_ rfl r d K
theorem z_h (x:Opd)(r:List DO)(d:DS)(K:DS->Prop):vcD P dep lo k (⟨i,nm,false,.r (.chk x),none⟩ :: r) d K=oR (rev d.get [] (.chk x)) (kDv P dep lo k i r d K):=J4_ rfl r d K
theorem z_i (op:BinOp)(x y:Opd)(r:List DO)(d:DS)(K:DS->Prop):vcD P dep lo k (⟨i,nm,false,.r (.bin op x y),none⟩ :: r) d K=oR (rev d.get [] (.bin op x y)) (kDv P dep lo k i r d K):=J4_ rfl r d K
theorem z_j (op:BinOp)(x y:Opd)(r:List DO)(d:DS)(K:DS->Prop):vcD P dep lo k (⟨i,nm,false,.r (.beq op x y),none⟩ :: r) d K=oR (rev d.get [] (.beq op x y)) (kDv P dep lo k i r d K):=J4_ rfl r d K
theorem r_n (b:Bool)(x:Opd)(r:List DO)(d:DS)(K:DS->Prop):vcD P dep lo k (⟨i,nm,false,.r (.nileq b x),none⟩ :: r) d K=oR (rev d.get [] (.nileq b x)) (kDv P dep lo k i r d K):=J4_ rfl r d K
theorem y_9 (x:Opd)(r:List DO)(d:DS)(K:DS->Prop):vcD P dep lo k (⟨i,nm,false,.r (.not x),none⟩ :: r) d K=oR (rev d.get [] (.not x)) (kDv P dep lo k i r d K):=J4_ rfl r d K
theorem z_b (x:Opd)(r:List DO)(d:DS)(K:DS->Prop):vcD P dep lo k (⟨i,nm,false,.r (.neg x),none⟩ :: r) d K=oR (rev d.get [] (.neg x)) (kDv P dep lo k i r d K):=J4_ rfl r d K
theorem v_3 (q:IntKind)(x:Opd)(r:List DO)(d:DS)(K:DS->Prop):vcD P dep lo k (⟨i,nm,false,.r (.conv q x),none⟩ :: r) d K=oR (rev d.get [] (.conv q x)) (kDv P dep lo k i r d K):=J4_ rfl r d K
theorem y_7 (sz:Nat)(x:Opd)(a b c:Option Opd)(r:List DO)(d:DS)(K:DS->Prop):vcD P dep lo k (⟨i,nm,false,.r (.slc sz x a b c),none⟩ :: r) d K=oR (rev d.get [] (.slc sz x a b c)) (kDv P dep lo k i r d K):=J4_ rfl r d K
theorem y_8 (o:Nat)(x:Opd)(r:List DO)(d:DS)(K:DS->Prop):vcD P dep lo k (⟨i,nm,false,.r (.off o x),none⟩ :: r) d K=oR (rev d.get [] (.off o x)) (kDv P dep lo k i r d K):=J4_ rfl r d K
theorem z_e (sz:Nat)(x y:Opd)(r:List DO)(d:DS)(K:DS->Prop):vcD P dep lo k (⟨i,nm,false,.r (.idx sz x y),none⟩ :: r) d K=oR (rev d.get [] (.idx sz x y)) (kDv P dep lo k i r d K):=J4_ rfl r d K
theorem z_f (x:Opd)(j:Nat)(r:List DO)(d:DS)(K:DS->Prop):vcD P dep lo k (⟨i,nm,false,.r (.ext x j),none⟩ :: r) d K=oR (rev d.get [] (.ext x j)) (kDv P dep lo k i r d K):=J4_ rfl r d K
theorem z_d (x:Opd)(r:List DO)(d:DS)(K:DS->Prop):vcD P dep lo k (⟨i,nm,false,.r (.len x),none⟩ :: r) d K=oR (rev d.get [] (.len x)) (kDv P dep lo k i r d K):=J4_ rfl r d K
theorem v_y (x:Opd)(r:List DO)(d:DS)(K:DS->Prop):vcD P dep lo k (⟨i,nm,false,.r (.slen x),none⟩ :: r) d K=oR (rev d.get [] (.slen x)) (kDv P dep lo k i r d K):=J4_ rfl r d K
theorem v_1 (b:Bool)(xs:List Opd)(r:List DO)(d:DS)(K:DS->Prop):vcD P dep lo k (⟨i,nm,false,.r (.mnmx b xs),none⟩ :: r) d K=oR (rev d.get [] (.mnmx b xs)) (kDv P dep lo k i r d K):=J4_ rfl r d K
theorem z_g (f:FuncId)(xs:List Opd)(r:List DO)(d:DS)(K:DS->Prop):vcD P dep lo k (⟨i,nm,false,.r (.clo f xs),none⟩ :: r) d K=oR (rev d.get [] (.clo f xs)) (kDv P dep lo k i r d K):=J4_ rfl r d K
theorem y_6 (o:XOp)(r:List DO)(d:DS)(K:DS->Prop):vcD P dep lo k (⟨i,nm,false,.r (.x o),none⟩ :: r) d K=oR (rev d.get [] (.x o)) (kDv P dep lo k i r d K):=J4_ rfl r d K
theorem v_2 (agg:Bool)(n:Nat)(x:Opd)(r:List DO)(d:DS)(K:DS->Prop):
  vcD P dep lo k (⟨i,nm,false,.r (.load agg n x),none⟩ :: r) d K=oR (o5_ d.h agg n (d.get x)) (kDl P dep lo k i agg n (d.get x) r d K):=by
 simp only[vcD,h_v]
 generalize o5_ d.h agg n (d.get x)=o;cases o<;>rfl
theorem r_o (ho:HOp)(r:List DO)(d:DS)(K:DS->Prop):vcD P dep lo k (⟨i,nm,false,.h ho,none⟩ :: r) d K=oL (f7_ d.get (lo+nm) ho) (kDL P dep lo k i nm r d K):=by
 simp only[vcD,h_v]
 generalize f7_ d.get (lo+nm) ho=o;cases o<;>rfl
theorem D_2 (ho:HOp)(r:List DO)(d:DS)(K:DS->Prop):vcD P dep lo k (⟨i,nm,true,.h ho,none⟩ :: r) d K=oH (hev d.get (E9_ (y7_ dep i d.lts) d.h) ho) (kDB P dep lo k i r d K):=by
 simp only[vcD,h_v]
 show (match hev d.get (E9_ (y7_ dep i d.lts) d.h) ho with | some (v,h')=>_ | none=>False)=_
 generalize hev d.get (E9_ (y7_ dep i d.lts) d.h) ho=o;cases o<;>rfl
theorem v_4 (f:FuncId)(args:List Opd)(r:List DO)(d:DS)(K:DS->Prop):
  vcD P dep lo k (⟨i,nm,true,.call f args,none⟩ :: r) d K=c_e P f (args.map d.get) (E9_ (y7_ dep i d.lts) d.h) (kDB P dep lo k i r d K):=Eq.trans rfl rfl
theorem r_q (x:Opd)(args:List Opd)(r:List DO)(d:DS)(K:DS->Prop):
  vcD P dep lo k (⟨i,nm,true,.callv x args,none⟩ :: r) d K=h_2 P (d.get x) (args.map d.get) (E9_ (y7_ dep i d.lts) d.h) (kDB P dep lo k i r d K):=by
 simp only[vcD,h_v,h_2]
 cases d.get x<;>rfl
theorem r_p (hv:Bool)(op:AOp)(x:Opd)(want:Bool)(r:List DO)(d:DS)(K:DS->Prop):
  vcD P dep lo k (⟨i,nm,hv,op,some (x,want)⟩ :: r) d K=C3_ P dep lo k (d.get x) want i nm hv op r d K:=by
 simp only[vcD,C3_]
 generalize d.get x=v
 cases v<;>rfl
theorem A_o (v:AV)(b:a5_)(k:AV->a5_->Prop):oL (some (v,b)) k=k v b:=Eq.trans rfl rfl
theorem C_q (r:List DO)(L R:Env)(h:a0_)(p:List (Nat×AV×Bool×Nat×AV))(l:List (Nat×Nat×a5_))(K:DS->Prop)(v:AV):
  kDv P dep lo k i r ⟨L,R,h,p,l⟩ K v=vcD P dep lo k r ⟨L,(i,v) :: R,h,p,l⟩ K:=Eq.trans rfl rfl
theorem C_r (agg:Bool)(n:Nat)(x:AV)(r:List DO)(L R:Env)(h:a0_)(p:List (Nat×AV×Bool×Nat×AV))(l:List (Nat×Nat×a5_))(K:DS->Prop)(v:AV):
  kDl P dep lo k i agg n x r ⟨L,R,h,p,l⟩ K v=(f0_ lo k x=true/\vcD P dep lo k r ⟨L,(i,v) :: R,h,(i,x,agg,n,v) :: p,l⟩ K):=Eq.trans rfl rfl
theorem C_t (r:List DO)(L R:Env)(h:a0_)(p:List (Nat×AV×Bool×Nat×AV))(l:List (Nat×Nat×a5_))(K:DS->Prop)(v:AV)(b:a5_):
  kDL P dep lo k i nm r ⟨L,R,h,p,l⟩ K v b=vcD P dep lo k r ⟨L,(i,v) :: R,h.set (lo+nm) (some b),p,(i,lo+nm,b) :: l⟩ K:=Eq.trans rfl rfl
theorem C_u (r:List DO)(L R:Env)(h h':a0_)(p:List (Nat×AV×Bool×Nat×AV))(l:List (Nat×Nat×a5_))(K:DS->Prop)(v:AV):
  kDB P dep lo k i r ⟨L,R,h,p,l⟩ K v h'=(Y1_ dep lo k i l h'=true/\d_0 dep i (C5_ (y7_ dep i l) h') p/\vcD P dep lo k r ⟨L,(i,v) :: R,C5_ (y7_ dep i l) h',p,l⟩ K):=Eq.trans rfl rfl
theorem d9_ (r:List DO)(L R:Env)(h h':a0_)(p:List (Nat×AV×Bool×Nat×AV))(K:DS->Prop)(v:AV):
  kDB P dep lo 0 i r ⟨L,R,h,p,[]⟩ K v h'=(d_0 dep i h' p/\vcD P dep lo 0 r ⟨L,(i,v) :: R,h',p,[]⟩ K):=by
 simp[kDB,y7_,Y1_,C5_,DS.val]
theorem l_0 (lo:Nat)(x:AV):f0_ lo 0 x=true:=by
 cases x<;>simp[f0_];omega
theorem x_l (s:Nat)(L R:Env)(h:a0_)(p:List (Nat×AV×Bool×Nat×AV))(l:List (Nat×Nat×a5_)):DS.get ⟨L,R,h,p,l⟩ (.loc s)=lk s L:=Eq.trans rfl rfl
theorem x_k (s:Nat)(L R:Env)(h:a0_)(p:List (Nat×AV×Bool×Nat×AV))(l:List (Nat×Nat×a5_)):DS.get ⟨L,R,h,p,l⟩ (.tmp s)=lk s R:=Eq.trans rfl rfl
theorem x_m (v:AV)(d:DS):d.get (.cst v)=v:=Eq.trans rfl rfl
theorem B_9 (i:Nat)(v:AV)(L R:Env)(h:a0_)(p:List (Nat×AV×Bool×Nat×AV))(l:List (Nat×Nat×a5_)):DS.val ⟨L,R,h,p,l⟩ i v=⟨L,(i,v) :: R,h,p,l⟩:=Eq.trans rfl rfl
theorem s_6:y7_ dep i []=[]:=Eq.trans rfl rfl
theorem t_r (h:a0_):E9_ [] h=h:=Eq.trans rfl rfl
theorem r_0 (h:a0_):C5_ [] h=h:=Eq.trans rfl rfl
theorem u_z (h:a0_):d_0 dep i h []=True:=Eq.trans rfl rfl
theorem q_s (h:a0_)(q:Nat)(x:AV)(agg:Bool)(n:Nat)(v:AV)(r:List (Nat×AV×Bool×Nat×AV)):
  d_0 dep i h ((q,x,agg,n,v) :: r)=((dep i q=true\/o5_ h agg n x=some v)/\d_0 dep i h r):=Eq.trans rfl rfl
theorem h_1 (hv:Bool)(op:AOp)(r:List DO)(d:DS)(K:DS->Prop):C3_ P dep lo k (.bool true) true i nm hv op r d K=vcD P dep lo k (⟨i,nm,hv,op,none⟩ :: r) d K:=by simp[C3_]
theorem f_z (hv:Bool)(op:AOp)(r:List DO)(d:DS)(K:DS->Prop):C3_ P dep lo k (.bool false) false i nm hv op r d K=vcD P dep lo k (⟨i,nm,hv,op,none⟩ :: r) d K:=by simp[C3_]
theorem o_o (hv:Bool)(op:AOp)(r:List DO)(d:DS)(K:DS->Prop):C3_ P dep lo k (.bool true) false i nm hv op r d K=vcD P dep lo k r (d.val i (.tup [])) K:=by simp[C3_]
theorem o_p (hv:Bool)(op:AOp)(r:List DO)(d:DS)(K:DS->Prop):C3_ P dep lo k (.bool false) true i nm hv op r d K=vcD P dep lo k r (d.val i (.tup [])) K:=by simp[C3_]
theorem k_2 (cs:List AV)(want:Bool)(hv:Bool)(op:AOp)(r:List DO)(d:DS)(K:DS->Prop):C3_ P dep lo k (.tup cs) want i nm hv op r d K=vcD P dep lo k r (d.val i (.tup [])) K:=Eq.trans rfl rfl
end
theorem u_q (res:List h_u)(K:AV->a0_->Prop)(st:St):b2_ res K .ret st=(match q5_ st res with | some l=>K (B3_ l) st.h | none=>False):=Eq.trans rfl rfl
theorem k_i (res:List h_u)(K:AV->a0_->Prop)(st:St):b2_ res K .normal st=(match q5_ st res with | some l=>K (B3_ l) st.h | none=>False):=Eq.trans rfl rfl
end
mutual
def AV.upto (k:Nat):AV->Bool
 | .ptr n _ _ _=>decide (n<k)
 | .ref n _ _ _ _=>decide (n<k)
 | .vptr t cs=>decide (t<=k) && AV.uptoL k cs
 | .vals t _ _ es=>(es.isEmpty || decide (t<=k)) && AV.uptoLL k es
 | .agg cs=>AV.uptoL k cs
 | .tup cs=>AV.uptoL k cs
 | .clo _ fs cs=>AV.uptoL k fs && AV.uptoL k cs
 | .iface _ v=>AV.upto k v
 | .mapv n=>decide (n<k)
 | _=>true
def AV.uptoL (k:Nat):List AV->Bool
 | []=>true
 | v :: r=>AV.upto k v && AV.uptoL k r
def AV.uptoLL (k:Nat):List (List AV)->Bool
 | []=>true
 | v :: r=>AV.uptoL k v && AV.uptoLL k r
end
theorem C2_ {k:Nat}:∀{cs:List AV},AV.uptoL k cs=true->∀(j:Nat)(c:AV),cs[j]?=some c->c.upto k=true:=by
 intro cs
 induction cs with
 | nil=>intro _ j c h;simp at h
 | cons v r ih=>
  intro h j c hj
  simp only[AV.uptoL,K_g]at h
  cases j with
  | zero=>simp at hj;subst hj;exact h.1
  | succ j=>exact ih h.2 j c (by simpa using hj)
theorem m_r {k:Nat}:∀{es:List (List AV)},AV.uptoLL k es=true->∀(i j:Nat)(c:AV),l1_ es i j=some c->c.upto k=true:=by
 intro es
 induction es with
 | nil=>intro _ i j c h;simp[l1_]at h
 | cons v r ih=>
  intro h i j c hj
  simp only[AV.uptoLL,K_g]at h
  cases i with
  | zero=>simp[l1_]at hj;exact C2_ h.1 j c hj
  | succ i=>exact ih h.2 i j c (by simpa [l1_] using hj)
def Gh.trunc (G:Gh)(k:Nat):Gh:={G with N:=k,live:=λn=>G.live n/\n<k,tag:=λn b=>G.tag n b/\n<k}
theorem a_d {G:Gh}{k t b:Nat}(ht:t<=k)(h:G.prot t b):(G.trunc k).prot t b:=by
 cases t with
 | zero=>exact h
 | succ n=>exact⟨h,by omega⟩
theorem V.trunc {G w av v k}(h:V G w av v)(hb:av.upto k=true):V (G.trunc k) w av v:=by
 induction h with
 | top v=>exact .top v
 | bool b=>exact .bool b
 | int k n=>exact .int k n
 | str s=>exact .str s
 | raw v=>exact .raw v
 | nils=>exact .nils
 | mapnil=>exact .mapnil
 | mapv n b hn hl=>exact .mapv n b (by simpa [AV.upto,Gh.trunc] using hb) hl
 | ptr n sz i o b hn hl=>exact .ptr n sz i o b (by simpa [AV.upto,Gh.trunc] using hb) hl
 | vptr t cs b off f hp hc _ ih=>
  simp only[AV.upto,K_g,decide_eq_true_eq]at hb
  exact .vptr t cs b off f (a_d hb.1 hp) hc (λj c hj=>ih j c hj (C2_ hb.2 j c hj))
 | ref n sz off len cap c ty m b hn hl hle hcap hs hm=>exact .ref n sz off len cap c ty m b (by simpa [AV.upto,Gh.trunc] using hb) hl hle hcap hs hm
 | refNil n sz cap hn hl hc=>exact .refNil n sz cap (by simpa [AV.upto,Gh.trunc] using hb) hl hc
 | vals t clip sz es a cap f hl hcl hsp hp hes hc _ ih=>
  simp only[AV.upto,K_g,L_w,decide_eq_true_eq,List.isEmpty_iff]at hb
  exact .vals t clip sz es a cap f hl hcl hsp (λh=>a_d (hb.1.resolve_left h) (hp h)) hes hc (λi j c hj=>ih i j c hj (m_r hb.2 i j c hj))
 | valsNil t clip sz=>exact .valsNil t clip sz
 | agg cs vs hl _ ih=>exact .agg cs vs hl (λj c v hc hv=>ih j c v hc hv (C2_ (by simpa [AV.upto] using hb) j c hc))
 | tup cs vs hl _ ih=>exact .tup cs vs hl (λj c v hc hv=>ih j c v hc hv (C2_ (by simpa [AV.upto] using hb) j c hc))
 | clo f fs us cs vs hl _ hl' _ ih ih'=>
  simp only[AV.upto,K_g]at hb
  exact .clo f fs us cs vs hl (λj c v hc hv=>ih j c v hc hv (C2_ hb.1 j c hc)) hl' (λj c v hc hv=>ih' j c v hc hv (C2_ hb.2 j c hc))
 | iface t c v _ ih=>exact .iface t c v (ih (by simpa [AV.upto] using hb))
theorem I9_ {k:Nat}:∀{cs:List AV},(∀(j:Nat)(c:AV),cs[j]?=some c->c.upto k=true)->AV.uptoL k cs=true:=by
 intro cs
 induction cs with
 | nil=>intro _;rfl
 | cons v r ih=>
  intro h
  simp only[AV.uptoL,K_g]
  exact⟨h 0 v rfl,ih λj c hj=>h (j+1) c (by simpa using hj)⟩
theorem q_h {k:Nat}:∀{es:List (List AV)},(∀(i j:Nat)(c:AV),l1_ es i j=some c->c.upto k=true)->AV.uptoLL k es=true:=by
 intro es
 induction es with
 | nil=>intro _;rfl
 | cons v r ih=>
  intro h
  simp only[AV.uptoLL,K_g]
  exact⟨I9_ λj c hj=>h 0 j c (by simpa [l1_] using hj),ih λi j c hj=>h (i+1) j c (by simpa [l1_] using hj)⟩
theorem Gam.protN {G w h}(g:Gam G w h){t b:Nat}(hp:G.prot t b):t<=G.N:=by
 cases t with
 | zero=>exact L_f _
 | succ n=>exact g.ltN (g.tag n b hp)
theorem V.isUpto {G w h}(g:Gam G w h){av v}(hv:V G w av v):av.upto G.N=true:=by
 induction hv with
 | top v=>rfl
 | bool b=>rfl
 | int k n=>rfl
 | str s=>rfl
 | raw v=>rfl
 | nils=>rfl
 | mapnil=>rfl
 | mapv n b hn hl=>simpa [AV.upto] using hn
 | ptr n sz i o b hn hl=>simpa [AV.upto] using hn
 | vptr t cs b off f hp hc _ ih=>simp only[AV.upto,K_g,decide_eq_true_eq];exact⟨g.protN hp,I9_ λj c hj=>ih j c hj⟩
 | ref n sz off len cap c ty m b hn hl hle hcap hs hm=>simpa [AV.upto] using hn
 | refNil n sz cap hn hl hc=>simpa [AV.upto] using hn
 | vals t clip sz es a cap f hl hcl hsp hp hes hc _ ih=>
  simp only[AV.upto,K_g,L_w,decide_eq_true_eq,List.isEmpty_iff]
  refine⟨?_,q_h λi j c hj=>ih i j c hj⟩
  by_cases h:es=[]
  ·exact .inl h
  ·exact .inr (g.protN (hp h))
 | valsNil t clip sz=>simp[AV.upto,AV.uptoLL]
 | agg cs vs hl hv ih=>
  refine I9_ λj c hj=>?_
  have hlt:=(J_w.1 hj).1
  exact ih j c _ hj (by simp[<-hl,hlt]:vs[j]?=some (vs[j]'(by omega)))
 | tup cs vs hl hv ih=>
  refine I9_ λj c hj=>?_
  have hlt:=(J_w.1 hj).1
  exact ih j c _ hj (by simp[<-hl,hlt]:vs[j]?=some (vs[j]'(by omega)))
 | clo f fs us cs vs hl _ hl' _ ih ih'=>
  simp only[AV.upto,K_g]
  refine⟨I9_ λj c hj=>?_,I9_ λj c hj=>?_⟩
  ·have hlt:=(J_w.1 hj).1
   exact ih j c _ hj (by simp[<-hl,hlt]:us[j]?=some (us[j]'(by omega)))
  ·have hlt:=(J_w.1 hj).1
   exact ih' j c _ hj (by simp[<-hl',hlt]:vs[j]?=some (vs[j]'(by omega)))
 | iface t c v _ ih=>exact ih
def Ext (F:Nat->Prop)(h h':a0_):Prop:=h.length<=h'.length/\∀m,m<h.length->¬F m->h'[m]?=h[m]?
def nof:Nat->Prop:=λ_=>False
theorem Gam.trunc {G w h G' w' h'}(g:Gam G w h)(g':Gam G' w' h')(s:Stp G w G' w')(hx:Ext nof h h'):Gam (G'.trunc h.length) w' h/\Stp G w (G'.trunc h.length) w':=by
  have hN:h.length=G.N:=g.len
  have same:∀n,n<h.length->h'[n]?=h[n]?:=λn hn=>hx.2 n hn (λx=>x)
  have lt:∀{n:Nat}{x:Option a5_},h[n]?=some x->n<h.length:=λhn=>(J_w.1 hn).1
  have k:h3_ G w (G'.trunc h.length) w':=by
    refine⟨Nat.le_of_eq hN.symm,λn b hn hb=>s.keep.loc n b hn hb,λn hn hb=>s.keep.nil n hn hb,λt b hp=>?_,s.keep.heap,s.keep.shape⟩
    exact a_d (by rw[hN];exact g.protN hp) (s.keep.prot t b hp)
  refine⟨{len:=rfl,live:=?_,tag:=?_,inj:=λa b c h1 h2=>g'.inj a b c h1.1 h2.1,liveTag:=λa b c h1 hl h2=>g'.liveTag a b c h1.1 hl h2.1,
            liveS:=λa b h1=>g'.liveS a b h1.1,tagInj:=λa b c h1 h2=>g'.tagInj a b c h1.1 h2.1,tagS:=λa b h1=>g'.tagS a b h1.1,tagLt:=λa b h1=>g'.tagLt a b h1.1,
            sLt:=g'.sLt,arr:=?_,nil:=?_,nilLoc:=g'.nilLoc,map:=?_},?_⟩
  · intro n
    constructor
    · rintro⟨hl,hn⟩
      obtain⟨⟨B,hh,hr⟩,hb⟩:=(g'.live n).1 hl
      exact⟨⟨B,by rw[<-same n hn];exact hh,hr⟩,hb⟩
    · rintro⟨⟨B,hh,hr⟩,hb⟩
      have hn:=lt hh
      exact⟨(g'.live n).2 ⟨⟨B,by rw[same n hn];exact hh,hr⟩,hb⟩,hn⟩
  · rintro n b ⟨ht,hn⟩
    rw[<-same n hn];exact g'.tag n b ht
  · intro n sz es gr b hh hb
    have hn:=lt hh
    obtain⟨⟨cells,ty,hc,h1,h2,h3⟩,hs⟩:=g'.arr n sz es gr b (by rw[same n hn];exact hh) hb
    have hb0:G.loc n=some b:=by rw[<-s.locEq n (by omega)];exact hb
    obtain⟨⟨cells0,ty0,hc0,_,_,h30⟩,_⟩:=g.arr n sz es gr b hh hb0
    refine⟨⟨cells,ty,hc,h1,h2,λi j c hj=>?_⟩,hs⟩
    obtain⟨v,hv,hV⟩:=h3 i j c hj
    obtain⟨v0,_,hV0⟩:=h30 i j c hj
    exact⟨v,hv,hV.trunc (by rw[hN];exact hV0.isUpto g)⟩
  · intro n sz es gr hh hb
    exact g'.nil n sz es gr (by rw[same n (lt hh)];exact hh) hb
  · intro n es b hh hb
    have hn:=lt hh
    obtain⟨⟨entries,clock,hc,h1,h2,h3⟩,hs⟩:=g'.map n es b (by rw[same n hn];exact hh) hb
    have hb0:G.loc n=some b:=by rw[<-s.locEq n (by omega)];exact hb
    obtain⟨⟨entries0,clock0,hc0,_,_,h30⟩,_⟩:=g.map n es b hh hb0
    refine⟨⟨entries,clock,hc,h1,h2,λi key c hj=>?_⟩,hs⟩
    obtain⟨e,he,hk,hV⟩:=h3 i key c hj
    obtain⟨e0,_,_,hV0⟩:=h30 i key c hj
    exact⟨e,he,hk,hV.trunc (by rw[hN];exact hV0.isUpto g)⟩
  · refine⟨k,s.S,s.locEq,s.nilEq,s.size,s.frame,λb hb=>?_,s.rest⟩
    refine s.own b ?_
    rcases hb with⟨n,hn,hl⟩ | ⟨n,hn⟩
    · exact .inl ⟨n,hn.1,hl⟩
    · exact .inr ⟨n,hn.1⟩
theorem a6_.trunc {P:Program}{f:FuncId}{avs:List AV}{h:a0_}{K:AV->a0_->Prop}{K':AV->Prop}(hc:a6_ P f avs h K)
  (hk:∀r h',K r h'->Ext nof h h'/\r.upto h.length=true/\K' r):a6_ P f avs h λr h'=>h'=h/\K' r:=by
 intro G w vs hg hv
 refine (hc G w vs hg hv).mono ?_
 rintro e w' ⟨v,r,h',G',rfl,hK,hg',hV,hs⟩
 obtain⟨hx,hb,hK'⟩:=hk r h' hK
 obtain⟨g2,s2⟩:=hg.trunc hg' hs hx
 exact⟨v,r,h,_,rfl,⟨rfl,hK'⟩,g2,hV.trunc hb,s2⟩
theorem Ext.refl (F:Nat->Prop)(h:a0_):Ext F h h:=⟨J_4 _,λ_ _ _=>rfl⟩
theorem Ext.app (F:Nat->Prop)(h x:a0_):Ext F h (h++x):=⟨by simp,λm hm _=>J_1 hm⟩
theorem Ext.trans {F F' F'':Nat->Prop}{h h1 h2:a0_}(a:Ext F h h1)(b:Ext F' h1 h2)(hF:∀m,m<h.length->F m->F'' m)(hF':∀m,m<h.length->F' m->F'' m):Ext F'' h h2:=
 ⟨K_e a.1 b.1,λm hm hn=>by
  rw[b.2 m (K_c hm a.1) (λx=>hn (hF' m hm x)),a.2 m hm (λx=>hn (hF m hm x))]⟩
theorem Ext.tr {h h1 h2:a0_}(a:Ext nof h h1)(b:Ext nof h1 h2):Ext nof h h2:=a.trans b (λ_ _ x=>x) (λ_ _ x=>x)
theorem Ext.set {F:Nat->Prop}{h:a0_}{n:Nat}(x:Option a5_)(hn:n<h.length->F n):Ext F h (h.set n x):=
 ⟨by simp,λm hm hF=>J_x (by rintro rfl;exact hF (hn hm))⟩
theorem Ext.weak {F F':Nat->Prop}{h h':a0_}(a:Ext F h h')(hF:∀m,m<h.length->F m->F' m):Ext F' h h':=⟨a.1,λm hm hn=>a.2 m hm (λx=>hn (hF m hm x))⟩
theorem Ext.get {h h':a0_}(a:Ext nof h h'){n:Nat}{x:Option a5_} (hn:h[n]?=some x):h'[n]?=some x:=by
 rw[a.2 n (J_w.1 hn).1 (λx=>x)];exact hn
end Glb
