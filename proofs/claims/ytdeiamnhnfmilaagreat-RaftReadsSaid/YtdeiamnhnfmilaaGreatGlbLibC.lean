/-
  A library of its own.
-/
import Derived.Test.YtdeiamnhnfmilaaGreatGlbLibB
set_option linter.unusedSimpArgs false
set_option linter.unusedVariables false
open Nat (reduceAdd reduceDiv reduceEqDiff reduceLeDiff reduceMod reducePow)
namespace Glb
open Go
def S6:Value->Value->Bool
 | .pointer none,.pointer none=>true
 | .nilIface,.nilIface=>true
 | .nilFunc,.nilFunc=>true
 | .map none,.map none=>true
 | _,_=>false
mutual
def AV.aW:AV->AV->Bool
 | .aR,.aR=>true
 | .aE a,.aE b=>a == b
 | .aA k a,.aA l b=>decide (k=l) && decide (a=b)
 | .aQ a,.aQ b=>decide (a=b)
 | .aN a,.aN b=>S6 a b
 | .aD,.aD=>true
 | .aC a b c d,.aC a' b' c' d'=>a == a' && b == b' && c == c' && d == d'
 | .aO t cs,.aO t' cs'=>t == t' && AV.aU cs cs'
 | .aG a b c d e,.aG a' b' c' d' e'=>a == a' && b == b' && c == c' && d == d' && decide (e=e')
 | .aM t c s es,.aM t' c' s' es'=>t == t' && c == c' && s == s' && AV.aX es es'
 | .aF cs,.aF cs'=>AV.aU cs cs'
 | .aI cs,.aI cs'=>AV.aU cs cs'
 | .aL f fs cs,.aL f' fs' cs'=>f == f' && AV.aU fs fs' && AV.aU cs cs'
 | .aT t v,.aT t' v'=>t == t' && AV.aW v v'
 | _,_=>false
def AV.aU:List AV->List AV->Bool
 | [],[]=>true
 | a :: r,b :: s=>AV.aW a b && AV.aU r s
 | _,_=>false
def AV.aX:List (List AV)->List (List AV)->Bool
 | [],[]=>true
 | a :: r,b :: s=>AV.aU a b && AV.aX r s
 | _,_=>false
end
section
variable {P:Program}
end
end Glb
namespace Glb
open Go Go.RowKit
def vU (W W':World):Prop:=W.keptBut W' (λ_=>False)/\(∀a,a.block<W.heap.size->W'.frozen? a=W.frozen? a)/\W.heap.size<=W'.heap.size
theorem vU.aA {W W':World}(h:vU W W')(may:MemPlace->Prop):W.keptBut W' may:=World.keptBut_mono (λ_ f=>f.elim) h.1
theorem gy.aL {G w G' w'}(s:gy G w G' w')(e:∀b,¬G.aI b):vU w w':=by
 refine⟨⟨s.aH.1,s.aH.2.1,λi hi=>?_⟩,s.aH.2.2.2,s.aC⟩;rw[s.aE i hi (e i)];cases w.heap[i]? with
 | none=>rfl
 | some o=>cases o<;>simp
def Is (P:Program)(f:FuncId)(c:fJ):Prop:=qj P c.aD f=some c/\fP P f=true
theorem fU {P : Program} {f : FuncId} {c : fJ} {e : List AV} {h : eW} {K : AV -> eW -> Prop} (hf : Is P f c) (hk : vc P c.aA (n6 c.aD e h) (i_ c.aC K)) (hn : Nat.ble e.length c.n = true := by rfl) : fC P f e h K :=
 tj hf.1 (Vx hn) hk
section
variable {P:Program}
def oR:Option AV->(AV->Prop)->Prop
 | some v,k=>k v
 | none,_=>False
def oH:Option (AV×eW)->(AV->eW->Prop)->Prop
 | some (v,h),k=>k v h
 | none,_=>False
def tI (P:Program)(b:AC)(K:AX->St->Prop):AX->St->Prop
 | .aA,st=>vc P b st K
 | .aD id,st=>K (.aD id) st
 | .aC,st=>K .aC st
def xn (K:AX->St->Prop):St->Prop:=λst=>K .aA ⟨st.L,[],st.h⟩
def kN (K:AX->St->Prop):St->Prop:=λst=>K .aA st
def uX (id:Nat)(K:AX->St->Prop):AX->St->Prop
 | .aA,st=>K .aA st
 | .aD id',st=>if id'=id then K .aA st else K (.aD id') st
 | .aC,st=>K .aC st
def uY (I:Nat->fV->eW->Prop)(m:Nat)(K:AX->St->Prop):AX->St->Prop
 | .aA,st=>∃m',m'<m/\st.R=[]/\I m' st.L st.h
 | .aD id,st=>K (.aD id) st
 | .aC,st=>K .aC st
def xm (P:Program)(d:jP)(r:List AO)(st:St)(k:St->Prop):AV->Prop:=λv=>gU P r (st.aC d v) k
def tF (P:Program)(d:jP)(r:List AO)(st:St)(k:St->Prop):AV->eW->Prop:=λv h=>gU P r {st.aC d v with h:=h} k
def mN (P:Program)(f:FuncId)(avs:List AV)(h:eW)(K:AV->eW->Prop):Prop:=fP P f=true/\fC P f avs h K
def vH (P:Program)(x:AV)(args:List AV)(h:eW)(K:AV->eW->Prop):Prop:=
 match x with
 | .aL f fs cs=>mN P f (fs++args++cs) h K
 | _=>False
def oZ (P:Program)(v:AV)(a b:AC)(st:St)(K:AX->St->Prop):Prop:=
 match v with
 | .aE t=>(t=true->vc P a st K)/\(t=false->vc P b st K)
 | _=>False
def ng (P:Program)(v:AV)(want:Bool)(d:jP)(op:iV)(r:List AO)(st:St)(k:St->Prop):Prop:=
 match v with
 | .aE b=>(b=want->gU P (⟨d,op,none⟩ :: r) st k)/\(b=(!want)->gU P r (st.aC d (.aI [])) k)
 | .aI _=>gU P r (st.aC d (.aI [])) k
 | _=>False
theorem TL (st:St)(K:AX->St->Prop):vc P .aK st K=K .aA st:=UE rfl rfl
theorem TK (st:St)(K:AX->St->Prop):vc P .aN st K=K .aC st:=UE rfl rfl
theorem TI (id:Nat)(st:St)(K:AX->St->Prop):vc P (.aM id) st K=K (.aD id) st:=UE rfl rfl
theorem TJ (ops:List AO)(st:St)(K:AX->St->Prop):vc P (.aI ops) st K=gU P ops st (xn K):=UE rfl rfl
theorem tX (a b:AC)(st:St)(K:AX->St->Prop):vc P (.aA a b) st K=vc P a st (tI P b K):=by simp only[vc];congr 1;funext x st';cases x<;>rfl
theorem TF (id:Nat)(b:AC)(st:St)(K:AX->St->Prop):vc P (.aG id b) st K=vc P b st (uX id K):=by simp only[vc];congr 1;funext x st';cases x<;>rfl
theorem TG (c:fB)(a b:AC)(st:St)(K:AX->St->Prop):vc P (.aH c a b) st K=oZ P (st.aA c) a b st K:=by simp only[vc,oZ];generalize st.aA c=v;cases v<;>rfl
theorem qz (b:AC)(K:AX->St->Prop)(st:St):tI P b K .aA st=vc P b st K:=UE rfl rfl
theorem NA (b:AC)(K:AX->St->Prop)(id:Nat)(st:St):tI P b K (.aD id) st=K (.aD id) st:=UE rfl rfl
theorem NC (b:AC)(K:AX->St->Prop)(st:St):tI P b K .aC st=K .aC st:=UE rfl rfl
theorem Nh (id:Nat)(K:AX->St->Prop)(st:St):uX id K .aA st=K .aA st:=UE rfl rfl
theorem Ng (id e:Nat)(K:AX->St->Prop)(st:St):uX id K (.aD e) st=if e=id then K .aA st else K (.aD e) st:=UE rfl rfl
theorem Ni (id:Nat)(K:AX->St->Prop)(st:St):uX id K .aC st=K .aC st:=UE rfl rfl
theorem BY (K:AX->St->Prop)(L R:fV)(h:eW):xn K ⟨L,R,h⟩=K .aA ⟨L,[],h⟩:=UE rfl rfl
theorem Nt (K:AX->St->Prop)(st:St):kN K st=K .aA st:=UE rfl rfl
theorem Nr (I:Nat->fV->eW->Prop)(m:Nat)(K:AX->St->Prop)(L:fV)(h:eW):uY I m K .aA ⟨L,[],h⟩=∃m',m'<m/\I m' L h:=by simp[uY]
theorem Nq (I:Nat->fV->eW->Prop)(m:Nat)(K:AX->St->Prop)(id:Nat)(st:St):uY I m K (.aD id) st=K (.aD id) st:=UE rfl rfl
theorem Ns (I:Nat->fV->eW->Prop)(m:Nat)(K:AX->St->Prop)(st:St):uY I m K .aC st=K .aC st:=UE rfl rfl
theorem HT {o:AO}{st:St}{k k':St->Prop}(hk:∀s,k s->k' s)(h:mM P o st k):mM P o st k':=by
 unfold mM at h ⊢;split
 ·rename_i ro he;(try simp only[he]at h);split at h;·rename_i v hv;(try simp only[hv]);exact hk _ h
  ·exact h.elim
 ·rename_i ho he;(try simp only[he]at h);split at h;·rename_i v h' hv;(try simp only[hv]);exact hk _ h
  ·exact h.elim
 ·rename_i f args he;(try simp only[he]at h);exact⟨h.1,h.2.aA λ_ _ x=>hk _ x⟩
 ·rename_i x args he;(try simp only[he]at h);split at h;·rename_i f fs cs hx;(try simp only[hx]);exact⟨h.1,h.2.aA λ_ _ x=>hk _ x⟩
  ·exact h.elim
theorem CU:∀(l:List AO){st:St}{k k':St->Prop},(∀s,k s->k' s)->gU P l st k->gU P l st k':=by
 intro l;induction l with
 | nil=>intro st k k' hk h;exact hk _ h
 | cons o r ih=>
  intro st k k' hk h;simp only[gU]at h ⊢;split;·rename_i hg;(try simp only[hg]at h);exact HT (λs hs=>ih hk hs) h
  ·rename_i x want hg;try simp only[hg]at h;split at h;·rename_i b hb;(try simp only[hb]);exact⟨λe=>HT (λs hs=>ih hk hs) (h.1 e),λe=>ih hk (h.2 e)⟩
   ·rename_i cs hb;(try simp only[hb]);exact ih hk h
   ·exact h.elim
theorem CS {dep:Nat->Nat->Bool}{lo n i:Nat}{d:DS}{xs:List (Nat×Nat×e_)}{v:AV}{h':eW}{k k':DS->Prop}(hk:∀s,k s->k' s)
  (h:tW dep lo n i d xs v h' k):tW dep lo n i d xs v h' k':=⟨h.1,h.2.1,hk _ h.2.2⟩
theorem HR {dep:Nat->Nat->Bool}{lo n:Nat}{o:DO}{d:DS}{k k':DS->Prop}(hk:∀s,k s->k' s)(h:lu P dep lo n o d k):lu P dep lo n o d k':=by
 unfold lu at h ⊢;split<;>rename_i h1 h2<;>(try simp only[h1,h2]at h)
 ·split at h;·rename_i v hv;(try simp only[hv]);exact⟨h.1,hk _ h.2⟩
  ·exact h.elim
 ·rename_i hne;split at h;·rename_i v hv;(try simp only[hv]);exact hk _ h
  ·exact h.elim
 ·split at h;·rename_i v b hv;(try simp only[hv]);exact hk _ h
  ·exact h.elim
 ·split at h;·rename_i v h' hv;(try simp only[hv]);exact CS hk h
  ·exact h.elim
 ·exact⟨h.1,h.2.aA λ_ _ x=>CS hk x⟩
 ·split at h;·rename_i f fs cs hx;(try simp only[hx]);exact⟨h.1,h.2.aA λ_ _ x=>CS hk x⟩
  ·exact h.elim
theorem Tn {dep:Nat->Nat->Bool}{lo n:Nat}:∀(l:List DO){d:DS}{k k':DS->Prop},(∀s,k s->k' s)->gK P dep lo n l d k->gK P dep lo n l d k':=by
 intro l;induction l with
 | nil=>intro d k k' hk h;exact hk _ h
 | cons o r ih=>
  intro d k k' hk h;simp only[gK]at h ⊢;split;·rename_i hg;(try simp only[hg]at h);exact HR (λs hs=>ih hk hs) h
  ·rename_i x want hg;try simp only[hg]at h;split at h;·rename_i b hb;(try simp only[hb]);exact⟨λe=>HR (λs hs=>ih hk hs) (h.1 e),λe=>ih hk (h.2 e)⟩
   ·rename_i cs hb;(try simp only[hb]);exact ih hk h
   ·exact h.elim
theorem oY:∀(c:AC){st:St}{K K':AX->St->Prop},(∀x s,K x s->K' x s)->vc P c st K->vc P c st K':=by
 intro c;induction c with
 | aK=>intro st K K' hk h;exact hk _ _ h
 | aI ops=>intro st K K' hk h;exact CU ops (λs hs=>hk _ _ hs) h
 | aJ r=>intro st K K' hk h;exact Tn r.aC (λs hs=>hk _ _ hs) h
 | aA a b iha ihb=>
  intro st K K' hk h;refine iha ?_ h;intro x s hs;cases x with
  | aA=>exact ihb hk hs
  | aD id=>exact hk _ _ hs
  | aC=>exact hk _ _ hs
 | aH c a b iha ihb=>
  intro st K K' hk h;simp only[vc]at h ⊢;split at h;·rename_i t ht;(try simp only[ht]);exact⟨λe=>iha hk (h.1 e),λe=>ihb hk (h.2 e)⟩
  ·exact h.elim
 | aG id b ih=>
  intro st K K' hk h;refine ih ?_ h;intro x s hs;cases x with
  | aA=>exact hk _ _ hs
  | aD id'=>
   simp only at hs ⊢;split<;>rename_i e;·rw[Uv e]at hs;exact hk _ _ hs
   ·rw[Uw e]at hs;exact hk _ _ hs
  | aC=>exact hk _ _ hs
 | aE b ih=>
  rintro st K K' hk ⟨I,h0,u⟩;refine⟨I,h0,λm s hI=>ih ?_ (u m s hI)⟩;intro x s hs;cases x with
  | aA=>exact hs
  | aD id=>exact hk _ _ hs
  | aC=>exact hk _ _ hs
 | aM id=>intro st K K' hk h;exact hk _ _ h
 | aN=>intro st K K' hk h;exact hk _ _ h
 | aL=>intro st K K' hk h;exact h.elim
theorem iM (I:Nat->fV->eW->Prop)(m:Nat){b:AC}{L:fV}{h:eW}{K:AX->St->Prop}(h0:I m L h)
  (step:∀m L h,I m L h->vc P b ⟨L,[],h⟩ (uY I m K)):vc P (.aE b) ⟨L,[],h⟩ K:=by
 refine⟨λm s=>s.R=[]/\I m s.L s.h,⟨m,_,Wk.aA _,rfl,h0⟩,λm s hI=>?_⟩;obtain⟨L,R,h⟩:=s;obtain⟨hR,hI⟩:=hI;simp only at hR hI;subst hR;refine oY b ?_ (step m L h hI);intro x s hs;cases x with
 | aA=>obtain⟨m',h1,h2,h3⟩:=hs;exact⟨m',s,h1,Wk.aA _,h2,h3⟩
 | aD id=>exact hs
 | aC=>exact hs
theorem CV (st:St)(k:St->Prop):gU P [] st k=k st:=UE rfl rfl
theorem TE (d:jP)(ro:nR)(r:List AO)(st:St)(k:St->Prop):
  gU P (⟨d,.r ro,none⟩ :: r) st k=oR (gx st.aA st.h ro) (xm P d r st k):=by
 simp only[gU,mM];cases gx st.aA st.h ro<;>rfl
theorem TD (d:jP)(ho:nN)(r:List AO)(st:St)(k:St->Prop):
  gU P (⟨d,.h ho,none⟩ :: r) st k=oH (jX st.aA st.h ho) (tF P d r st k):=by
 simp only[gU,mM];cases jX st.aA st.h ho<;>rfl
theorem TA (d:jP)(f:FuncId)(args:List fB)(r:List AO)(st:St)(k:St->Prop):
  gU P (⟨d,.aC f args,none⟩ :: r) st k=mN P f (args.map st.aA) st.h (tF P d r st k):=UE rfl rfl
theorem TB (d:jP)(x:fB)(args:List fB)(r:List AO)(st:St)(k:St->Prop):
  gU P (⟨d,.aD x args,none⟩ :: r) st k=vH P (st.aA x) (args.map st.aA) st.h (tF P d r st k):=by
 simp only[gU,mM,vH];cases st.aA x<;>rfl
theorem TC (d:jP)(op:iV)(x:fB)(e:Bool)(r:List AO)(st:St)(k:St->Prop):
  gU P (⟨d,op,some (x,e)⟩ :: r) st k=ng P (st.aA x) e d op r st k:=by
 simp only[gU,ng];generalize hv:st.aA x=v;cases v<;>rfl
theorem OO (v:AV)(k:AV->Prop):oR (some v) k=k v:=UE rfl rfl
theorem OM (v:AV)(h:eW)(k:AV->eW->Prop):oH (some (v,h)) k=k v h:=UE rfl rfl
theorem Nw (r:List AO)(L R:fV)(h:eW)(k:St->Prop)(v:AV):xm P .aC r ⟨L,R,h⟩ k v=gU P r ⟨L,R,h⟩ k:=UE rfl rfl
theorem Nv (s:Nat)(r:List AO)(L R:fV)(h:eW)(k:St->Prop)(v:AV):xm P (.aA s) r ⟨L,R,h⟩ k v=gU P r ⟨kW s v L,R,h⟩ k:=UE rfl rfl
theorem Nx (s:Nat)(r:List AO)(L R:fV)(h:eW)(k:St->Prop)(v:AV):xm P (.aD s) r ⟨L,R,h⟩ k v=gU P r ⟨L,(s,v) :: R,h⟩ k:=UE rfl rfl
theorem Nu (r:List AO)(L R:fV)(h h':eW)(k:St->Prop)(v:AV):tF P .aC r ⟨L,R,h⟩ k v h'=gU P r ⟨L,R,h'⟩ k:=UE rfl rfl
theorem FT (s:Nat)(r:List AO)(L R:fV)(h h':eW)(k:St->Prop)(v:AV):tF P (.aA s) r ⟨L,R,h⟩ k v h'=gU P r ⟨kW s v L,R,h'⟩ k:=UE rfl rfl
theorem FU (s:Nat)(r:List AO)(L R:fV)(h h':eW)(k:St->Prop)(v:AV):tF P (.aD s) r ⟨L,R,h⟩ k v h'=gU P r ⟨L,(s,v) :: R,h'⟩ k:=UE rfl rfl
theorem Mr (s:Nat)(L R:fV)(h:eW):St.aA ⟨L,R,h⟩ (.aC s)=lk s L:=UE rfl rfl
theorem Mt (s:Nat)(L R:fV)(h:eW):St.aA ⟨L,R,h⟩ (.aD s)=lk s R:=UE rfl rfl
theorem Mp (v:AV)(st:St):st.aA (.aA v)=v:=UE rfl rfl
theorem Oc (s:Nat):lk s []=.aR:=UE rfl rfl
theorem h_ (s t:Nat)(v:AV)(r:fV):lk s ((t,v) :: r)=if t=s then v else lk s r:=UE rfl rfl
theorem Ud (d:jP)(op:iV)(r:List AO)(st:St)(k:St->Prop):ng P (.aE true) true d op r st k=gU P (⟨d,op,none⟩ :: r) st k:=by simp[ng]
theorem Ua (d:jP)(op:iV)(r:List AO)(st:St)(k:St->Prop):ng P (.aE false) false d op r st k=gU P (⟨d,op,none⟩ :: r) st k:=by simp[ng]
theorem Uc (d:jP)(op:iV)(r:List AO)(st:St)(k:St->Prop):ng P (.aE true) false d op r st k=gU P r (st.aC d (.aI [])) k:=by simp[ng]
theorem Ub (d:jP)(op:iV)(r:List AO)(st:St)(k:St->Prop):ng P (.aE false) true d op r st k=gU P r (st.aC d (.aI [])) k:=by simp[ng]
theorem Ue (cs:List AV)(e:Bool)(d:jP)(op:iV)(r:List AO)(st:St)(k:St->Prop):ng P (.aI cs) e d op r st k=gU P r (st.aC d (.aI [])) k:=UE rfl rfl
theorem Py (L R:fV)(h:eW)(v:AV):St.aC ⟨L,R,h⟩ .aC v=⟨L,R,h⟩:=UE rfl rfl
theorem Px (s:Nat)(L R:fV)(h:eW)(v:AV):St.aC ⟨L,R,h⟩ (.aA s) v=⟨kW s v L,R,h⟩:=UE rfl rfl
theorem Pz (s:Nat)(L R:fV)(h:eW)(v:AV):St.aC ⟨L,R,h⟩ (.aD s) v=⟨L,(s,v) :: R,h⟩:=UE rfl rfl
theorem tY {b:Bool}{d:jP}{op:iV}{r:List AO}{st:St}{k:St->Prop}(h1:b=true->gU P (⟨d,op,none⟩ :: r) st k)
  (h2:b=false->gU P r (st.aC d (.aI [])) k):ng P (.aE b) true d op r st k:=⟨h1,h2⟩
theorem HW {b:Bool}{d:jP}{op:iV}{r:List AO}{st:St}{k:St->Prop}(h1:b=false->gU P (⟨d,op,none⟩ :: r) st k)
  (h2:b=true->gU P r (st.aC d (.aI [])) k):ng P (.aE b) false d op r st k:=⟨h1,h2⟩
theorem TV (a b:AC)(st:St)(K:AX->St->Prop):oZ P (.aE true) a b st K=vc P a st K:=by simp[oZ]
theorem TU (a b:AC)(st:St)(K:AX->St->Prop):oZ P (.aE false) a b st K=vc P b st K:=by simp[oZ]
theorem iw {t:Bool}{a b:AC}{st:St}{K:AX->St->Prop}(h1:t=true->vc P a st K)(h2:t=false->vc P b st K):oZ P (.aE t) a b st K:=⟨h1,h2⟩
theorem fA {f:FuncId}{e:List AV}{h:eW}{K K':AV->eW->Prop}(hc:fP P f=true/\fC P f e h K')(hk:∀r h',K' r h'->K r h'):mN P f e h K:=
 ⟨hc.1,hc.2.aA hk⟩
theorem TT (f:FuncId)(fs cs args:List AV)(h:eW)(K:AV->eW->Prop):vH P (.aL f fs cs) args h K=mN P f (fs++args++cs) h K:=UE rfl rfl
def Nd:nR->Bool
 | .aA _ _ _=>true
 | _=>false
def FQ (fin:List (Nat×Nat))(L:fV)(K:AX->St->Prop):DS->Prop:=λd=>K .aA ⟨nX d.R fin L,[],d.h⟩
def Cc (masks:List Nat)(i j:Nat):Bool:=(masks.getD i 0).testBit j
def kF (P:Program)(dep:Nat->Nat->Bool)(lo k i:Nat)(r:List DO)(d:DS)(K:DS->Prop):AV->Prop:=λv=>gK P dep lo k r (d.aD i v) K
def FR (P:Program)(dep:Nat->Nat->Bool)(lo k i:Nat)(agg:Bool)(n:Nat)(x:AV)(r:List DO)(d:DS)(K:DS->Prop):AV->Prop:=λv=>gW lo k x=true/\gK P dep lo k r {d.aD i v with aE:=(i,x,agg,n,v) :: d.aE} K
def oL (o:Option (AV×e_))(k:AV->e_->Prop):Prop:=match o with
 | some (v,b)=>k v b
 | none=>False
def FP (P:Program)(dep:Nat->Nat->Bool)(lo k i nm:Nat)(r:List DO)(d:DS)(K:DS->Prop):AV->e_->Prop:=λv b=>gK P dep lo k r {d.aD i v with h:=d.h.set (lo+nm) (some b),aC:=(i,lo+nm,b) :: d.aC} K
def lN (dep:Nat->Nat->Bool)(i:Nat)(l:List (Nat×Nat×e_)):List (Nat×Nat×e_):=l.filter λx=>!dep i x.1
def tE (P:Program)(dep:Nat->Nat->Bool)(lo k i:Nat)(r:List DO)(d:DS)(K:DS->Prop):AV->eW->Prop:=λv h'=>mF dep lo k i d.aC h'=true/\pA dep i (j_ (lN dep i d.aC) h') d.aE/\gK P dep lo k r {d.aD i v with h:=j_ (lN dep i d.aC) h'} K
def om (P:Program)(dep:Nat->Nat->Bool)(lo k:Nat)(v:AV)(want:Bool)(i nm:Nat)(hv:Bool)(op:iV)(r:List DO)(d:DS)(K:DS->Prop):Prop:=
 match v with
 | .aE b=>(b=want->gK P dep lo k (⟨i,nm,hv,op,none⟩ :: r) d K)/\(b=(!want)->gK P dep lo k r (d.aD i (.aI [])) K)
 | .aI _=>gK P dep lo k r (d.aD i (.aI [])) K
 | _=>False
theorem TH (masks:List Nat)(k:Nat)(items:List DO)(fin:List (Nat×Nat))(L R:fV)(h:eW)(K:AX->St->Prop):
  vc P (.aJ ⟨masks,k,items,fin⟩) ⟨L,R,h⟩ K=gK P (Cc masks) h.length k items ⟨L,[],h++List.replicate k none,[],[]⟩ (FQ fin L K):=UE rfl rfl
theorem Nn (fin:List (Nat×Nat))(L L' R:fV)(h:eW)(p:List (Nat×AV×Bool×Nat×AV))(l:List (Nat×Nat×e_))(K:AX->St->Prop):FQ fin L K ⟨L',R,h,p,l⟩=K .aA ⟨nX R fin L,[],h⟩:=UE rfl rfl
theorem LW (R L:fV):nX R [] L=L:=UE rfl rfl
theorem LV (R L:fV)(t i:Nat)(r:List (Nat×Nat)):nX R ((t,i) :: r) L=nX R r (kW t (lk i R) L):=UE rfl rfl
section
variable {dep:Nat->Nat->Bool} {lo k i nm:Nat}
theorem Tq (d:DS)(K:DS->Prop):gK P dep lo k [] d K=K d:=UE rfl rfl
theorem kQ {ro:nR}(h:Nd ro=false)(r:List DO)(d:DS)(K:DS->Prop):gK P dep lo k (⟨i,nm,false,.r ro,none⟩ :: r) d K=oR (gx d.aA [] ro) (kF P dep lo k i r d K):=by
 simp only[gK,lu];cases ro with
 | aA=>cases h
 | _=>simp only;generalize gx d.aA [] _=o;cases o<;>rfl
theorem To (x:fB)(r:List DO)(d:DS)(K:DS->Prop):gK P dep lo k (⟨i,nm,false,.r (.aF x),none⟩ :: r) d K=oR (gx d.aA [] (.aF x)) (kF P dep lo k i r d K):=kQ rfl r d K
theorem Tu (c a b:fB)(r:List DO)(d:DS)(K:DS->Prop):gK P dep lo k (⟨i,nm,false,.r (.aR c a b),none⟩ :: r) d K=oR (gx d.aA [] (.aR c a b)) (kF P dep lo k i r d K):=kQ rfl r d K
theorem S9 (z:List AV)(ps:List (Nat×Nat×fB))(r:List DO)(d:DS)(K:DS->Prop):gK P dep lo k (⟨i,nm,false,.r (.aJ z ps),none⟩ :: r) d K=oR (gx d.aA [] (.aJ z ps)) (kF P dep lo k i r d K):=kQ rfl r d K
theorem Tc (x:fB)(r:List DO)(d:DS)(K:DS->Prop):gK P dep lo k (⟨i,nm,false,.r (.aK x),none⟩ :: r) d K=oR (gx d.aA [] (.aK x)) (kF P dep lo k i r d K):=kQ rfl r d K
theorem S8 (op:BinOp)(x y:fB)(r:List DO)(d:DS)(K:DS->Prop):gK P dep lo k (⟨i,nm,false,.r (.aI op x y),none⟩ :: r) d K=oR (gx d.aA [] (.aI op x y)) (kF P dep lo k i r d K):=kQ rfl r d K
theorem S7 (op:BinOp)(x y:fB)(r:List DO)(d:DS)(K:DS->Prop):gK P dep lo k (⟨i,nm,false,.r (.aH op x y),none⟩ :: r) d K=oR (gx d.aA [] (.aH op x y)) (kF P dep lo k i r d K):=kQ rfl r d K
theorem Tr (b:Bool)(x:fB)(r:List DO)(d:DS)(K:DS->Prop):gK P dep lo k (⟨i,nm,false,.r (.aG b x),none⟩ :: r) d K=oR (gx d.aA [] (.aG b x)) (kF P dep lo k i r d K):=kQ rfl r d K
theorem Ts (x:fB)(r:List DO)(d:DS)(K:DS->Prop):gK P dep lo k (⟨i,nm,false,.r (.aP x),none⟩ :: r) d K=oR (gx d.aA [] (.aP x)) (kF P dep lo k i r d K):=kQ rfl r d K
theorem Tp (x:fB)(r:List DO)(d:DS)(K:DS->Prop):gK P dep lo k (⟨i,nm,false,.r (.aO x),none⟩ :: r) d K=oR (gx d.aA [] (.aO x)) (kF P dep lo k i r d K):=kQ rfl r d K
theorem Te (q:IntKind)(x:fB)(r:List DO)(d:DS)(K:DS->Prop):gK P dep lo k (⟨i,nm,false,.r (.aL q x),none⟩ :: r) d K=oR (gx d.aA [] (.aL q x)) (kF P dep lo k i r d K):=kQ rfl r d K
theorem Tv (sz:Nat)(x:fB)(a b c:Option fB)(r:List DO)(d:DS)(K:DS->Prop):gK P dep lo k (⟨i,nm,false,.r (.aS sz x a b c),none⟩ :: r) d K=oR (gx d.aA [] (.aS sz x a b c)) (kF P dep lo k i r d K):=kQ rfl r d K
theorem Tt (o:Nat)(x:fB)(r:List DO)(d:DS)(K:DS->Prop):gK P dep lo k (⟨i,nm,false,.r (.aQ o x),none⟩ :: r) d K=oR (gx d.aA [] (.aQ o x)) (kF P dep lo k i r d K):=kQ rfl r d K
theorem Ti (sz:Nat)(x y:fB)(r:List DO)(d:DS)(K:DS->Prop):gK P dep lo k (⟨i,nm,false,.r (.aD sz x y),none⟩ :: r) d K=oR (gx d.aA [] (.aD sz x y)) (kF P dep lo k i r d K):=kQ rfl r d K
theorem Tf (x:fB)(j:Nat)(r:List DO)(d:DS)(K:DS->Prop):gK P dep lo k (⟨i,nm,false,.r (.aM x j),none⟩ :: r) d K=oR (gx d.aA [] (.aM x j)) (kF P dep lo k i r d K):=kQ rfl r d K
theorem Tj (x:fB)(r:List DO)(d:DS)(K:DS->Prop):gK P dep lo k (⟨i,nm,false,.r (.aN x),none⟩ :: r) d K=oR (gx d.aA [] (.aN x)) (kF P dep lo k i r d K):=kQ rfl r d K
theorem Tw (x:fB)(r:List DO)(d:DS)(K:DS->Prop):gK P dep lo k (⟨i,nm,false,.r (.aT x),none⟩ :: r) d K=oR (gx d.aA [] (.aT x)) (kF P dep lo k i r d K):=kQ rfl r d K
theorem Tm (b:Bool)(xs:List fB)(r:List DO)(d:DS)(K:DS->Prop):gK P dep lo k (⟨i,nm,false,.r (.aE b xs),none⟩ :: r) d K=oR (gx d.aA [] (.aE b xs)) (kF P dep lo k i r d K):=kQ rfl r d K
theorem Td (f:FuncId)(xs:List fB)(r:List DO)(d:DS)(K:DS->Prop):gK P dep lo k (⟨i,nm,false,.r (.aC f xs),none⟩ :: r) d K=oR (gx d.aA [] (.aC f xs)) (kF P dep lo k i r d K):=kQ rfl r d K
theorem Tx (o:sM)(r:List DO)(d:DS)(K:DS->Prop):gK P dep lo k (⟨i,nm,false,.r (.x o),none⟩ :: r) d K=oR (gx d.aA [] (.x o)) (kF P dep lo k i r d K):=kQ rfl r d K
theorem Tl (agg:Bool)(n:Nat)(x:fB)(r:List DO)(d:DS)(K:DS->Prop):
  gK P dep lo k (⟨i,nm,false,.r (.aA agg n x),none⟩ :: r) d K=oR (ir d.h agg n (d.aA x)) (FR P dep lo k i agg n (d.aA x) r d K):=by
 simp only[gK,lu];generalize ir d.h agg n (d.aA x)=o;cases o<;>rfl
theorem Tk (ho:nN)(r:List DO)(d:DS)(K:DS->Prop):gK P dep lo k (⟨i,nm,false,.h ho,none⟩ :: r) d K=oL (jy d.aA (lo+nm) ho) (FP P dep lo k i nm r d K):=by simp only[gK,lu];generalize jy d.aA (lo+nm) ho=o;cases o<;>rfl
theorem Th (ho:nN)(r:List DO)(d:DS)(K:DS->Prop):gK P dep lo k (⟨i,nm,true,.h ho,none⟩ :: r) d K=oH (jX d.aA (kl (lN dep i d.aC) d.h) ho) (tE P dep lo k i r d K):=by simp only[gK,lu];show (match jX d.aA (kl (lN dep i d.aC) d.h) ho with | some (v,h')=>_ | none=>False)=_;generalize jX d.aA (kl (lN dep i d.aC) d.h) ho=o;cases o<;>rfl
theorem S_ (f:FuncId)(args:List fB)(r:List DO)(d:DS)(K:DS->Prop):
  gK P dep lo k (⟨i,nm,true,.aC f args,none⟩ :: r) d K=mN P f (args.map d.aA) (kl (lN dep i d.aC) d.h) (tE P dep lo k i r d K):=UE rfl rfl
theorem Tb (x:fB)(args:List fB)(r:List DO)(d:DS)(K:DS->Prop):
  gK P dep lo k (⟨i,nm,true,.aD x args,none⟩ :: r) d K=vH P (d.aA x) (args.map d.aA) (kl (lN dep i d.aC) d.h) (tE P dep lo k i r d K):=by
 simp only[gK,lu,vH];cases d.aA x<;>rfl
theorem Tg (hv:Bool)(op:iV)(x:fB)(e:Bool)(r:List DO)(d:DS)(K:DS->Prop):
  gK P dep lo k (⟨i,nm,hv,op,some (x,e)⟩ :: r) d K=om P dep lo k (d.aA x) e i nm hv op r d K:=by
 simp only[gK,om];generalize d.aA x=v;cases v<;>rfl
theorem ON (v:AV)(b:e_)(k:AV->e_->Prop):oL (some (v,b)) k=k v b:=UE rfl rfl
theorem Np (r:List DO)(L R:fV)(h:eW)(p:List (Nat×AV×Bool×Nat×AV))(l:List (Nat×Nat×e_))(K:DS->Prop)(v:AV):
  kF P dep lo k i r ⟨L,R,h,p,l⟩ K v=gK P dep lo k r ⟨L,(i,v) :: R,h,p,l⟩ K:=UE rfl rfl
theorem No (agg:Bool)(n:Nat)(x:AV)(r:List DO)(L R:fV)(h:eW)(p:List (Nat×AV×Bool×Nat×AV))(l:List (Nat×Nat×e_))(K:DS->Prop)(v:AV):
  FR P dep lo k i agg n x r ⟨L,R,h,p,l⟩ K v=(gW lo k x=true/\gK P dep lo k r ⟨L,(i,v) :: R,h,(i,x,agg,n,v) :: p,l⟩ K):=UE rfl rfl
theorem Nm (r:List DO)(L R:fV)(h:eW)(p:List (Nat×AV×Bool×Nat×AV))(l:List (Nat×Nat×e_))(K:DS->Prop)(v:AV)(b:e_):
  FP P dep lo k i nm r ⟨L,R,h,p,l⟩ K v b=gK P dep lo k r ⟨L,(i,v) :: R,h.set (lo+nm) (some b),p,(i,lo+nm,b) :: l⟩ K:=UE rfl rfl
theorem Nl (r:List DO)(L R:fV)(h h':eW)(p:List (Nat×AV×Bool×Nat×AV))(l:List (Nat×Nat×e_))(K:DS->Prop)(v:AV):
  tE P dep lo k i r ⟨L,R,h,p,l⟩ K v h'=(mF dep lo k i l h'=true/\pA dep i (j_ (lN dep i l) h') p/\gK P dep lo k r ⟨L,(i,v) :: R,j_ (lN dep i l) h',p,l⟩ K):=UE rfl rfl
theorem iC (r:List DO)(L R:fV)(h h':eW)(p:List (Nat×AV×Bool×Nat×AV))(K:DS->Prop)(v:AV):
  tE P dep lo 0 i r ⟨L,R,h,p,[]⟩ K v h'=(pA dep i h' p/\gK P dep lo 0 r ⟨L,(i,v) :: R,h',p,[]⟩ K):=by
 simp[tE,lN,mF,j_,DS.aD]
theorem OJ (lo:Nat)(x:AV):gW lo 0 x=true:=by cases x<;>simp[gW];omega
theorem Lp (s:Nat)(L R:fV)(h:eW)(p:List (Nat×AV×Bool×Nat×AV))(l:List (Nat×Nat×e_)):DS.aA ⟨L,R,h,p,l⟩ (.aC s)=lk s L:=UE rfl rfl
theorem Lq (s:Nat)(L R:fV)(h:eW)(p:List (Nat×AV×Bool×Nat×AV))(l:List (Nat×Nat×e_)):DS.aA ⟨L,R,h,p,l⟩ (.aD s)=lk s R:=UE rfl rfl
theorem Lo (v:AV)(d:DS):d.aA (.aA v)=v:=UE rfl rfl
theorem SZ (i:Nat)(v:AV)(L R:fV)(h:eW)(p:List (Nat×AV×Bool×Nat×AV))(l:List (Nat×Nat×e_)):DS.aD ⟨L,R,h,p,l⟩ i v=⟨L,(i,v) :: R,h,p,l⟩:=UE rfl rfl
theorem Oe:lN dep i []=[]:=UE rfl rfl
theorem MO (h:eW):kl [] h=h:=UE rfl rfl
theorem Sl (h:eW):j_ [] h=h:=UE rfl rfl
theorem Jh (h:eW):pA dep i h []=True:=UE rfl rfl
theorem Jg (h:eW)(q:Nat)(x:AV)(agg:Bool)(n:Nat)(v:AV)(r:List (Nat×AV×Bool×Nat×AV)):
  pA dep i h ((q,x,agg,n,v) :: r)=((dep i q=true\/ir h agg n x=some v)/\pA dep i h r):=UE rfl rfl
theorem TZ (hv:Bool)(op:iV)(r:List DO)(d:DS)(K:DS->Prop):om P dep lo k (.aE true) true i nm hv op r d K=gK P dep lo k (⟨i,nm,hv,op,none⟩ :: r) d K:=by simp[om]
theorem TW (hv:Bool)(op:iV)(r:List DO)(d:DS)(K:DS->Prop):om P dep lo k (.aE false) false i nm hv op r d K=gK P dep lo k (⟨i,nm,hv,op,none⟩ :: r) d K:=by simp[om]
theorem TY (hv:Bool)(op:iV)(r:List DO)(d:DS)(K:DS->Prop):om P dep lo k (.aE true) false i nm hv op r d K=gK P dep lo k r (d.aD i (.aI [])) K:=by simp[om]
theorem TX (hv:Bool)(op:iV)(r:List DO)(d:DS)(K:DS->Prop):om P dep lo k (.aE false) true i nm hv op r d K=gK P dep lo k r (d.aD i (.aI [])) K:=by simp[om]
theorem T_ (cs:List AV)(e:Bool)(hv:Bool)(op:iV)(r:List DO)(d:DS)(K:DS->Prop):om P dep lo k (.aI cs) e i nm hv op r d K=gK P dep lo k r (d.aD i (.aI [])) K:=UE rfl rfl
end
theorem JN (res:List kh)(K:AV->eW->Prop)(st:St):i_ res K .aC st=(match lj st res with | some l=>K (pM l) st.h | none=>False):=UE rfl rfl
theorem JM (res:List kh)(K:AV->eW->Prop)(st:St):i_ res K .aA st=(match lj st res with | some l=>K (pM l) st.h | none=>False):=UE rfl rfl
end
mutual
def AV.aJ (k:Nat):AV->Bool
 | .aC n _ _ _=>decide (n<k)
 | .aG n _ _ _ _=>decide (n<k)
 | .aO t cs=>decide (t<=k) && AV.aP k cs
 | .aM t _ _ es=>(es.isEmpty || decide (t<=k)) && AV.aS k es
 | .aF cs=>AV.aP k cs
 | .aI cs=>AV.aP k cs
 | .aL _ fs cs=>AV.aP k fs && AV.aP k cs
 | .aT _ v=>AV.aJ k v
 | _=>true
def AV.aP (k:Nat):List AV->Bool
 | []=>true
 | v :: r=>AV.aJ k v && AV.aP k r
def AV.aS (k:Nat):List (List AV)->Bool
 | []=>true
 | v :: r=>AV.aP k v && AV.aS k r
end
theorem sU {k:Nat}:∀{cs:List AV},AV.aP k cs=true->∀(j:Nat)(c:AV),cs[j]?=some c->c.aJ k=true:=by
 intro cs;induction cs with
 | nil=>intro _ j c h;simp at h
 | cons v r ih=>
  intro h j c hj;simp only[AV.aP,US]at h;cases j with
  | zero=>simp at hj;subst hj;exact h.1
  | succ j=>exact ih h.2 j c (by simpa using hj)
theorem JZ {k:Nat}:∀{es:List (List AV)},AV.aS k es=true->∀(i j:Nat)(c:AV),gn es i j=some c->c.aJ k=true:=by
 intro es;induction es with
 | nil=>intro _ i j c h;simp[gn]at h
 | cons v r ih=>
  intro h i j c hj;simp only[AV.aS,US]at h;cases i with
  | zero=>simp[gn]at hj;exact sU h.1 j c hj
  | succ i=>exact ih h.2 i j c (by simpa [gn] using hj)
def Gh.aN (G:Gh)(k:Nat):Gh:={G with N:=k,aD:=λn=>G.aD n/\n<k,aF:=λn b=>G.aF n b/\n<k}
theorem Cw {G:Gh}{k t b:Nat}(ht:t<=k)(h:G.aL t b):(G.aN k).aL t b:=by
 cases t with
 | zero=>exact h
 | succ n=>exact⟨h,by omega⟩
theorem V.aV {G w av v k}(h:V G w av v)(hb:av.aJ k=true):V (G.aN k) w av v:=by
 induction h with
 | aI v=>exact .aI v
 | aF b=>exact .aF b
 | aC k n=>exact .aC k n
 | aQ s=>exact .aQ s
 | aP v=>exact .aP v
 | aO=>exact .aO
 | aL n sz i o b hn hl=>exact .aL n sz i o b (by simpa [AV.aJ,Gh.aN] using hb) hl
 | aN t cs b off f hp hc _ ih=>simp only[AV.aJ,US,Vb]at hb;exact .aN t cs b off f (Cw hb.1 hp) hc (λj c hj=>ih j c hj (sU hb.2 j c hj))
 | aD n sz off len cap c ty m b hn hl hle hcap hs hm=>exact .aD n sz off len cap c ty m b (by simpa [AV.aJ,Gh.aN] using hb) hl hle hcap hs hm
 | aH n sz cap hn hl hc=>exact .aH n sz cap (by simpa [AV.aJ,Gh.aN] using hb) hl hc
 | aE t clip sz es a cap f hl hcl hsp hp hes hc _ ih=>simp only[AV.aJ,US,VF,Vb,List.isEmpty_iff]at hb;exact .aE t clip sz es a cap f hl hcl hsp (λh=>Cw (hb.1.resolve_left h) (hp h)) hes hc (λi j c hj=>ih i j c hj (JZ hb.2 i j c hj))
 | aG t clip sz=>exact .aG t clip sz
 | aJ cs vs hl _ ih=>exact .aJ cs vs hl (λj c v hc hv=>ih j c v hc hv (sU (by simpa [AV.aJ] using hb) j c hc))
 | aM cs vs hl _ ih=>exact .aM cs vs hl (λj c v hc hv=>ih j c v hc hv (sU (by simpa [AV.aJ] using hb) j c hc))
 | aK f fs us cs vs hl _ hl' _ ih ih'=>simp only[AV.aJ,US]at hb;exact .aK f fs us cs vs hl (λj c v hc hv=>ih j c v hc hv (sU hb.1 j c hc)) hl' (λj c v hc hv=>ih' j c v hc hv (sU hb.2 j c hc))
 | aR t c v _ ih=>exact .aR t c v (ih (by simpa [AV.aJ] using hb))
theorem sV {k:Nat}:∀{cs:List AV},(∀(j:Nat)(c:AV),cs[j]?=some c->c.aJ k=true)->AV.aP k cs=true:=by
 intro cs;induction cs with
 | nil=>intro _;rfl
 | cons v r ih=>intro h;simp only[AV.aP,US];exact⟨h 0 v rfl,ih λj c hj=>h (j+1) c (by simpa using hj)⟩
theorem J3 {k:Nat}:∀{es:List (List AV)},(∀(i j:Nat)(c:AV),gn es i j=some c->c.aJ k=true)->AV.aS k es=true:=by
 intro es;induction es with
 | nil=>intro _;rfl
 | cons v r ih=>intro h;simp only[AV.aS,US];exact⟨sV λj c hj=>h 0 j c (by simpa [gn] using hj),ih λi j c hj=>h (i+1) j c (by simpa [gn] using hj)⟩
theorem fO.aS {G w h}(g:fO G w h){t b:Nat}(hp:G.aL t b):t<=G.N:=by
 cases t with
 | zero=>exact UK _
 | succ n=>exact g.aP (g.aE n b hp)
theorem V.aY {G w h}(g:fO G w h){av v}(hv:V G w av v):av.aJ G.N=true:=by
 induction hv with
 | aI v=>rfl
 | aF b=>rfl
 | aC k n=>rfl
 | aQ s=>rfl
 | aP v=>rfl
 | aO=>rfl
 | aL n sz i o b hn hl=>simpa [AV.aJ] using hn
 | aN t cs b off f hp hc _ ih=>simp only[AV.aJ,US,Vb];exact⟨g.aS hp,sV λj c hj=>ih j c hj⟩
 | aD n sz off len cap c ty m b hn hl hle hcap hs hm=>simpa [AV.aJ] using hn
 | aH n sz cap hn hl hc=>simpa [AV.aJ] using hn
 | aE t clip sz es a cap f hl hcl hsp hp hes hc _ ih=>
  simp only[AV.aJ,US,VF,Vb,List.isEmpty_iff];refine⟨?_,J3 λi j c hj=>ih i j c hj⟩;by_cases h:es=[];·exact .inl h
  ·exact .inr (g.aS (hp h))
 | aG t clip sz=>simp[AV.aJ,AV.aS]
 | aJ cs vs hl hv ih=>refine sV λj c hj=>?_;have hlt:=(Up.1 hj).1;exact ih j c _ hj (by simp[<-hl,hlt]:vs[j]?=some (vs[j]'(by omega)))
 | aM cs vs hl hv ih=>refine sV λj c hj=>?_;have hlt:=(Up.1 hj).1;exact ih j c _ hj (by simp[<-hl,hlt]:vs[j]?=some (vs[j]'(by omega)))
 | aK f fs us cs vs hl _ hl' _ ih ih'=>
  simp only[AV.aJ,US];refine⟨sV λj c hj=>?_,sV λj c hj=>?_⟩;·have hlt:=(Up.1 hj).1;exact ih j c _ hj (by simp[<-hl,hlt]:us[j]?=some (us[j]'(by omega)))
  ·have hlt:=(Up.1 hj).1;exact ih' j c _ hj (by simp[<-hl',hlt]:vs[j]?=some (vs[j]'(by omega)))
 | aR t c v _ ih=>exact ih
def eV (F:Nat->Prop)(h h':eW):Prop:=h.length<=h'.length/\∀m,m<h.length->¬F m->h'[m]?=h[m]?
def eY:Nat->Prop:=λ_=>False
theorem fO.bN {G w h G' w' h'} (g : fO G w h) (g' : fO G' w' h') (s : gy G w G' w') (hx : eV eY h h') : fO (G'.aN h.length) w' h /\ gy G w (G'.aN h.length) w' := by
  have hN : h.length = G.N := g.aA;have same : ∀ n, n < h.length -> h'[n]? = h[n]? := λn hn => hx.2 n hn (λx => x);have lt : ∀ {n : Nat} {x : Option e_}, h[n]? = some x -> n < h.length := λhn => (Up.1 hn).1;have k : ib G w (G'.aN h.length) w' := by refine ⟨Nat.le_of_eq hN.symm, λn b hn hb => s.aA.aA n b hn hb, λn hn hb => s.aA.aF n hn hb, λt b hp => ?_, s.aA.aD, s.aA.aE⟩;exact Cw (by rw [hN]; exact g.aS hp) (s.aA.aC t b hp)
  refine ⟨{ aA := rfl, aD := ?_, aE := ?_, inj := fun a b c h1 h2 => g'.inj a b c h1.1 h2.1, aF := fun a b c h1 hl h2 => g'.aF a b c h1.1 hl h2.1,
            aG := λa b h1 => g'.aG a b h1.1, aL := λa b c h1 h2 => g'.aL a b c h1.1 h2.1, aM := λa b h1 => g'.aM a b h1.1, aH := λa b h1 => g'.aH a b h1.1,
            aJ := g'.aJ, aC := ?_, aI := ?_, aK := g'.aK }, ?_⟩
  · intro n
    constructor
    · rintro ⟨hl, hn⟩
      obtain ⟨⟨a, b, c, hh⟩, hb⟩ := (g'.aD n).1 hl;exact ⟨⟨a, b, c, by rw [<- same n hn]; exact hh⟩, hb⟩
    · rintro ⟨⟨a, b, c, hh⟩, hb⟩
      have hn := lt hh;exact ⟨(g'.aD n).2 ⟨⟨a, b, c, by rw [same n hn]; exact hh⟩, hb⟩, hn⟩
  · rintro n b ⟨ht, hn⟩
    rw [<- same n hn]; exact g'.aE n b ht
  · intro n sz es gr b hh hb
    have hn := lt hh;obtain ⟨⟨cells, ty, hc, h1, h2, h3⟩, hs⟩ := g'.aC n sz es gr b (by rw [same n hn]; exact hh) hb;have e : G.aA n = some b := by rw [<- s.aF n (by omega)]; exact hb
    obtain ⟨⟨cells0, ty0, hc0, _, _, E⟩, _⟩ := g.aC n sz es gr b hh e;refine ⟨⟨cells, ty, hc, h1, h2, λi j c hj => ?_⟩, hs⟩;obtain ⟨v, hv, hV⟩ := h3 i j c hj;obtain ⟨v0, _, u⟩ := E i j c hj;exact ⟨v, hv, hV.aV (by rw [hN]; exact u.aY g)⟩
  · intro n sz es gr hh hb
    exact g'.aI n sz es gr (by rw [same n (lt hh)]; exact hh) hb
  · refine ⟨k, s.S, s.aF, s.aJ, s.aC, s.aE, λb hb => ?_, s.aH⟩
    refine s.aG b ?_;rcases hb with ⟨n, hn, hl⟩ | ⟨n, hn⟩
    · exact .inl ⟨n, hn.1, hl⟩
    · exact .inr ⟨n, hn.1⟩
theorem fC.aF {P:Program}{f:FuncId}{u:List AV}{h:eW}{K:AV->eW->Prop}{K':AV->Prop}(hc:fC P f u h K)
  (hk:∀r h',K r h'->eV eY h h'/\r.aJ h.length=true/\K' r):fC P f u h λr h'=>h'=h/\K' r:=by
 intro G w vs hg hv;refine (hc G w vs hg hv).mono ?_;rintro e w' ⟨v,r,h',G',rfl,hK,E,hV,hs⟩;obtain⟨hx,hb,I⟩:=hk r h' hK;obtain⟨g2,s2⟩:=hg.bN E hs hx;exact⟨v,r,h,_,rfl,⟨rfl,I⟩,g2,hV.aV hb,s2⟩
theorem eV.aC (F:Nat->Prop)(h:eW):eV F h h:=⟨Uy _,λ_ _ _=>rfl⟩
theorem eV.aF (F:Nat->Prop)(h x:eW):eV F h (h++x):=⟨by simp,λm hm _=>UZ hm⟩
theorem eV.aD {F F' F'':Nat->Prop}{h h1 h2:eW}(a:eV F h h1)(b:eV F' h1 h2)(hF:∀m,m<h.length->F m->F'' m)(e:∀m,m<h.length->F' m->F'' m):eV F'' h h2:=
 ⟨UH a.1 b.1,λm hm hn=>by rw[b.2 m (UM hm a.1) (λx=>hn (e m hm x)),a.2 m hm (λx=>hn (hF m hm x))]⟩
theorem eV.tr {h h1 h2:eW}(a:eV eY h h1)(b:eV eY h1 h2):eV eY h h2:=a.aD b (λ_ _ x=>x) (λ_ _ x=>x)
theorem eV.aI {F:Nat->Prop}{h:eW}{n:Nat}(x:Option e_)(hn:n<h.length->F n):eV F h (h.set n x):=
 ⟨by simp,λm hm hF=>Uq (by rintro rfl;exact hF (hn hm))⟩
theorem eV.aK {F F':Nat->Prop}{h h':eW}(a:eV F h h')(hF:∀m,m<h.length->F m->F' m):eV F' h h':=⟨a.1,λm hm hn=>a.2 m hm (λx=>hn (hF m hm x))⟩
theorem eV.aA {h h':eW}(a:eV eY h h'){n:Nat}{x:Option e_} (hn:h[n]?=some x):h'[n]?=some x:=by rw[a.2 n (Up.1 hn).1 (λx=>x)];exact hn
attribute [go_sem] reduceEqDiff reduceAdd reduceLeDiff reducePow reduceDiv reduceMod decide_true reduceIte
end Glb
