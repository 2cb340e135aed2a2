/-
  A library of its own.
-/
import Derived.Test.YtdeiamnhnfmilaaGreatGlbLibB
set_option linter.unusedSimpArgs false
set_option linter.unusedVariables false
open Nat (reduceAdd reduceDiv reduceEqDiff reduceLeDiff reduceMod reducePow)
namespace Glb
open Go
def VA:Value->Value->Bool
 | .pointer none,.pointer none=>true
 | .nilIface,.nilIface=>true
 | .nilFunc,.nilFunc=>true
 | .map none,.map none=>true
 | _,_=>false
mutual
def AV.aW:AV->AV->Bool
 | .aR,.aR=>true
 | .aE a,.aE b=>a == b
 | .aD k a,.aD l b=>decide (k=l) && decide (a=b)
 | .aQ a,.aQ b=>decide (a=b)
 | .aN a,.aN b=>VA a b
 | .aC,.aC=>true
 | .aA a b c d,.aA a' b' c' d'=>a == a' && b == b' && c == c' && d == d'
 | .aO t cs,.aO t' cs'=>t == t' && AV.aU cs cs'
 | .aG a b c d e,.aG a' b' c' d' e'=>a == a' && b == b' && c == c' && d == d' && decide (e=e')
 | .aM t c s es,.aM t' c' s' es'=>t == t' && c == c' && s == s' && AV.aX es es'
 | .aF cs,.aF cs'=>AV.aU cs cs'
 | .aI cs,.aI cs'=>AV.aU cs cs'
 | .aL f fs cs,.aL f' fs' cs'=>f == f' && AV.aU fs fs' && AV.aU cs cs'
 | .aT t v,.aT t' v'=>t == t' && AV.aW v v'
 | _,_=>false
def AV.aU:List AV->List AV->Bool
 | [],[]=>true
 | a :: r,b :: s=>AV.aW a b && AV.aU r s
 | _,_=>false
def AV.aX:List (List AV)->List (List AV)->Bool
 | [],[]=>true
 | a :: r,b :: s=>AV.aU a b && AV.aX r s
 | _,_=>false
end
section
variable {P:Program}
end
end Glb
namespace Glb
open Go Go.RowKit
def xF (W W':World):Prop:=W.keptBut W' (λ_=>False)/\(∀a,a.block<W.heap.size->W'.frozen? a=W.frozen? a)/\W.heap.size<=W'.heap.size
theorem xF.aA {W W':World}(h:xF W W')(may:MemPlace->Prop):W.keptBut W' may:=World.keptBut_mono (λ_ f=>f.elim) h.1
theorem gP.aL {G w G' w'}(s:gP G w G' w')(e:∀b,¬G.aI b):xF w w':=by
 refine⟨⟨s.aH.1,s.aH.2.1,λi hi=>?_⟩,s.aH.2.2.2,s.aC⟩;rw[s.aE i hi (e i)];cases w.heap[i]? with
 | none=>rfl
 | some o=>cases o<;>simp
def Is (P:Program)(f:FuncId)(c:fT):Prop:=rF P c.aD f=some c/\fZ P f=true
theorem gy {P : Program} {f : FuncId} {c : fT} {e : List AV} {h : fu} {K : AV -> fu -> Prop} (hf : Is P f c) (hk : vc P c.aA (pf c.aD e h) (iS c.aC K)) (hn : Nat.ble e.length c.n = true := by rfl) : fO P f e h K :=
 uM hf.1 (Yq hn) hk
section
variable {P:Program}
def oR:Option AV->(AV->Prop)->Prop
 | some v,k=>k v
 | none,_=>False
def oH:Option (AV×fu)->(AV->fu->Prop)->Prop
 | some (v,h),k=>k v h
 | none,_=>False
def uX (P:Program)(b:AC)(K:AX->St->Prop):AX->St->Prop
 | .aA,st=>vc P b st K
 | .aD id,st=>K (.aD id) st
 | .aC,st=>K .aC st
def za (K:AX->St->Prop):St->Prop:=λst=>K .aA ⟨st.L,[],st.h⟩
def kN (K:AX->St->Prop):St->Prop:=λst=>K .aA st
def wH (id:Nat)(K:AX->St->Prop):AX->St->Prop
 | .aA,st=>K .aA st
 | .aD id',st=>if id'=id then K .aA st else K (.aD id') st
 | .aC,st=>K .aC st
def wI (I:Nat->gx->fu->Prop)(m:Nat)(K:AX->St->Prop):AX->St->Prop
 | .aA,st=>∃m',m'<m/\st.R=[]/\I m' st.L st.h
 | .aD id,st=>K (.aD id) st
 | .aC,st=>K .aC st
def y_ (P:Program)(d:kC)(r:List AO)(st:St)(k:St->Prop):AV->Prop:=λv=>ig P r (st.aC d v) k
def uV (P:Program)(d:kC)(r:List AO)(st:St)(k:St->Prop):AV->fu->Prop:=λv h=>ig P r {st.aC d v with h:=h} k
def m9 (P:Program)(f:FuncId)(avs:List AV)(h:fu)(K:AV->fu->Prop):Prop:=fZ P f=true/\fO P f avs h K
def xm (P:Program)(x:AV)(args:List AV)(h:fu)(K:AV->fu->Prop):Prop:=
 match x with
 | .aL f fs cs=>m9 P f (fs++args++cs) h K
 | _=>False
def qc (P:Program)(v:AV)(a b:AC)(st:St)(K:AX->St->Prop):Prop:=
 match v with
 | .aE t=>(t=true->vc P a st K)/\(t=false->vc P b st K)
 | _=>False
def nY (P:Program)(v:AV)(want:Bool)(d:kC)(op:jB)(r:List AO)(st:St)(k:St->Prop):Prop:=
 match v with
 | .aE b=>(b=want->ig P (⟨d,op,none⟩ :: r) st k)/\(b=(!want)->ig P r (st.aC d (.aI [])) k)
 | .aI _=>ig P r (st.aC d (.aI [])) k
 | _=>False
theorem Wi (st:St)(K:AX->St->Prop):vc P .aJ st K=K .aA st:=W_ rfl rfl
theorem Wg (st:St)(K:AX->St->Prop):vc P .aM st K=K .aC st:=W_ rfl rfl
theorem We (id:Nat)(st:St)(K:AX->St->Prop):vc P (.aL id) st K=K (.aD id) st:=W_ rfl rfl
theorem Wf (ops:List AO)(st:St)(K:AX->St->Prop):vc P (.aH ops) st K=ig P ops st (za K):=W_ rfl rfl
theorem Wh (a b:AC)(st:St)(K:AX->St->Prop):vc P (.aA a b) st K=vc P a st (uX P b K):=by simp only[vc];congr 1;funext x st';cases x<;>rfl
theorem Wb (id:Nat)(b:AC)(st:St)(K:AX->St->Prop):vc P (.aF id b) st K=vc P b st (wH id K):=by simp only[vc];congr 1;funext x st';cases x<;>rfl
theorem Wc (c:fN)(a b:AC)(st:St)(K:AX->St->Prop):vc P (.aG c a b) st K=qc P (st.aA c) a b st K:=by simp only[vc,qc];generalize st.aA c=v;cases v<;>rfl
theorem Ik (b:AC)(K:AX->St->Prop)(st:St):uX P b K .aA st=vc P b st K:=W_ rfl rfl
theorem P5 (b:AC)(K:AX->St->Prop)(id:Nat)(st:St):uX P b K (.aD id) st=K (.aD id) st:=W_ rfl rfl
theorem P6 (b:AC)(K:AX->St->Prop)(st:St):uX P b K .aC st=K .aC st:=W_ rfl rfl
theorem PG (id:Nat)(K:AX->St->Prop)(st:St):wH id K .aA st=K .aA st:=W_ rfl rfl
theorem PF (id e:Nat)(K:AX->St->Prop)(st:St):wH id K (.aD e) st=if e=id then K .aA st else K (.aD e) st:=W_ rfl rfl
theorem PH (id:Nat)(K:AX->St->Prop)(st:St):wH id K .aC st=K .aC st:=W_ rfl rfl
theorem Ij (K:AX->St->Prop)(L R:gx)(h:fu):za K ⟨L,R,h⟩=K .aA ⟨L,[],h⟩:=W_ rfl rfl
theorem PT (K:AX->St->Prop)(st:St):kN K st=K .aA st:=W_ rfl rfl
theorem PR (I:Nat->gx->fu->Prop)(m:Nat)(K:AX->St->Prop)(L:gx)(h:fu):wI I m K .aA ⟨L,[],h⟩=∃m',m'<m/\I m' L h:=by simp[wI]
theorem PQ (I:Nat->gx->fu->Prop)(m:Nat)(K:AX->St->Prop)(id:Nat)(st:St):wI I m K (.aD id) st=K (.aD id) st:=W_ rfl rfl
theorem PS (I:Nat->gx->fu->Prop)(m:Nat)(K:AX->St->Prop)(st:St):wI I m K .aC st=K .aC st:=W_ rfl rfl
theorem Kc {o:AO}{st:St}{k k':St->Prop}(hk:∀s,k s->k' s)(h:nK P o st k):nK P o st k':=by
 unfold nK at h ⊢;split
 ·rename_i ro he;(try simp only[he]at h);split at h;·rename_i v hv;(try simp only[hv]);exact hk _ h
  ·exact h.elim
 ·rename_i ho he;(try simp only[he]at h);split at h;·rename_i v h' hv;(try simp only[hv]);exact hk _ h
  ·exact h.elim
 ·rename_i f args he;(try simp only[he]at h);exact⟨h.1,h.2.aA λ_ _ x=>hk _ x⟩
 ·rename_i x args he;(try simp only[he]at h);split at h;·rename_i f fs cs hx;(try simp only[hx]);exact⟨h.1,h.2.aA λ_ _ x=>hk _ x⟩
  ·exact h.elim
theorem EZ:∀(l:List AO){st:St}{k k':St->Prop},(∀s,k s->k' s)->ig P l st k->ig P l st k':=by
 intro l;induction l with
 | nil=>intro st k k' hk h;exact hk _ h
 | cons o r ih=>
  intro st k k' hk h;simp only[ig]at h ⊢;split;·rename_i hg;(try simp only[hg]at h);exact Kc (λs hs=>ih hk hs) h
  ·rename_i x want hg;try simp only[hg]at h;split at h;·rename_i b hb;(try simp only[hb]);exact⟨λe=>Kc (λs hs=>ih hk hs) (h.1 e),λe=>ih hk (h.2 e)⟩
   ·rename_i cs hb;(try simp only[hb]);exact ih hk h
   ·exact h.elim
theorem EX {dep:Nat->Nat->Bool}{lo n i:Nat}{d:DS}{xs:List (Nat×Nat×fC)}{v:AV}{h':fu}{k k':DS->Prop}(hk:∀s,k s->k' s)
  (h:vA dep lo n i d xs v h' k):vA dep lo n i d xs v h' k':=⟨h.1,h.2.1,hk _ h.2.2⟩
theorem Kb {dep:Nat->Nat->Bool}{lo n:Nat}{o:DO}{d:DS}{k k':DS->Prop}(hk:∀s,k s->k' s)(h:mq P dep lo n o d k):mq P dep lo n o d k':=by
 unfold mq at h ⊢;split<;>rename_i h1 h2<;>(try simp only[h1,h2]at h)
 ·split at h;·rename_i v hv;(try simp only[hv]);exact⟨h.1,hk _ h.2⟩
  ·exact h.elim
 ·rename_i hne;split at h;·rename_i v hv;(try simp only[hv]);exact hk _ h
  ·exact h.elim
 ·split at h;·rename_i v b hv;(try simp only[hv]);exact hk _ h
  ·exact h.elim
 ·split at h;·rename_i v h' hv;(try simp only[hv]);exact EX hk h
  ·exact h.elim
 ·exact⟨h.1,h.2.aA λ_ _ x=>EX hk x⟩
 ·split at h;·rename_i f fs cs hx;(try simp only[hx]);exact⟨h.1,h.2.aA λ_ _ x=>EX hk x⟩
  ·exact h.elim
theorem VS {dep:Nat->Nat->Bool}{lo n:Nat}:∀(l:List DO){d:DS}{k k':DS->Prop},(∀s,k s->k' s)->gX P dep lo n l d k->gX P dep lo n l d k':=by
 intro l;induction l with
 | nil=>intro d k k' hk h;exact hk _ h
 | cons o r ih=>
  intro d k k' hk h;simp only[gX]at h ⊢;split;·rename_i hg;(try simp only[hg]at h);exact Kb (λs hs=>ih hk hs) h
  ·rename_i x want hg;try simp only[hg]at h;split at h;·rename_i b hb;(try simp only[hb]);exact⟨λe=>Kb (λs hs=>ih hk hs) (h.1 e),λe=>ih hk (h.2 e)⟩
   ·rename_i cs hb;(try simp only[hb]);exact ih hk h
   ·exact h.elim
theorem qb:∀(c:AC){st:St}{K K':AX->St->Prop},(∀x s,K x s->K' x s)->vc P c st K->vc P c st K':=by
 intro c;induction c with
 | aJ=>intro st K K' hk h;exact hk _ _ h
 | aH ops=>intro st K K' hk h;exact EZ ops (λs hs=>hk _ _ hs) h
 | aI r=>intro st K K' hk h;exact VS r.aC (λs hs=>hk _ _ hs) h
 | aA a b iha ihb=>
  intro st K K' hk h;refine iha ?_ h;intro x s hs;cases x with
  | aA=>exact ihb hk hs
  | aD id=>exact hk _ _ hs
  | aC=>exact hk _ _ hs
 | aG c a b iha ihb=>
  intro st K K' hk h;simp only[vc]at h ⊢;split at h;·rename_i t ht;(try simp only[ht]);exact⟨λe=>iha hk (h.1 e),λe=>ihb hk (h.2 e)⟩
  ·exact h.elim
 | aF id b ih=>
  intro st K K' hk h;refine ih ?_ h;intro x s hs;cases x with
  | aA=>exact hk _ _ hs
  | aD id'=>
   simp only at hs ⊢;split<;>rename_i e;·rw[WW e]at hs;exact hk _ _ hs
   ·rw[WY e]at hs;exact hk _ _ hs
  | aC=>exact hk _ _ hs
 | aD b ih=>
  rintro st K K' hk ⟨I,h0,u⟩;refine⟨I,h0,λm s hI=>ih ?_ (u m s hI)⟩;intro x s hs;cases x with
  | aA=>exact hs
  | aD id=>exact hk _ _ hs
  | aC=>exact hk _ _ hs
 | aL id=>intro st K K' hk h;exact hk _ _ h
 | aM=>intro st K K' hk h;exact hk _ _ h
 | aK=>intro st K K' hk h;exact h.elim
theorem iP (I:Nat->gx->fu->Prop)(m:Nat){b:AC}{L:gx}{h:fu}{K:AX->St->Prop}(h0:I m L h)
  (step:∀m L h,I m L h->vc P b ⟨L,[],h⟩ (wI I m K)):vc P (.aD b) ⟨L,[],h⟩ K:=by
 refine⟨λm s=>s.R=[]/\I m s.L s.h,⟨m,_,Wk.aA _,rfl,h0⟩,λm s hI=>?_⟩;obtain⟨L,R,h⟩:=s;obtain⟨hR,hI⟩:=hI;simp only at hR hI;subst hR;refine qb b ?_ (step m L h hI);intro x s hs;cases x with
 | aA=>obtain⟨m',h1,h2,h3⟩:=hs;exact⟨m',s,h1,Wk.aA _,h2,h3⟩
 | aD id=>exact hs
 | aC=>exact hs
theorem Kd (st:St)(k:St->Prop):ig P [] st k=k st:=W_ rfl rfl
theorem Wa (d:kC)(ro:oQ)(r:List AO)(st:St)(k:St->Prop):
  ig P (⟨d,.r ro,none⟩ :: r) st k=oR (gM st.aA st.h ro) (y_ P d r st k):=by
 simp only[ig,nK];cases gM st.aA st.h ro<;>rfl
theorem V_ (d:kC)(ho:oK)(r:List AO)(st:St)(k:St->Prop):
  ig P (⟨d,.h ho,none⟩ :: r) st k=oH (kP st.aA st.h ho) (uV P d r st k):=by
 simp only[ig,nK];cases kP st.aA st.h ho<;>rfl
theorem V7 (d:kC)(f:FuncId)(args:List fN)(r:List AO)(st:St)(k:St->Prop):
  ig P (⟨d,.aC f args,none⟩ :: r) st k=m9 P f (args.map st.aA) st.h (uV P d r st k):=W_ rfl rfl
theorem V8 (d:kC)(x:fN)(args:List fN)(r:List AO)(st:St)(k:St->Prop):
  ig P (⟨d,.aD x args,none⟩ :: r) st k=xm P (st.aA x) (args.map st.aA) st.h (uV P d r st k):=by
 simp only[ig,nK,xm];cases st.aA x<;>rfl
theorem V9 (d:kC)(op:jB)(x:fN)(e:Bool)(r:List AO)(st:St)(k:St->Prop):
  ig P (⟨d,op,some (x,e)⟩ :: r) st k=nY P (st.aA x) e d op r st k:=by
 simp only[ig,nY];generalize hv:st.aA x=v;cases v<;>rfl
theorem Rk (v:AV)(k:AV->Prop):oR (some v) k=k v:=W_ rfl rfl
theorem Ri (v:AV)(h:fu)(k:AV->fu->Prop):oH (some (v,h)) k=k v h:=W_ rfl rfl
theorem PX (r:List AO)(L R:gx)(h:fu)(k:St->Prop)(v:AV):y_ P .aC r ⟨L,R,h⟩ k v=ig P r ⟨L,R,h⟩ k:=W_ rfl rfl
theorem PW (s:Nat)(r:List AO)(L R:gx)(h:fu)(k:St->Prop)(v:AV):y_ P (.aA s) r ⟨L,R,h⟩ k v=ig P r ⟨nT s v L,R,h⟩ k:=W_ rfl rfl
theorem PY (s:Nat)(r:List AO)(L R:gx)(h:fu)(k:St->Prop)(v:AV):y_ P (.aD s) r ⟨L,R,h⟩ k v=ig P r ⟨L,(s,v) :: R,h⟩ k:=W_ rfl rfl
theorem PU (r:List AO)(L R:gx)(h h':fu)(k:St->Prop)(v:AV):uV P .aC r ⟨L,R,h⟩ k v h'=ig P r ⟨L,R,h'⟩ k:=W_ rfl rfl
theorem Ii (s:Nat)(r:List AO)(L R:gx)(h h':fu)(k:St->Prop)(v:AV):uV P (.aA s) r ⟨L,R,h⟩ k v h'=ig P r ⟨nT s v L,R,h'⟩ k:=W_ rfl rfl
theorem PV (s:Nat)(r:List AO)(L R:gx)(h h':fu)(k:St->Prop)(v:AV):uV P (.aD s) r ⟨L,R,h⟩ k v h'=ig P r ⟨L,(s,v) :: R,h'⟩ k:=W_ rfl rfl
theorem OX (s:Nat)(L R:gx)(h:fu):St.aA ⟨L,R,h⟩ (.aC s)=lk s L:=W_ rfl rfl
theorem OZ (s:Nat)(L R:gx)(h:fu):St.aA ⟨L,R,h⟩ (.aD s)=lk s R:=W_ rfl rfl
theorem OV (v:AV)(st:St):st.aA (.aA v)=v:=W_ rfl rfl
theorem QH (s:Nat):lk s []=.aR:=W_ rfl rfl
theorem iw (s t:Nat)(v:AV)(r:gx):lk s ((t,v) :: r)=if t=s then v else lk s r:=W_ rfl rfl
theorem WC (d:kC)(op:jB)(r:List AO)(st:St)(k:St->Prop):nY P (.aE true) true d op r st k=ig P (⟨d,op,none⟩ :: r) st k:=by simp[nY]
theorem Wz (d:kC)(op:jB)(r:List AO)(st:St)(k:St->Prop):nY P (.aE false) false d op r st k=ig P (⟨d,op,none⟩ :: r) st k:=by simp[nY]
theorem WB (d:kC)(op:jB)(r:List AO)(st:St)(k:St->Prop):nY P (.aE true) false d op r st k=ig P r (st.aC d (.aI [])) k:=by simp[nY]
theorem WA (d:kC)(op:jB)(r:List AO)(st:St)(k:St->Prop):nY P (.aE false) true d op r st k=ig P r (st.aC d (.aI [])) k:=by simp[nY]
theorem WD (cs:List AV)(e:Bool)(d:kC)(op:jB)(r:List AO)(st:St)(k:St->Prop):nY P (.aI cs) e d op r st k=ig P r (st.aC d (.aI [])) k:=W_ rfl rfl
theorem Si (L R:gx)(h:fu)(v:AV):St.aC ⟨L,R,h⟩ .aC v=⟨L,R,h⟩:=W_ rfl rfl
theorem Sh (s:Nat)(L R:gx)(h:fu)(v:AV):St.aC ⟨L,R,h⟩ (.aA s) v=⟨nT s v L,R,h⟩:=W_ rfl rfl
theorem Sj (s:Nat)(L R:gx)(h:fu)(v:AV):St.aC ⟨L,R,h⟩ (.aD s) v=⟨L,(s,v) :: R,h⟩:=W_ rfl rfl
theorem vB {b:Bool}{d:kC}{op:jB}{r:List AO}{st:St}{k:St->Prop}(h1:b=true->ig P (⟨d,op,none⟩ :: r) st k)
  (h2:b=false->ig P r (st.aC d (.aI [])) k):nY P (.aE b) true d op r st k:=⟨h1,h2⟩
theorem Kg {b:Bool}{d:kC}{op:jB}{r:List AO}{st:St}{k:St->Prop}(h1:b=false->ig P (⟨d,op,none⟩ :: r) st k)
  (h2:b=true->ig P r (st.aC d (.aI [])) k):nY P (.aE b) false d op r st k:=⟨h1,h2⟩
theorem Wt (a b:AC)(st:St)(K:AX->St->Prop):qc P (.aE true) a b st K=vc P a st K:=by simp[qc]
theorem Ws (a b:AC)(st:St)(K:AX->St->Prop):qc P (.aE false) a b st K=vc P b st K:=by simp[qc]
theorem iQ {t:Bool}{a b:AC}{st:St}{K:AX->St->Prop}(h1:t=true->vc P a st K)(h2:t=false->vc P b st K):qc P (.aE t) a b st K:=⟨h1,h2⟩
theorem fK {f:FuncId}{e:List AV}{h:fu}{K K':AV->fu->Prop}(hc:fZ P f=true/\fO P f e h K')(hk:∀r h',K' r h'->K r h'):m9 P f e h K:=
 ⟨hc.1,hc.2.aA hk⟩
theorem Wr (f:FuncId)(fs cs args:List AV)(h:fu)(K:AV->fu->Prop):xm P (.aL f fs cs) args h K=m9 P f (fs++args++cs) h K:=W_ rfl rfl
def PD:oQ->Bool
 | .aA _ _ _=>true
 | _=>false
def Ig (fin:List (Nat×Nat))(L:gx)(K:AX->St->Prop):DS->Prop:=λd=>K .aA ⟨o8 d.R fin L,[],d.h⟩
def D7 (masks:List Nat)(i j:Nat):Bool:=(masks.getD i 0).testBit j
def lG (P:Program)(dep:Nat->Nat->Bool)(lo k i:Nat)(r:List DO)(d:DS)(K:DS->Prop):AV->Prop:=λv=>gX P dep lo k r (d.aD i v) K
def Ih (P:Program)(dep:Nat->Nat->Bool)(lo k i:Nat)(agg:Bool)(n:Nat)(x:AV)(r:List DO)(d:DS)(K:DS->Prop):AV->Prop:=λv=>ij lo k x=true/\gX P dep lo k r {d.aD i v with aE:=(i,x,agg,n,v) :: d.aE} K
def oL (o:Option (AV×fC))(k:AV->fC->Prop):Prop:=match o with
 | some (v,b)=>k v b
 | none=>False
def Ie (P:Program)(dep:Nat->Nat->Bool)(lo k i nm:Nat)(r:List DO)(d:DS)(K:DS->Prop):AV->fC->Prop:=λv b=>gX P dep lo k r {d.aD i v with h:=d.h.set (lo+nm) (some b),aC:=(i,lo+nm,b) :: d.aC} K
def mF (dep:Nat->Nat->Bool)(i:Nat)(l:List (Nat×Nat×fC)):List (Nat×Nat×fC):=l.filter λx=>!dep i x.1
def uU (P:Program)(dep:Nat->Nat->Bool)(lo k i:Nat)(r:List DO)(d:DS)(K:DS->Prop):AV->fu->Prop:=λv h'=>nv dep lo k i d.aC h'=true/\qw dep i (kS (mF dep i d.aC) h') d.aE/\gX P dep lo k r {d.aD i v with h:=kS (mF dep i d.aC) h'} K
def pG (P:Program)(dep:Nat->Nat->Bool)(lo k:Nat)(v:AV)(want:Bool)(i nm:Nat)(hv:Bool)(op:jB)(r:List DO)(d:DS)(K:DS->Prop):Prop:=
 match v with
 | .aE b=>(b=want->gX P dep lo k (⟨i,nm,hv,op,none⟩ :: r) d K)/\(b=(!want)->gX P dep lo k r (d.aD i (.aI [])) K)
 | .aI _=>gX P dep lo k r (d.aD i (.aI [])) K
 | _=>False
theorem Wd (masks:List Nat)(k:Nat)(items:List DO)(fin:List (Nat×Nat))(L R:gx)(h:fu)(K:AX->St->Prop):
  vc P (.aI ⟨masks,k,items,fin⟩) ⟨L,R,h⟩ K=gX P (D7 masks) h.length k items ⟨L,[],h++List.replicate k none,[],[]⟩ (Ig fin L K):=W_ rfl rfl
theorem PM (fin:List (Nat×Nat))(L L' R:gx)(h:fu)(p:List (Nat×AV×Bool×Nat×AV))(l:List (Nat×Nat×fC))(K:AX->St->Prop):Ig fin L K ⟨L',R,h,p,l⟩=K .aA ⟨o8 R fin L,[],h⟩:=W_ rfl rfl
theorem Ou (R L:gx):o8 R [] L=L:=W_ rfl rfl
theorem Ot (R L:gx)(t i:Nat)(r:List (Nat×Nat)):o8 R ((t,i) :: r) L=o8 R r (nT t (lk i R) L):=W_ rfl rfl
section
variable {dep:Nat->Nat->Bool} {lo k i nm:Nat}
theorem VV (d:DS)(K:DS->Prop):gX P dep lo k [] d K=K d:=W_ rfl rfl
theorem lR {ro:oQ}(h:PD ro=false)(r:List DO)(d:DS)(K:DS->Prop):gX P dep lo k (⟨i,nm,false,.r ro,none⟩ :: r) d K=oR (gM d.aA [] ro) (lG P dep lo k i r d K):=by
 simp only[gX,mq];cases ro with
 | aA=>cases h
 | _=>simp only;generalize gM d.aA [] _=o;cases o<;>rfl
theorem VT (x:fN)(r:List DO)(d:DS)(K:DS->Prop):gX P dep lo k (⟨i,nm,false,.r (.aF x),none⟩ :: r) d K=oR (gM d.aA [] (.aF x)) (lG P dep lo k i r d K):=lR rfl r d K
theorem VZ (c a b:fN)(r:List DO)(d:DS)(K:DS->Prop):gX P dep lo k (⟨i,nm,false,.r (.aR c a b),none⟩ :: r) d K=oR (gM d.aA [] (.aR c a b)) (lG P dep lo k i r d K):=lR rfl r d K
theorem VD (z:List AV)(ps:List (Nat×Nat×fN))(r:List DO)(d:DS)(K:DS->Prop):gX P dep lo k (⟨i,nm,false,.r (.aJ z ps),none⟩ :: r) d K=oR (gM d.aA [] (.aJ z ps)) (lG P dep lo k i r d K):=lR rfl r d K
theorem VG (x:fN)(r:List DO)(d:DS)(K:DS->Prop):gX P dep lo k (⟨i,nm,false,.r (.aK x),none⟩ :: r) d K=oR (gM d.aA [] (.aK x)) (lG P dep lo k i r d K):=lR rfl r d K
theorem VC (op:BinOp)(x y:fN)(r:List DO)(d:DS)(K:DS->Prop):gX P dep lo k (⟨i,nm,false,.r (.aI op x y),none⟩ :: r) d K=oR (gM d.aA [] (.aI op x y)) (lG P dep lo k i r d K):=lR rfl r d K
theorem VB (op:BinOp)(x y:fN)(r:List DO)(d:DS)(K:DS->Prop):gX P dep lo k (⟨i,nm,false,.r (.aH op x y),none⟩ :: r) d K=oR (gM d.aA [] (.aH op x y)) (lG P dep lo k i r d K):=lR rfl r d K
theorem VW (b:Bool)(x:fN)(r:List DO)(d:DS)(K:DS->Prop):gX P dep lo k (⟨i,nm,false,.r (.aG b x),none⟩ :: r) d K=oR (gM d.aA [] (.aG b x)) (lG P dep lo k i r d K):=lR rfl r d K
theorem VX (x:fN)(r:List DO)(d:DS)(K:DS->Prop):gX P dep lo k (⟨i,nm,false,.r (.aP x),none⟩ :: r) d K=oR (gM d.aA [] (.aP x)) (lG P dep lo k i r d K):=lR rfl r d K
theorem VU (x:fN)(r:List DO)(d:DS)(K:DS->Prop):gX P dep lo k (⟨i,nm,false,.r (.aO x),none⟩ :: r) d K=oR (gM d.aA [] (.aO x)) (lG P dep lo k i r d K):=lR rfl r d K
theorem VI (q:IntKind)(x:fN)(r:List DO)(d:DS)(K:DS->Prop):gX P dep lo k (⟨i,nm,false,.r (.aL q x),none⟩ :: r) d K=oR (gM d.aA [] (.aL q x)) (lG P dep lo k i r d K):=lR rfl r d K
theorem V0 (sz:Nat)(x:fN)(a b c:Option fN)(r:List DO)(d:DS)(K:DS->Prop):gX P dep lo k (⟨i,nm,false,.r (.aS sz x a b c),none⟩ :: r) d K=oR (gM d.aA [] (.aS sz x a b c)) (lG P dep lo k i r d K):=lR rfl r d K
theorem VY (o:Nat)(x:fN)(r:List DO)(d:DS)(K:DS->Prop):gX P dep lo k (⟨i,nm,false,.r (.aQ o x),none⟩ :: r) d K=oR (gM d.aA [] (.aQ o x)) (lG P dep lo k i r d K):=lR rfl r d K
theorem VN (sz:Nat)(x y:fN)(r:List DO)(d:DS)(K:DS->Prop):gX P dep lo k (⟨i,nm,false,.r (.aD sz x y),none⟩ :: r) d K=oR (gM d.aA [] (.aD sz x y)) (lG P dep lo k i r d K):=lR rfl r d K
theorem VJ (x:fN)(j:Nat)(r:List DO)(d:DS)(K:DS->Prop):gX P dep lo k (⟨i,nm,false,.r (.aM x j),none⟩ :: r) d K=oR (gM d.aA [] (.aM x j)) (lG P dep lo k i r d K):=lR rfl r d K
theorem VO (x:fN)(r:List DO)(d:DS)(K:DS->Prop):gX P dep lo k (⟨i,nm,false,.r (.aN x),none⟩ :: r) d K=oR (gM d.aA [] (.aN x)) (lG P dep lo k i r d K):=lR rfl r d K
theorem V4 (x:fN)(r:List DO)(d:DS)(K:DS->Prop):gX P dep lo k (⟨i,nm,false,.r (.aT x),none⟩ :: r) d K=oR (gM d.aA [] (.aT x)) (lG P dep lo k i r d K):=lR rfl r d K
theorem VR (b:Bool)(xs:List fN)(r:List DO)(d:DS)(K:DS->Prop):gX P dep lo k (⟨i,nm,false,.r (.aE b xs),none⟩ :: r) d K=oR (gM d.aA [] (.aE b xs)) (lG P dep lo k i r d K):=lR rfl r d K
theorem VH (f:FuncId)(xs:List fN)(r:List DO)(d:DS)(K:DS->Prop):gX P dep lo k (⟨i,nm,false,.r (.aC f xs),none⟩ :: r) d K=oR (gM d.aA [] (.aC f xs)) (lG P dep lo k i r d K):=lR rfl r d K
theorem V5 (o:uq)(r:List DO)(d:DS)(K:DS->Prop):gX P dep lo k (⟨i,nm,false,.r (.x o),none⟩ :: r) d K=oR (gM d.aA [] (.x o)) (lG P dep lo k i r d K):=lR rfl r d K
theorem VQ (agg:Bool)(n:Nat)(x:fN)(r:List DO)(d:DS)(K:DS->Prop):
  gX P dep lo k (⟨i,nm,false,.r (.aA agg n x),none⟩ :: r) d K=oR (iK d.h agg n (d.aA x)) (Ih P dep lo k i agg n (d.aA x) r d K):=by
 simp only[gX,mq];generalize iK d.h agg n (d.aA x)=o;cases o<;>rfl
theorem VP (ho:oK)(r:List DO)(d:DS)(K:DS->Prop):gX P dep lo k (⟨i,nm,false,.h ho,none⟩ :: r) d K=oL (jT d.aA (lo+nm) ho) (Ie P dep lo k i nm r d K):=by simp only[gX,mq];generalize jT d.aA (lo+nm) ho=o;cases o<;>rfl
theorem VM (ho:oK)(r:List DO)(d:DS)(K:DS->Prop):gX P dep lo k (⟨i,nm,true,.h ho,none⟩ :: r) d K=oH (kP d.aA (kV (mF dep i d.aC) d.h) ho) (uU P dep lo k i r d K):=by simp only[gX,mq];show (match kP d.aA (kV (mF dep i d.aC) d.h) ho with | some (v,h')=>_ | none=>False)=_;generalize kP d.aA (kV (mF dep i d.aC) d.h) ho=o;cases o<;>rfl
theorem VE (f:FuncId)(args:List fN)(r:List DO)(d:DS)(K:DS->Prop):
  gX P dep lo k (⟨i,nm,true,.aC f args,none⟩ :: r) d K=m9 P f (args.map d.aA) (kV (mF dep i d.aC) d.h) (uU P dep lo k i r d K):=W_ rfl rfl
theorem VF (x:fN)(args:List fN)(r:List DO)(d:DS)(K:DS->Prop):
  gX P dep lo k (⟨i,nm,true,.aD x args,none⟩ :: r) d K=xm P (d.aA x) (args.map d.aA) (kV (mF dep i d.aC) d.h) (uU P dep lo k i r d K):=by
 simp only[gX,mq,xm];cases d.aA x<;>rfl
theorem VK (hv:Bool)(op:jB)(x:fN)(e:Bool)(r:List DO)(d:DS)(K:DS->Prop):
  gX P dep lo k (⟨i,nm,hv,op,some (x,e)⟩ :: r) d K=pG P dep lo k (d.aA x) e i nm hv op r d K:=by
 simp only[gX,pG];generalize d.aA x=v;cases v<;>rfl
theorem Rj (v:AV)(b:fC)(k:AV->fC->Prop):oL (some (v,b)) k=k v b:=W_ rfl rfl
theorem PO (r:List DO)(L R:gx)(h:fu)(p:List (Nat×AV×Bool×Nat×AV))(l:List (Nat×Nat×fC))(K:DS->Prop)(v:AV):
  lG P dep lo k i r ⟨L,R,h,p,l⟩ K v=gX P dep lo k r ⟨L,(i,v) :: R,h,p,l⟩ K:=W_ rfl rfl
theorem PN (agg:Bool)(n:Nat)(x:AV)(r:List DO)(L R:gx)(h:fu)(p:List (Nat×AV×Bool×Nat×AV))(l:List (Nat×Nat×fC))(K:DS->Prop)(v:AV):
  Ih P dep lo k i agg n x r ⟨L,R,h,p,l⟩ K v=(ij lo k x=true/\gX P dep lo k r ⟨L,(i,v) :: R,h,(i,x,agg,n,v) :: p,l⟩ K):=W_ rfl rfl
theorem PL (r:List DO)(L R:gx)(h:fu)(p:List (Nat×AV×Bool×Nat×AV))(l:List (Nat×Nat×fC))(K:DS->Prop)(v:AV)(b:fC):
  Ie P dep lo k i nm r ⟨L,R,h,p,l⟩ K v b=gX P dep lo k r ⟨L,(i,v) :: R,h.set (lo+nm) (some b),p,(i,lo+nm,b) :: l⟩ K:=W_ rfl rfl
theorem PK (r:List DO)(L R:gx)(h h':fu)(p:List (Nat×AV×Bool×Nat×AV))(l:List (Nat×Nat×fC))(K:DS->Prop)(v:AV):
  uU P dep lo k i r ⟨L,R,h,p,l⟩ K v h'=(nv dep lo k i l h'=true/\qw dep i (kS (mF dep i l) h') p/\gX P dep lo k r ⟨L,(i,v) :: R,kS (mF dep i l) h',p,l⟩ K):=W_ rfl rfl
theorem iY (r:List DO)(L R:gx)(h h':fu)(p:List (Nat×AV×Bool×Nat×AV))(K:DS->Prop)(v:AV):
  uU P dep lo 0 i r ⟨L,R,h,p,[]⟩ K v h'=(qw dep i h' p/\gX P dep lo 0 r ⟨L,(i,v) :: R,h',p,[]⟩ K):=by
 simp[uU,mF,nv,kS,DS.aD]
theorem Rf (lo:Nat)(x:AV):ij lo 0 x=true:=by cases x<;>simp[ij];omega
theorem NW (s:Nat)(L R:gx)(h:fu)(p:List (Nat×AV×Bool×Nat×AV))(l:List (Nat×Nat×fC)):DS.aA ⟨L,R,h,p,l⟩ (.aC s)=lk s L:=W_ rfl rfl
theorem NX (s:Nat)(L R:gx)(h:fu)(p:List (Nat×AV×Bool×Nat×AV))(l:List (Nat×Nat×fC)):DS.aA ⟨L,R,h,p,l⟩ (.aD s)=lk s R:=W_ rfl rfl
theorem NV (v:AV)(d:DS):d.aA (.aA v)=v:=W_ rfl rfl
theorem Vz (i:Nat)(v:AV)(L R:gx)(h:fu)(p:List (Nat×AV×Bool×Nat×AV))(l:List (Nat×Nat×fC)):DS.aD ⟨L,R,h,p,l⟩ i v=⟨L,(i,v) :: R,h,p,l⟩:=W_ rfl rfl
theorem QK:mF dep i []=[]:=W_ rfl rfl
theorem Pn (h:fu):kV [] h=h:=W_ rfl rfl
theorem U0 (h:fu):kS [] h=h:=W_ rfl rfl
theorem Ls (h:fu):qw dep i h []=True:=W_ rfl rfl
theorem Lr (h:fu)(q:Nat)(x:AV)(agg:Bool)(n:Nat)(v:AV)(r:List (Nat×AV×Bool×Nat×AV)):
  qw dep i h ((q,x,agg,n,v) :: r)=((dep i q=true\/iK h agg n x=some v)/\qw dep i h r):=W_ rfl rfl
theorem Wx (hv:Bool)(op:jB)(r:List DO)(d:DS)(K:DS->Prop):pG P dep lo k (.aE true) true i nm hv op r d K=gX P dep lo k (⟨i,nm,hv,op,none⟩ :: r) d K:=by simp[pG]
theorem Wu (hv:Bool)(op:jB)(r:List DO)(d:DS)(K:DS->Prop):pG P dep lo k (.aE false) false i nm hv op r d K=gX P dep lo k (⟨i,nm,hv,op,none⟩ :: r) d K:=by simp[pG]
theorem Ww (hv:Bool)(op:jB)(r:List DO)(d:DS)(K:DS->Prop):pG P dep lo k (.aE true) false i nm hv op r d K=gX P dep lo k r (d.aD i (.aI [])) K:=by simp[pG]
theorem Wv (hv:Bool)(op:jB)(r:List DO)(d:DS)(K:DS->Prop):pG P dep lo k (.aE false) true i nm hv op r d K=gX P dep lo k r (d.aD i (.aI [])) K:=by simp[pG]
theorem Wy (cs:List AV)(e:Bool)(hv:Bool)(op:jB)(r:List DO)(d:DS)(K:DS->Prop):pG P dep lo k (.aI cs) e i nm hv op r d K=gX P dep lo k r (d.aD i (.aI [])) K:=W_ rfl rfl
end
theorem Md (res:List kU)(K:AV->fu->Prop)(st:St):iS res K .aC st=(match mh st res with | some l=>K (qH l) st.h | none=>False):=W_ rfl rfl
theorem Mc (res:List kU)(K:AV->fu->Prop)(st:St):iS res K .aA st=(match mh st res with | some l=>K (qH l) st.h | none=>False):=W_ rfl rfl
end
mutual
def AV.aJ (k:Nat):AV->Bool
 | .aA n _ _ _=>decide (n<k)
 | .aG n _ _ _ _=>decide (n<k)
 | .aO t cs=>decide (t<=k) && AV.aP k cs
 | .aM t _ _ es=>(es.isEmpty || decide (t<=k)) && AV.aS k es
 | .aF cs=>AV.aP k cs
 | .aI cs=>AV.aP k cs
 | .aL _ fs cs=>AV.aP k fs && AV.aP k cs
 | .aT _ v=>AV.aJ k v
 | _=>true
def AV.aP (k:Nat):List AV->Bool
 | []=>true
 | v :: r=>AV.aJ k v && AV.aP k r
def AV.aS (k:Nat):List (List AV)->Bool
 | []=>true
 | v :: r=>AV.aP k v && AV.aS k r
end
theorem uB {k:Nat}:∀{cs:List AV},AV.aP k cs=true->∀(j:Nat)(c:AV),cs[j]?=some c->c.aJ k=true:=by
 intro cs;induction cs with
 | nil=>intro _ j c h;simp at h
 | cons v r ih=>
  intro h j c hj;simp only[AV.aP,Xs]at h;cases j with
  | zero=>simp at hj;subst hj;exact h.1
  | succ j=>exact ih h.2 j c (by simpa using hj)
theorem Mq {k:Nat}:∀{es:List (List AV)},AV.aS k es=true->∀(i j:Nat)(c:AV),gI es i j=some c->c.aJ k=true:=by
 intro es;induction es with
 | nil=>intro _ i j c h;simp[gI]at h
 | cons v r ih=>
  intro h i j c hj;simp only[AV.aS,Xs]at h;cases i with
  | zero=>simp[gI]at hj;exact uB h.1 j c hj
  | succ i=>exact ih h.2 i j c (by simpa [gI] using hj)
def Gh.aN (G:Gh)(k:Nat):Gh:={G with N:=k,aD:=λn=>G.aD n/\n<k,aF:=λn b=>G.aF n b/\n<k}
theorem Ev {G:Gh}{k t b:Nat}(ht:t<=k)(h:G.aL t b):(G.aN k).aL t b:=by
 cases t with
 | zero=>exact h
 | succ n=>exact⟨h,ω⟩
theorem V.aV {G w av v k}(h:V G w av v)(hb:av.aJ k=true):V (G.aN k) w av v:=by
 induction h with
 | aI v=>exact .aI v
 | aF b=>exact .aF b
 | aC k n=>exact .aC k n
 | aQ s=>exact .aQ s
 | aP v=>exact .aP v
 | aO=>exact .aO
 | aL n sz i o b hn hl=>exact .aL n sz i o b (by simpa [AV.aJ,Gh.aN] using hb) hl
 | aN t cs b off f hp hc _ ih=>simp only[AV.aJ,Xs,XK]at hb;exact .aN t cs b off f (Ev hb.1 hp) hc (λj c hj=>ih j c hj (uB hb.2 j c hj))
 | aD n sz off len cap c ty m b hn hl hle hcap hs hm=>exact .aD n sz off len cap c ty m b (by simpa [AV.aJ,Gh.aN] using hb) hl hle hcap hs hm
 | aH n sz cap hn hl hc=>exact .aH n sz cap (by simpa [AV.aJ,Gh.aN] using hb) hl hc
 | aE t clip sz es a cap f hl hcl hsp hp hes hc _ ih=>simp only[AV.aJ,Xs,Ys,XK,List.isEmpty_iff]at hb;exact .aE t clip sz es a cap f hl hcl hsp (λh=>Ev (hb.1.resolve_left h) (hp h)) hes hc (λi j c hj=>ih i j c hj (Mq hb.2 i j c hj))
 | aG t clip sz=>exact .aG t clip sz
 | aJ cs vs hl _ ih=>exact .aJ cs vs hl (λj c v hc hv=>ih j c v hc hv (uB (by simpa [AV.aJ] using hb) j c hc))
 | aM cs vs hl _ ih=>exact .aM cs vs hl (λj c v hc hv=>ih j c v hc hv (uB (by simpa [AV.aJ] using hb) j c hc))
 | aK f fs us cs vs hl _ hl' _ ih ih'=>simp only[AV.aJ,Xs]at hb;exact .aK f fs us cs vs hl (λj c v hc hv=>ih j c v hc hv (uB hb.1 j c hc)) hl' (λj c v hc hv=>ih' j c v hc hv (uB hb.2 j c hc))
 | aR t c v _ ih=>exact .aR t c v (ih (by simpa [AV.aJ] using hb))
theorem uC {k:Nat}:∀{cs:List AV},(∀(j:Nat)(c:AV),cs[j]?=some c->c.aJ k=true)->AV.aP k cs=true:=by
 intro cs;induction cs with
 | nil=>intro _;rfl
 | cons v r ih=>intro h;simp only[AV.aP,Xs];exact⟨h 0 v rfl,ih λj c hj=>h (j+1) c (by simpa using hj)⟩
theorem Mr {k:Nat}:∀{es:List (List AV)},(∀(i j:Nat)(c:AV),gI es i j=some c->c.aJ k=true)->AV.aS k es=true:=by
 intro es;induction es with
 | nil=>intro _;rfl
 | cons v r ih=>intro h;simp only[AV.aS,Xs];exact⟨uC λj c hj=>h 0 j c (by simpa [gI] using hj),ih λi j c hj=>h (i+1) j c (by simpa [gI] using hj)⟩
theorem fY.aS {G w h}(g:fY G w h){t b:Nat}(hp:G.aL t b):t<=G.N:=by
 cases t with
 | zero=>exact Xm _
 | succ n=>exact g.aP (g.aE n b hp)
theorem V.aY {G w h}(g:fY G w h){av v}(hv:V G w av v):av.aJ G.N=true:=by
 induction hv with
 | aI v=>rfl
 | aF b=>rfl
 | aC k n=>rfl
 | aQ s=>rfl
 | aP v=>rfl
 | aO=>rfl
 | aL n sz i o b hn hl=>simpa [AV.aJ] using hn
 | aN t cs b off f hp hc _ ih=>simp only[AV.aJ,Xs,XK];exact⟨g.aS hp,uC λj c hj=>ih j c hj⟩
 | aD n sz off len cap c ty m b hn hl hle hcap hs hm=>simpa [AV.aJ] using hn
 | aH n sz cap hn hl hc=>simpa [AV.aJ] using hn
 | aE t clip sz es a cap f hl hcl hsp hp hes hc _ ih=>
  simp only[AV.aJ,Xs,Ys,XK,List.isEmpty_iff];refine⟨?_,Mr λi j c hj=>ih i j c hj⟩;by_cases h:es=[];·exact .inl h
  ·exact .inr (g.aS (hp h))
 | aG t clip sz=>simp[AV.aJ,AV.aS]
 | aJ cs vs hl hv ih=>refine uC λj c hj=>?_;have hlt:=(WR.1 hj).1;exact ih j c _ hj (by simp[<-hl,hlt]:vs[j]?=some (vs[j]' ω))
 | aM cs vs hl hv ih=>refine uC λj c hj=>?_;have hlt:=(WR.1 hj).1;exact ih j c _ hj (by simp[<-hl,hlt]:vs[j]?=some (vs[j]' ω))
 | aK f fs us cs vs hl _ hl' _ ih ih'=>
  simp only[AV.aJ,Xs];refine⟨uC λj c hj=>?_,uC λj c hj=>?_⟩;·have hlt:=(WR.1 hj).1;exact ih j c _ hj (by simp[<-hl,hlt]:us[j]?=some (us[j]' ω))
  ·have hlt:=(WR.1 hj).1;exact ih' j c _ hj (by simp[<-hl',hlt]:vs[j]?=some (vs[j]' ω))
 | aR t c v _ ih=>exact ih
def fq (F:Nat->Prop)(h h':fu):Prop:=h.length<=h'.length/\∀m,m<h.length->¬F m->h'[m]?=h[m]?
def fB:Nat->Prop:=λ_=>False
theorem fY.bP {G w h G' w' h'} (g : fY G w h) (g' : fY G' w' h') (s : gP G w G' w') (hx : fq fB h h') : fY (G'.aN h.length) w' h /\ gP G w (G'.aN h.length) w' := by
  have hN : h.length = G.N := g.aA;have same : ∀ n, n < h.length -> h'[n]? = h[n]? := λn hn => hx.2 n hn (λx => x);have lt : ∀ {n : Nat} {x : Option fC}, h[n]? = some x -> n < h.length := λhn => (WR.1 hn).1;have k : iB G w (G'.aN h.length) w' := by refine ⟨Nat.le_of_eq hN.symm, λn b hn hb => s.aA.aA n b hn hb, λn hn hb => s.aA.aF n hn hb, λt b hp => ?_, s.aA.aD, s.aA.aE⟩;exact Ev (by rw [hN]; exact g.aS hp) (s.aA.aC t b hp)
  refine ⟨{ aA := rfl, aD := ?_, aE := ?_, inj := fun a b c h1 h2 => g'.inj a b c h1.1 h2.1, aF := fun a b c h1 hl h2 => g'.aF a b c h1.1 hl h2.1,
            aG := λa b h1 => g'.aG a b h1.1, aL := λa b c h1 h2 => g'.aL a b c h1.1 h2.1, aM := λa b h1 => g'.aM a b h1.1, aH := λa b h1 => g'.aH a b h1.1,
            aJ := g'.aJ, aC := ?_, aI := ?_, aK := g'.aK }, ?_⟩
  · intro n
    constructor
    · rintro ⟨hl, hn⟩
      obtain ⟨⟨a, b, c, hh⟩, hb⟩ := (g'.aD n).1 hl;exact ⟨⟨a, b, c, by rw [<- same n hn]; exact hh⟩, hb⟩
    · rintro ⟨⟨a, b, c, hh⟩, hb⟩
      have hn := lt hh;exact ⟨(g'.aD n).2 ⟨⟨a, b, c, by rw [same n hn]; exact hh⟩, hb⟩, hn⟩
  · rintro n b ⟨ht, hn⟩
    rw [<- same n hn]; exact g'.aE n b ht
  · intro n sz es gr b hh hb
    have hn := lt hh;obtain ⟨⟨cells, ty, hc, h1, h2, h3⟩, hs⟩ := g'.aC n sz es gr b (by rw [same n hn]; exact hh) hb;have e : G.aA n = some b := by rw [<- s.aF n ω]; exact hb
    obtain ⟨⟨cells0, ty0, hc0, _, _, E⟩, _⟩ := g.aC n sz es gr b hh e;refine ⟨⟨cells, ty, hc, h1, h2, λi j c hj => ?_⟩, hs⟩;obtain ⟨v, hv, hV⟩ := h3 i j c hj;obtain ⟨v0, _, u⟩ := E i j c hj;exact ⟨v, hv, hV.aV (by rw [hN]; exact u.aY g)⟩
  · intro n sz es gr hh hb
    exact g'.aI n sz es gr (by rw [same n (lt hh)]; exact hh) hb
  · refine ⟨k, s.S, s.aF, s.aJ, s.aC, s.aE, λb hb => ?_, s.aH⟩
    refine s.aG b ?_;rcases hb with ⟨n, hn, hl⟩ | ⟨n, hn⟩
    · exact .inl ⟨n, hn.1, hl⟩
    · exact .inr ⟨n, hn.1⟩
theorem fO.aF {P:Program}{f:FuncId}{u:List AV}{h:fu}{K:AV->fu->Prop}{K':AV->Prop}(hc:fO P f u h K)
  (hk:∀r h',K r h'->fq fB h h'/\r.aJ h.length=true/\K' r):fO P f u h λr h'=>h'=h/\K' r:=by
 intro G w vs hg hv;refine (hc G w vs hg hv).mono ?_;rintro e w' ⟨v,r,h',G',rfl,hK,E,hV,hs⟩;obtain⟨hx,hb,I⟩:=hk r h' hK;obtain⟨g2,s2⟩:=hg.bP E hs hx;exact⟨v,r,h,_,rfl,⟨rfl,I⟩,g2,hV.aV hb,s2⟩
theorem fq.aC (F:Nat->Prop)(h:fu):fq F h h:=⟨WX _,λ_ _ _=>rfl⟩
theorem fq.aF (F:Nat->Prop)(h x:fu):fq F h (h++x):=⟨ς,λm hm _=>Xy hm⟩
theorem fq.aD {F F' F'':Nat->Prop}{h h1 h2:fu}(a:fq F h h1)(b:fq F' h1 h2)(hF:∀m,m<h.length->F m->F'' m)(e:∀m,m<h.length->F' m->F'' m):fq F'' h h2:=
 ⟨Xg a.1 b.1,λm hm hn=>by rw[b.2 m (Xj hm a.1) (λx=>hn (e m hm x)),a.2 m hm (λx=>hn (hF m hm x))]⟩
theorem fq.tr {h h1 h2:fu}(a:fq fB h h1)(b:fq fB h1 h2):fq fB h h2:=a.aD b (λ_ _ x=>x) (λ_ _ x=>x)
theorem fq.aH {F:Nat->Prop}{h:fu}{n:Nat}(x:Option fC)(hn:n<h.length->F n):fq F h (h.set n x):=
 ⟨ς,λm hm hF=>WS (by rintro rfl;exact hF (hn hm))⟩
theorem fq.aK {F F':Nat->Prop}{h h':fu}(a:fq F h h')(hF:∀m,m<h.length->F m->F' m):fq F' h h':=⟨a.1,λm hm hn=>a.2 m hm (λx=>hn (hF m hm x))⟩
theorem fq.aA {h h':fu}(a:fq fB h h'){n:Nat}{x:Option fC} (hn:h[n]?=some x):h'[n]?=some x:=by rw[a.2 n (WR.1 hn).1 (λx=>x)];exact hn
attribute [go_sem] reduceEqDiff reduceAdd reduceLeDiff reducePow reduceDiv reduceMod decide_true reduceIte
end Glb
