/-
  A library of its own.
-/
import Derived.Test.YtdeiamnhnfmilaaGreatGlbLibB
set_option linter.unusedSimpArgs false
set_option linter.unusedVariables false
open Nat (reduceAdd reduceDiv reduceEqDiff reduceLeDiff reduceMod reducePow)
namespace Glb
open Go
def TD:Value->Value->Bool
 | .pointer none,.pointer none=>true
 | .nilIface,.nilIface=>true
 | .nilFunc,.nilFunc=>true
 | .map none,.map none=>true
 | _,_=>false
mutual
def AV.aW:AV->AV->Bool
 | .aR,.aR=>true
 | .aE a,.aE b=>a == b
 | .aA k a,.aA l b=>decide (k=l) && decide (a=b)
 | .aQ a,.aQ b=>decide (a=b)
 | .aN a,.aN b=>TD a b
 | .aD,.aD=>true
 | .aC a b c d,.aC a' b' c' d'=>a == a' && b == b' && c == c' && d == d'
 | .aO t cs,.aO t' cs'=>t == t' && AV.aU cs cs'
 | .aG a b c d e,.aG a' b' c' d' e'=>a == a' && b == b' && c == c' && d == d' && decide (e=e')
 | .aM t c s es,.aM t' c' s' es'=>t == t' && c == c' && s == s' && AV.aX es es'
 | .aF cs,.aF cs'=>AV.aU cs cs'
 | .aI cs,.aI cs'=>AV.aU cs cs'
 | .aK f fs cs,.aK f' fs' cs'=>f == f' && AV.aU fs fs' && AV.aU cs cs'
 | .aT t v,.aT t' v'=>t == t' && AV.aW v v'
 | _,_=>false
def AV.aU:List AV->List AV->Bool
 | [],[]=>true
 | a :: r,b :: s=>AV.aW a b && AV.aU r s
 | _,_=>false
def AV.aX:List (List AV)->List (List AV)->Bool
 | [],[]=>true
 | a :: r,b :: s=>AV.aU a b && AV.aX r s
 | _,_=>false
end
section
variable {P:Program}
end
end Glb
namespace Glb
open Go Go.RowKit
def vZ (W W':World):Prop:=W.keptBut W' (λ_=>False)/\(∀a,a.block<W.heap.size->W'.frozen? a=W.frozen? a)/\W.heap.size<=W'.heap.size
theorem vZ.aA {W W':World}(h:vZ W W')(may:MemPlace->Prop):W.keptBut W' may:=World.keptBut_mono (λ_ f=>f.elim) h.1
theorem gI.aL {G w G' w'}(s:gI G w G' w')(e:∀b,¬G.aI b):vZ w w':=by
 refine⟨⟨s.aH.1,s.aH.2.1,λi hi=>?_⟩,s.aH.2.2.2,s.aC⟩;rw[s.aE i hi (e i)];cases w.heap[i]? with
 | none=>rfl
 | some o=>cases o<;>simp
def Is (P:Program)(f:FuncId)(c:fM):Prop:=qc P c.aD f=some c/\fK P f=true
theorem fS {P : Program} {f : FuncId} {c : fM} {e : List AV} {h : eX} {K : AV -> eX -> Prop} (hf : Is P f c) (hk : vc P c.aA (nY c.aD e h) (iE c.aC K)) (hn : Nat.ble e.length c.n = true := by rfl) : fC P f e h K :=
 pD hf.1 (V3 hn) hk
section
variable {P:Program}
def oR:Option AV->(AV->Prop)->Prop
 | some v,k=>k v
 | none,_=>False
def oH:Option (AV×eX)->(AV->eX->Prop)->Prop
 | some (v,h),k=>k v h
 | none,_=>False
def tI (P:Program)(b:AC)(K:AX->St->Prop):AX->St->Prop
 | .aA,st=>vc P b st K
 | .aD id,st=>K (.aD id) st
 | .aC,st=>K .aC st
def xE (K:AX->St->Prop):St->Prop:=λst=>K .aA ⟨st.L,[],st.h⟩
def kN (K:AX->St->Prop):St->Prop:=λst=>K .aA st
def vf (id:Nat)(K:AX->St->Prop):AX->St->Prop
 | .aA,st=>K .aA st
 | .aD id',st=>if id'=id then K .aA st else K (.aD id') st
 | .aC,st=>K .aC st
def vg (I:Nat->fX->eX->Prop)(m:Nat)(K:AX->St->Prop):AX->St->Prop
 | .aA,st=>∃m',m'<m/\st.R=[]/\I m' st.L st.h
 | .aD id,st=>K (.aD id) st
 | .aC,st=>K .aC st
def xD (P:Program)(d:jP)(r:List AO)(st:St)(k:St->Prop):AV->Prop:=λv=>gX P r (st.aC d v) k
def tF (P:Program)(d:jP)(r:List AO)(st:St)(k:St->Prop):AV->eX->Prop:=λv h=>gX P r {st.aC d v with h:=h} k
def mI (P:Program)(f:FuncId)(avs:List AV)(h:eX)(K:AV->eX->Prop):Prop:=fK P f=true/\fC P f avs h K
def vM (P:Program)(x:AV)(args:List AV)(h:eX)(K:AV->eX->Prop):Prop:=
 match x with
 | .aK f fs cs=>mI P f (fs++args++cs) h K
 | _=>False
def oZ (P:Program)(v:AV)(a b:AC)(st:St)(K:AX->St->Prop):Prop:=
 match v with
 | .aE t=>(t=true->vc P a st K)/\(t=false->vc P b st K)
 | _=>False
def m7 (P:Program)(v:AV)(want:Bool)(d:jP)(op:iY)(r:List AO)(st:St)(k:St->Prop):Prop:=
 match v with
 | .aE b=>(b=want->gX P (⟨d,op,none⟩ :: r) st k)/\(b=(!want)->gX P r (st.aC d (.aI [])) k)
 | .aI _=>gX P r (st.aC d (.aI [])) k
 | _=>False
theorem Ur (st:St)(K:AX->St->Prop):vc P .aJ st K=K .aA st:=Vc rfl rfl
theorem Up (st:St)(K:AX->St->Prop):vc P .aM st K=K .aC st:=Vc rfl rfl
theorem Un (id:Nat)(st:St)(K:AX->St->Prop):vc P (.aL id) st K=K (.aD id) st:=Vc rfl rfl
theorem Uo (ops:List AO)(st:St)(K:AX->St->Prop):vc P (.aG ops) st K=gX P ops st (xE K):=Vc rfl rfl
theorem Uq (a b:AC)(st:St)(K:AX->St->Prop):vc P (.aA a b) st K=vc P a st (tI P b K):=by simp only[vc];congr 1;funext x st';cases x<;>rfl
theorem Uk (id:Nat)(b:AC)(st:St)(K:AX->St->Prop):vc P (.aE id b) st K=vc P b st (vf id K):=by simp only[vc];congr 1;funext x st';cases x<;>rfl
theorem Ul (c:fE)(a b:AC)(st:St)(K:AX->St->Prop):vc P (.aF c a b) st K=oZ P (st.aA c) a b st K:=by simp only[vc,oZ];generalize st.aA c=v;cases v<;>rfl
theorem GP (b:AC)(K:AX->St->Prop)(st:St):tI P b K .aA st=vc P b st K:=Vc rfl rfl
theorem On (b:AC)(K:AX->St->Prop)(id:Nat)(st:St):tI P b K (.aD id) st=K (.aD id) st:=Vc rfl rfl
theorem Oo (b:AC)(K:AX->St->Prop)(st:St):tI P b K .aC st=K .aC st:=Vc rfl rfl
theorem NZ (id:Nat)(K:AX->St->Prop)(st:St):vf id K .aA st=K .aA st:=Vc rfl rfl
theorem NY (id e:Nat)(K:AX->St->Prop)(st:St):vf id K (.aD e) st=if e=id then K .aA st else K (.aD e) st:=Vc rfl rfl
theorem N5 (id:Nat)(K:AX->St->Prop)(st:St):vf id K .aC st=K .aC st:=Vc rfl rfl
theorem GO (K:AX->St->Prop)(L R:fX)(h:eX):xE K ⟨L,R,h⟩=K .aA ⟨L,[],h⟩:=Vc rfl rfl
theorem Of (K:AX->St->Prop)(st:St):kN K st=K .aA st:=Vc rfl rfl
theorem Od (I:Nat->fX->eX->Prop)(m:Nat)(K:AX->St->Prop)(L:fX)(h:eX):vg I m K .aA ⟨L,[],h⟩=∃m',m'<m/\I m' L h:=by simp[vg]
theorem Oc (I:Nat->fX->eX->Prop)(m:Nat)(K:AX->St->Prop)(id:Nat)(st:St):vg I m K (.aD id) st=K (.aD id) st:=Vc rfl rfl
theorem Oe (I:Nat->fX->eX->Prop)(m:Nat)(K:AX->St->Prop)(st:St):vg I m K .aC st=K .aC st:=Vc rfl rfl
theorem IN {o:AO}{st:St}{k k':St->Prop}(hk:∀s,k s->k' s)(h:mH P o st k):mH P o st k':=by
 unfold mH at h ⊢;split
 ·rename_i ro he;(try simp only[he]at h);split at h;·rename_i v hv;(try simp only[hv]);exact hk _ h
  ·exact h.elim
 ·rename_i ho he;(try simp only[he]at h);split at h;·rename_i v h' hv;(try simp only[hv]);exact hk _ h
  ·exact h.elim
 ·rename_i f args he;(try simp only[he]at h);exact⟨h.1,h.2.aA λ_ _ x=>hk _ x⟩
 ·rename_i x args he;(try simp only[he]at h);split at h;·rename_i f fs cs hx;(try simp only[hx]);exact⟨h.1,h.2.aA λ_ _ x=>hk _ x⟩
  ·exact h.elim
theorem Dy:∀(l:List AO){st:St}{k k':St->Prop},(∀s,k s->k' s)->gX P l st k->gX P l st k':=by
 intro l;induction l with
 | nil=>intro st k k' hk h;exact hk _ h
 | cons o r ih=>
  intro st k k' hk h;simp only[gX]at h ⊢;split;·rename_i hg;(try simp only[hg]at h);exact IN (λs hs=>ih hk hs) h
  ·rename_i x want hg;try simp only[hg]at h;split at h;·rename_i b hb;(try simp only[hb]);exact⟨λe=>IN (λs hs=>ih hk hs) (h.1 e),λe=>ih hk (h.2 e)⟩
   ·rename_i cs hb;(try simp only[hb]);exact ih hk h
   ·exact h.elim
theorem Dw {dep:Nat->Nat->Bool}{lo n i:Nat}{d:DS}{xs:List (Nat×Nat×e_)}{v:AV}{h':eX}{k k':DS->Prop}(hk:∀s,k s->k' s)
  (h:t8 dep lo n i d xs v h' k):t8 dep lo n i d xs v h' k':=⟨h.1,h.2.1,hk _ h.2.2⟩
theorem IM {dep:Nat->Nat->Bool}{lo n:Nat}{o:DO}{d:DS}{k k':DS->Prop}(hk:∀s,k s->k' s)(h:kV P dep lo n o d k):kV P dep lo n o d k':=by
 unfold kV at h ⊢;split<;>rename_i h1 h2<;>(try simp only[h1,h2]at h)
 ·split at h;·rename_i v hv;(try simp only[hv]);exact⟨h.1,hk _ h.2⟩
  ·exact h.elim
 ·rename_i hne;split at h;·rename_i v hv;(try simp only[hv]);exact hk _ h
  ·exact h.elim
 ·split at h;·rename_i v b hv;(try simp only[hv]);exact hk _ h
  ·exact h.elim
 ·split at h;·rename_i v h' hv;(try simp only[hv]);exact Dw hk h
  ·exact h.elim
 ·exact⟨h.1,h.2.aA λ_ _ x=>Dw hk x⟩
 ·split at h;·rename_i f fs cs hx;(try simp only[hx]);exact⟨h.1,h.2.aA λ_ _ x=>Dw hk x⟩
  ·exact h.elim
theorem TU {dep:Nat->Nat->Bool}{lo n:Nat}:∀(l:List DO){d:DS}{k k':DS->Prop},(∀s,k s->k' s)->gP P dep lo n l d k->gP P dep lo n l d k':=by
 intro l;induction l with
 | nil=>intro d k k' hk h;exact hk _ h
 | cons o r ih=>
  intro d k k' hk h;simp only[gP]at h ⊢;split;·rename_i hg;(try simp only[hg]at h);exact IM (λs hs=>ih hk hs) h
  ·rename_i x want hg;try simp only[hg]at h;split at h;·rename_i b hb;(try simp only[hb]);exact⟨λe=>IM (λs hs=>ih hk hs) (h.1 e),λe=>ih hk (h.2 e)⟩
   ·rename_i cs hb;(try simp only[hb]);exact ih hk h
   ·exact h.elim
theorem oY:∀(c:AC){st:St}{K K':AX->St->Prop},(∀x s,K x s->K' x s)->vc P c st K->vc P c st K':=by
 intro c;induction c with
 | aJ=>intro st K K' hk h;exact hk _ _ h
 | aG ops=>intro st K K' hk h;exact Dy ops (λs hs=>hk _ _ hs) h
 | aI r=>intro st K K' hk h;exact TU r.aC (λs hs=>hk _ _ hs) h
 | aA a b iha ihb=>
  intro st K K' hk h;refine iha ?_ h;intro x s hs;cases x with
  | aA=>exact ihb hk hs
  | aD id=>exact hk _ _ hs
  | aC=>exact hk _ _ hs
 | aF c a b iha ihb=>
  intro st K K' hk h;simp only[vc]at h ⊢;split at h;·rename_i t ht;(try simp only[ht]);exact⟨λe=>iha hk (h.1 e),λe=>ihb hk (h.2 e)⟩
  ·exact h.elim
 | aE id b ih=>
  intro st K K' hk h;refine ih ?_ h;intro x s hs;cases x with
  | aA=>exact hk _ _ hs
  | aD id'=>
   simp only at hs ⊢;split<;>rename_i e;·rw[U4 e]at hs;exact hk _ _ hs
   ·rw[U6 e]at hs;exact hk _ _ hs
  | aC=>exact hk _ _ hs
 | aD b ih=>
  rintro st K K' hk ⟨I,h0,u⟩;refine⟨I,h0,λm s hI=>ih ?_ (u m s hI)⟩;intro x s hs;cases x with
  | aA=>exact hs
  | aD id=>exact hk _ _ hs
  | aC=>exact hk _ _ hs
 | aL id=>intro st K K' hk h;exact hk _ _ h
 | aM=>intro st K K' hk h;exact hk _ _ h
 | aK=>intro st K K' hk h;exact h.elim
theorem iM (I:Nat->fX->eX->Prop)(m:Nat){b:AC}{L:fX}{h:eX}{K:AX->St->Prop}(h0:I m L h)
  (step:∀m L h,I m L h->vc P b ⟨L,[],h⟩ (vg I m K)):vc P (.aD b) ⟨L,[],h⟩ K:=by
 refine⟨λm s=>s.R=[]/\I m s.L s.h,⟨m,_,Wk.aA _,rfl,h0⟩,λm s hI=>?_⟩;obtain⟨L,R,h⟩:=s;obtain⟨hR,hI⟩:=hI;simp only at hR hI;subst hR;refine oY b ?_ (step m L h hI);intro x s hs;cases x with
 | aA=>obtain⟨m',h1,h2,h3⟩:=hs;exact⟨m',s,h1,Wk.aA _,h2,h3⟩
 | aD id=>exact hs
 | aC=>exact hs
theorem IP (st:St)(k:St->Prop):gX P [] st k=k st:=Vc rfl rfl
theorem Uj (d:jP)(ro:nN)(r:List AO)(st:St)(k:St->Prop):
  gX P (⟨d,.r ro,none⟩ :: r) st k=oR (gG st.aA st.h ro) (xD P d r st k):=by
 simp only[gX,mH];cases gG st.aA st.h ro<;>rfl
theorem Ui (d:jP)(ho:nK)(r:List AO)(st:St)(k:St->Prop):
  gX P (⟨d,.h ho,none⟩ :: r) st k=oH (jY st.aA st.h ho) (tF P d r st k):=by
 simp only[gX,mH];cases jY st.aA st.h ho<;>rfl
theorem Uf (d:jP)(f:FuncId)(args:List fE)(r:List AO)(st:St)(k:St->Prop):
  gX P (⟨d,.aC f args,none⟩ :: r) st k=mI P f (args.map st.aA) st.h (tF P d r st k):=Vc rfl rfl
theorem Ug (d:jP)(x:fE)(args:List fE)(r:List AO)(st:St)(k:St->Prop):
  gX P (⟨d,.aD x args,none⟩ :: r) st k=vM P (st.aA x) (args.map st.aA) st.h (tF P d r st k):=by
 simp only[gX,mH,vM];cases st.aA x<;>rfl
theorem Uh (d:jP)(op:iY)(x:fE)(e:Bool)(r:List AO)(st:St)(k:St->Prop):
  gX P (⟨d,op,some (x,e)⟩ :: r) st k=m7 P (st.aA x) e d op r st k:=by
 simp only[gX,m7];generalize hv:st.aA x=v;cases v<;>rfl
theorem PC (v:AV)(k:AV->Prop):oR (some v) k=k v:=Vc rfl rfl
theorem PA (v:AV)(h:eX)(k:AV->eX->Prop):oH (some (v,h)) k=k v h:=Vc rfl rfl
theorem Oj (r:List AO)(L R:fX)(h:eX)(k:St->Prop)(v:AV):xD P .aC r ⟨L,R,h⟩ k v=gX P r ⟨L,R,h⟩ k:=Vc rfl rfl
theorem Oi (s:Nat)(r:List AO)(L R:fX)(h:eX)(k:St->Prop)(v:AV):xD P (.aA s) r ⟨L,R,h⟩ k v=gX P r ⟨mU s v L,R,h⟩ k:=Vc rfl rfl
theorem Ok (s:Nat)(r:List AO)(L R:fX)(h:eX)(k:St->Prop)(v:AV):xD P (.aD s) r ⟨L,R,h⟩ k v=gX P r ⟨L,(s,v) :: R,h⟩ k:=Vc rfl rfl
theorem Og (r:List AO)(L R:fX)(h h':eX)(k:St->Prop)(v:AV):tF P .aC r ⟨L,R,h⟩ k v h'=gX P r ⟨L,R,h'⟩ k:=Vc rfl rfl
theorem GM (s:Nat)(r:List AO)(L R:fX)(h h':eX)(k:St->Prop)(v:AV):tF P (.aA s) r ⟨L,R,h⟩ k v h'=gX P r ⟨mU s v L,R,h'⟩ k:=Vc rfl rfl
theorem Oh (s:Nat)(r:List AO)(L R:fX)(h h':eX)(k:St->Prop)(v:AV):tF P (.aD s) r ⟨L,R,h⟩ k v h'=gX P r ⟨L,(s,v) :: R,h'⟩ k:=Vc rfl rfl
theorem Ng (s:Nat)(L R:fX)(h:eX):St.aA ⟨L,R,h⟩ (.aC s)=lk s L:=Vc rfl rfl
theorem Ni (s:Nat)(L R:fX)(h:eX):St.aA ⟨L,R,h⟩ (.aD s)=lk s R:=Vc rfl rfl
theorem Nd (v:AV)(st:St):st.aA (.aA v)=v:=Vc rfl rfl
theorem OT (s:Nat):lk s []=.aR:=Vc rfl rfl
theorem g_ (s t:Nat)(v:AV)(r:fX):lk s ((t,v) :: r)=if t=s then v else lk s r:=Vc rfl rfl
theorem UK (d:jP)(op:iY)(r:List AO)(st:St)(k:St->Prop):m7 P (.aE true) true d op r st k=gX P (⟨d,op,none⟩ :: r) st k:=by simp[m7]
theorem UH (d:jP)(op:iY)(r:List AO)(st:St)(k:St->Prop):m7 P (.aE false) false d op r st k=gX P (⟨d,op,none⟩ :: r) st k:=by simp[m7]
theorem UJ (d:jP)(op:iY)(r:List AO)(st:St)(k:St->Prop):m7 P (.aE true) false d op r st k=gX P r (st.aC d (.aI [])) k:=by simp[m7]
theorem UI (d:jP)(op:iY)(r:List AO)(st:St)(k:St->Prop):m7 P (.aE false) true d op r st k=gX P r (st.aC d (.aI [])) k:=by simp[m7]
theorem UL (cs:List AV)(e:Bool)(d:jP)(op:iY)(r:List AO)(st:St)(k:St->Prop):m7 P (.aI cs) e d op r st k=gX P r (st.aC d (.aI [])) k:=Vc rfl rfl
theorem Qn (L R:fX)(h:eX)(v:AV):St.aC ⟨L,R,h⟩ .aC v=⟨L,R,h⟩:=Vc rfl rfl
theorem Qm (s:Nat)(L R:fX)(h:eX)(v:AV):St.aC ⟨L,R,h⟩ (.aA s) v=⟨mU s v L,R,h⟩:=Vc rfl rfl
theorem Qo (s:Nat)(L R:fX)(h:eX)(v:AV):St.aC ⟨L,R,h⟩ (.aD s) v=⟨L,(s,v) :: R,h⟩:=Vc rfl rfl
theorem t_ {b:Bool}{d:jP}{op:iY}{r:List AO}{st:St}{k:St->Prop}(h1:b=true->gX P (⟨d,op,none⟩ :: r) st k)
  (h2:b=false->gX P r (st.aC d (.aI [])) k):m7 P (.aE b) true d op r st k:=⟨h1,h2⟩
theorem IT {b:Bool}{d:jP}{op:iY}{r:List AO}{st:St}{k:St->Prop}(h1:b=false->gX P (⟨d,op,none⟩ :: r) st k)
  (h2:b=true->gX P r (st.aC d (.aI [])) k):m7 P (.aE b) false d op r st k:=⟨h1,h2⟩
theorem UB (a b:AC)(st:St)(K:AX->St->Prop):oZ P (.aE true) a b st K=vc P a st K:=by simp[oZ]
theorem UA (a b:AC)(st:St)(K:AX->St->Prop):oZ P (.aE false) a b st K=vc P b st K:=by simp[oZ]
theorem ij {t:Bool}{a b:AC}{st:St}{K:AX->St->Prop}(h1:t=true->vc P a st K)(h2:t=false->vc P b st K):oZ P (.aE t) a b st K:=⟨h1,h2⟩
theorem fy {f:FuncId}{e:List AV}{h:eX}{K K':AV->eX->Prop}(hc:fK P f=true/\fC P f e h K')(hk:∀r h',K' r h'->K r h'):mI P f e h K:=
 ⟨hc.1,hc.2.aA hk⟩
theorem Uz (f:FuncId)(fs cs args:List AV)(h:eX)(K:AV->eX->Prop):vM P (.aK f fs cs) args h K=mI P f (fs++args++cs) h K:=Vc rfl rfl
def NU:nN->Bool
 | .aA _ _ _=>true
 | _=>false
def GK (fin:List (Nat×Nat))(L:fX)(K:AX->St->Prop):DS->Prop:=λd=>K .aA ⟨nU d.R fin L,[],d.h⟩
def CC (masks:List Nat)(i j:Nat):Bool:=(masks.getD i 0).testBit j
def kt (P:Program)(dep:Nat->Nat->Bool)(lo k i:Nat)(r:List DO)(d:DS)(K:DS->Prop):AV->Prop:=λv=>gP P dep lo k r (d.aD i v) K
def GL (P:Program)(dep:Nat->Nat->Bool)(lo k i:Nat)(agg:Bool)(n:Nat)(x:AV)(r:List DO)(d:DS)(K:DS->Prop):AV->Prop:=λv=>gN lo k x=true/\gP P dep lo k r {d.aD i v with aE:=(i,x,agg,n,v) :: d.aE} K
def oL (o:Option (AV×e_))(k:AV->e_->Prop):Prop:=match o with
 | some (v,b)=>k v b
 | none=>False
def GJ (P:Program)(dep:Nat->Nat->Bool)(lo k i nm:Nat)(r:List DO)(d:DS)(K:DS->Prop):AV->e_->Prop:=λv b=>gP P dep lo k r {d.aD i v with h:=d.h.set (lo+nm) (some b),aC:=(i,lo+nm,b) :: d.aC} K
def lu (dep:Nat->Nat->Bool)(i:Nat)(l:List (Nat×Nat×e_)):List (Nat×Nat×e_):=l.filter λx=>!dep i x.1
def tE (P:Program)(dep:Nat->Nat->Bool)(lo k i:Nat)(r:List DO)(d:DS)(K:DS->Prop):AV->eX->Prop:=λv h'=>mC dep lo k i d.aC h'=true/\py dep i (j9 (lu dep i d.aC) h') d.aE/\gP P dep lo k r {d.aD i v with h:=j9 (lu dep i d.aC) h'} K
def oq (P:Program)(dep:Nat->Nat->Bool)(lo k:Nat)(v:AV)(want:Bool)(i nm:Nat)(hv:Bool)(op:iY)(r:List DO)(d:DS)(K:DS->Prop):Prop:=
 match v with
 | .aE b=>(b=want->gP P dep lo k (⟨i,nm,hv,op,none⟩ :: r) d K)/\(b=(!want)->gP P dep lo k r (d.aD i (.aI [])) K)
 | .aI _=>gP P dep lo k r (d.aD i (.aI [])) K
 | _=>False
theorem Um (masks:List Nat)(k:Nat)(items:List DO)(fin:List (Nat×Nat))(L R:fX)(h:eX)(K:AX->St->Prop):
  vc P (.aI ⟨masks,k,items,fin⟩) ⟨L,R,h⟩ K=gP P (CC masks) h.length k items ⟨L,[],h++List.replicate k none,[],[]⟩ (GK fin L K):=Vc rfl rfl
theorem N_ (fin:List (Nat×Nat))(L L' R:fX)(h:eX)(p:List (Nat×AV×Bool×Nat×AV))(l:List (Nat×Nat×e_))(K:AX->St->Prop):GK fin L K ⟨L',R,h,p,l⟩=K .aA ⟨nU R fin L,[],h⟩:=Vc rfl rfl
theorem MD (R L:fX):nU R [] L=L:=Vc rfl rfl
theorem MC (R L:fX)(t i:Nat)(r:List (Nat×Nat)):nU R ((t,i) :: r) L=nU R r (mU t (lk i R) L):=Vc rfl rfl
section
variable {dep:Nat->Nat->Bool} {lo k i nm:Nat}
theorem TX (d:DS)(K:DS->Prop):gP P dep lo k [] d K=K d:=Vc rfl rfl
theorem kK {ro:nN}(h:NU ro=false)(r:List DO)(d:DS)(K:DS->Prop):gP P dep lo k (⟨i,nm,false,.r ro,none⟩ :: r) d K=oR (gG d.aA [] ro) (kt P dep lo k i r d K):=by
 simp only[gP,kV];cases ro with
 | aA=>cases h
 | _=>simp only;generalize gG d.aA [] _=o;cases o<;>rfl
theorem TV (x:fE)(r:List DO)(d:DS)(K:DS->Prop):gP P dep lo k (⟨i,nm,false,.r (.aF x),none⟩ :: r) d K=oR (gG d.aA [] (.aF x)) (kt P dep lo k i r d K):=kK rfl r d K
theorem Ua (c a b:fE)(r:List DO)(d:DS)(K:DS->Prop):gP P dep lo k (⟨i,nm,false,.r (.aR c a b),none⟩ :: r) d K=oR (gG d.aA [] (.aR c a b)) (kt P dep lo k i r d K):=kK rfl r d K
theorem TG (z:List AV)(ps:List (Nat×Nat×fE))(r:List DO)(d:DS)(K:DS->Prop):gP P dep lo k (⟨i,nm,false,.r (.aJ z ps),none⟩ :: r) d K=oR (gG d.aA [] (.aJ z ps)) (kt P dep lo k i r d K):=kK rfl r d K
theorem TJ (x:fE)(r:List DO)(d:DS)(K:DS->Prop):gP P dep lo k (⟨i,nm,false,.r (.aK x),none⟩ :: r) d K=oR (gG d.aA [] (.aK x)) (kt P dep lo k i r d K):=kK rfl r d K
theorem TF (op:BinOp)(x y:fE)(r:List DO)(d:DS)(K:DS->Prop):gP P dep lo k (⟨i,nm,false,.r (.aI op x y),none⟩ :: r) d K=oR (gG d.aA [] (.aI op x y)) (kt P dep lo k i r d K):=kK rfl r d K
theorem TE (op:BinOp)(x y:fE)(r:List DO)(d:DS)(K:DS->Prop):gP P dep lo k (⟨i,nm,false,.r (.aH op x y),none⟩ :: r) d K=oR (gG d.aA [] (.aH op x y)) (kt P dep lo k i r d K):=kK rfl r d K
theorem TY (b:Bool)(x:fE)(r:List DO)(d:DS)(K:DS->Prop):gP P dep lo k (⟨i,nm,false,.r (.aG b x),none⟩ :: r) d K=oR (gG d.aA [] (.aG b x)) (kt P dep lo k i r d K):=kK rfl r d K
theorem TZ (x:fE)(r:List DO)(d:DS)(K:DS->Prop):gP P dep lo k (⟨i,nm,false,.r (.aP x),none⟩ :: r) d K=oR (gG d.aA [] (.aP x)) (kt P dep lo k i r d K):=kK rfl r d K
theorem TW (x:fE)(r:List DO)(d:DS)(K:DS->Prop):gP P dep lo k (⟨i,nm,false,.r (.aO x),none⟩ :: r) d K=oR (gG d.aA [] (.aO x)) (kt P dep lo k i r d K):=kK rfl r d K
theorem TL (q:IntKind)(x:fE)(r:List DO)(d:DS)(K:DS->Prop):gP P dep lo k (⟨i,nm,false,.r (.aL q x),none⟩ :: r) d K=oR (gG d.aA [] (.aL q x)) (kt P dep lo k i r d K):=kK rfl r d K
theorem Ub (sz:Nat)(x:fE)(a b c:Option fE)(r:List DO)(d:DS)(K:DS->Prop):gP P dep lo k (⟨i,nm,false,.r (.aS sz x a b c),none⟩ :: r) d K=oR (gG d.aA [] (.aS sz x a b c)) (kt P dep lo k i r d K):=kK rfl r d K
theorem T_ (o:Nat)(x:fE)(r:List DO)(d:DS)(K:DS->Prop):gP P dep lo k (⟨i,nm,false,.r (.aQ o x),none⟩ :: r) d K=oR (gG d.aA [] (.aQ o x)) (kt P dep lo k i r d K):=kK rfl r d K
theorem TP (sz:Nat)(x y:fE)(r:List DO)(d:DS)(K:DS->Prop):gP P dep lo k (⟨i,nm,false,.r (.aD sz x y),none⟩ :: r) d K=oR (gG d.aA [] (.aD sz x y)) (kt P dep lo k i r d K):=kK rfl r d K
theorem TM (x:fE)(j:Nat)(r:List DO)(d:DS)(K:DS->Prop):gP P dep lo k (⟨i,nm,false,.r (.aM x j),none⟩ :: r) d K=oR (gG d.aA [] (.aM x j)) (kt P dep lo k i r d K):=kK rfl r d K
theorem TQ (x:fE)(r:List DO)(d:DS)(K:DS->Prop):gP P dep lo k (⟨i,nm,false,.r (.aN x),none⟩ :: r) d K=oR (gG d.aA [] (.aN x)) (kt P dep lo k i r d K):=kK rfl r d K
theorem Uc (x:fE)(r:List DO)(d:DS)(K:DS->Prop):gP P dep lo k (⟨i,nm,false,.r (.aT x),none⟩ :: r) d K=oR (gG d.aA [] (.aT x)) (kt P dep lo k i r d K):=kK rfl r d K
theorem TT (b:Bool)(xs:List fE)(r:List DO)(d:DS)(K:DS->Prop):gP P dep lo k (⟨i,nm,false,.r (.aE b xs),none⟩ :: r) d K=oR (gG d.aA [] (.aE b xs)) (kt P dep lo k i r d K):=kK rfl r d K
theorem TK (f:FuncId)(xs:List fE)(r:List DO)(d:DS)(K:DS->Prop):gP P dep lo k (⟨i,nm,false,.r (.aC f xs),none⟩ :: r) d K=oR (gG d.aA [] (.aC f xs)) (kt P dep lo k i r d K):=kK rfl r d K
theorem Ud (o:sM)(r:List DO)(d:DS)(K:DS->Prop):gP P dep lo k (⟨i,nm,false,.r (.x o),none⟩ :: r) d K=oR (gG d.aA [] (.x o)) (kt P dep lo k i r d K):=kK rfl r d K
theorem TS (agg:Bool)(n:Nat)(x:fE)(r:List DO)(d:DS)(K:DS->Prop):
  gP P dep lo k (⟨i,nm,false,.r (.aA agg n x),none⟩ :: r) d K=oR (ir d.h agg n (d.aA x)) (GL P dep lo k i agg n (d.aA x) r d K):=by
 simp only[gP,kV];generalize ir d.h agg n (d.aA x)=o;cases o<;>rfl
theorem TR (ho:nK)(r:List DO)(d:DS)(K:DS->Prop):gP P dep lo k (⟨i,nm,false,.h ho,none⟩ :: r) d K=oL (jz d.aA (lo+nm) ho) (GJ P dep lo k i nm r d K):=by simp only[gP,kV];generalize jz d.aA (lo+nm) ho=o;cases o<;>rfl
theorem TO (ho:nK)(r:List DO)(d:DS)(K:DS->Prop):gP P dep lo k (⟨i,nm,true,.h ho,none⟩ :: r) d K=oH (jY d.aA (ki (lu dep i d.aC) d.h) ho) (tE P dep lo k i r d K):=by simp only[gP,kV];show (match jY d.aA (ki (lu dep i d.aC) d.h) ho with | some (v,h')=>_ | none=>False)=_;generalize jY d.aA (ki (lu dep i d.aC) d.h) ho=o;cases o<;>rfl
theorem TH (f:FuncId)(args:List fE)(r:List DO)(d:DS)(K:DS->Prop):
  gP P dep lo k (⟨i,nm,true,.aC f args,none⟩ :: r) d K=mI P f (args.map d.aA) (ki (lu dep i d.aC) d.h) (tE P dep lo k i r d K):=Vc rfl rfl
theorem TI (x:fE)(args:List fE)(r:List DO)(d:DS)(K:DS->Prop):
  gP P dep lo k (⟨i,nm,true,.aD x args,none⟩ :: r) d K=vM P (d.aA x) (args.map d.aA) (ki (lu dep i d.aC) d.h) (tE P dep lo k i r d K):=by
 simp only[gP,kV,vM];cases d.aA x<;>rfl
theorem TN (hv:Bool)(op:iY)(x:fE)(e:Bool)(r:List DO)(d:DS)(K:DS->Prop):
  gP P dep lo k (⟨i,nm,hv,op,some (x,e)⟩ :: r) d K=oq P dep lo k (d.aA x) e i nm hv op r d K:=by
 simp only[gP,oq];generalize d.aA x=v;cases v<;>rfl
theorem PB (v:AV)(b:e_)(k:AV->e_->Prop):oL (some (v,b)) k=k v b:=Vc rfl rfl
theorem Ob (r:List DO)(L R:fX)(h:eX)(p:List (Nat×AV×Bool×Nat×AV))(l:List (Nat×Nat×e_))(K:DS->Prop)(v:AV):
  kt P dep lo k i r ⟨L,R,h,p,l⟩ K v=gP P dep lo k r ⟨L,(i,v) :: R,h,p,l⟩ K:=Vc rfl rfl
theorem Oa (agg:Bool)(n:Nat)(x:AV)(r:List DO)(L R:fX)(h:eX)(p:List (Nat×AV×Bool×Nat×AV))(l:List (Nat×Nat×e_))(K:DS->Prop)(v:AV):
  GL P dep lo k i agg n x r ⟨L,R,h,p,l⟩ K v=(gN lo k x=true/\gP P dep lo k r ⟨L,(i,v) :: R,h,(i,x,agg,n,v) :: p,l⟩ K):=Vc rfl rfl
theorem N9 (r:List DO)(L R:fX)(h:eX)(p:List (Nat×AV×Bool×Nat×AV))(l:List (Nat×Nat×e_))(K:DS->Prop)(v:AV)(b:e_):
  GJ P dep lo k i nm r ⟨L,R,h,p,l⟩ K v b=gP P dep lo k r ⟨L,(i,v) :: R,h.set (lo+nm) (some b),p,(i,lo+nm,b) :: l⟩ K:=Vc rfl rfl
theorem N8 (r:List DO)(L R:fX)(h h':eX)(p:List (Nat×AV×Bool×Nat×AV))(l:List (Nat×Nat×e_))(K:DS->Prop)(v:AV):
  tE P dep lo k i r ⟨L,R,h,p,l⟩ K v h'=(mC dep lo k i l h'=true/\py dep i (j9 (lu dep i l) h') p/\gP P dep lo k r ⟨L,(i,v) :: R,j9 (lu dep i l) h',p,l⟩ K):=Vc rfl rfl
theorem iG (r:List DO)(L R:fX)(h h':eX)(p:List (Nat×AV×Bool×Nat×AV))(K:DS->Prop)(v:AV):
  tE P dep lo 0 i r ⟨L,R,h,p,[]⟩ K v h'=(py dep i h' p/\gP P dep lo 0 r ⟨L,(i,v) :: R,h',p,[]⟩ K):=by
 simp[tE,lu,mC,j9,DS.aD]
theorem Px (lo:Nat)(x:AV):gN lo 0 x=true:=by cases x<;>simp[gN];omega
theorem Mb (s:Nat)(L R:fX)(h:eX)(p:List (Nat×AV×Bool×Nat×AV))(l:List (Nat×Nat×e_)):DS.aA ⟨L,R,h,p,l⟩ (.aC s)=lk s L:=Vc rfl rfl
theorem Mc (s:Nat)(L R:fX)(h:eX)(p:List (Nat×AV×Bool×Nat×AV))(l:List (Nat×Nat×e_)):DS.aA ⟨L,R,h,p,l⟩ (.aD s)=lk s R:=Vc rfl rfl
theorem Ma (v:AV)(d:DS):d.aA (.aA v)=v:=Vc rfl rfl
theorem TC (i:Nat)(v:AV)(L R:fX)(h:eX)(p:List (Nat×AV×Bool×Nat×AV))(l:List (Nat×Nat×e_)):DS.aD ⟨L,R,h,p,l⟩ i v=⟨L,(i,v) :: R,h,p,l⟩:=Vc rfl rfl
theorem OV:lu dep i []=[]:=Vc rfl rfl
theorem ND (h:eX):ki [] h=h:=Vc rfl rfl
theorem SW (h:eX):j9 [] h=h:=Vc rfl rfl
theorem J5 (h:eX):py dep i h []=True:=Vc rfl rfl
theorem J4 (h:eX)(q:Nat)(x:AV)(agg:Bool)(n:Nat)(v:AV)(r:List (Nat×AV×Bool×Nat×AV)):
  py dep i h ((q,x,agg,n,v) :: r)=((dep i q=true\/ir h agg n x=some v)/\py dep i h r):=Vc rfl rfl
theorem UF (hv:Bool)(op:iY)(r:List DO)(d:DS)(K:DS->Prop):oq P dep lo k (.aE true) true i nm hv op r d K=gP P dep lo k (⟨i,nm,hv,op,none⟩ :: r) d K:=by simp[oq]
theorem UC (hv:Bool)(op:iY)(r:List DO)(d:DS)(K:DS->Prop):oq P dep lo k (.aE false) false i nm hv op r d K=gP P dep lo k (⟨i,nm,hv,op,none⟩ :: r) d K:=by simp[oq]
theorem UE (hv:Bool)(op:iY)(r:List DO)(d:DS)(K:DS->Prop):oq P dep lo k (.aE true) false i nm hv op r d K=gP P dep lo k r (d.aD i (.aI [])) K:=by simp[oq]
theorem UD (hv:Bool)(op:iY)(r:List DO)(d:DS)(K:DS->Prop):oq P dep lo k (.aE false) true i nm hv op r d K=gP P dep lo k r (d.aD i (.aI [])) K:=by simp[oq]
theorem UG (cs:List AV)(e:Bool)(hv:Bool)(op:iY)(r:List DO)(d:DS)(K:DS->Prop):oq P dep lo k (.aI cs) e i nm hv op r d K=gP P dep lo k r (d.aD i (.aI [])) K:=Vc rfl rfl
end
theorem KD (res:List kb)(K:AV->eX->Prop)(st:St):iE res K .aC st=(match kU st res with | some l=>K (pJ l) st.h | none=>False):=Vc rfl rfl
theorem KC (res:List kb)(K:AV->eX->Prop)(st:St):iE res K .aA st=(match kU st res with | some l=>K (pJ l) st.h | none=>False):=Vc rfl rfl
end
mutual
def AV.aJ (k:Nat):AV->Bool
 | .aC n _ _ _=>decide (n<k)
 | .aG n _ _ _ _=>decide (n<k)
 | .aO t cs=>decide (t<=k) && AV.aP k cs
 | .aM t _ _ es=>(es.isEmpty || decide (t<=k)) && AV.aS k es
 | .aF cs=>AV.aP k cs
 | .aI cs=>AV.aP k cs
 | .aK _ fs cs=>AV.aP k fs && AV.aP k cs
 | .aT _ v=>AV.aJ k v
 | _=>true
def AV.aP (k:Nat):List AV->Bool
 | []=>true
 | v :: r=>AV.aJ k v && AV.aP k r
def AV.aS (k:Nat):List (List AV)->Bool
 | []=>true
 | v :: r=>AV.aP k v && AV.aS k r
end
theorem sQ {k:Nat}:∀{cs:List AV},AV.aP k cs=true->∀(j:Nat)(c:AV),cs[j]?=some c->c.aJ k=true:=by
 intro cs;induction cs with
 | nil=>intro _ j c h;simp at h
 | cons v r ih=>
  intro h j c hj;simp only[AV.aP,Vq]at h;cases j with
  | zero=>simp at hj;subst hj;exact h.1
  | succ j=>exact ih h.2 j c (by simpa using hj)
theorem KP {k:Nat}:∀{es:List (List AV)},AV.aS k es=true->∀(i j:Nat)(c:AV),gw es i j=some c->c.aJ k=true:=by
 intro es;induction es with
 | nil=>intro _ i j c h;simp[gw]at h
 | cons v r ih=>
  intro h i j c hj;simp only[AV.aS,Vq]at h;cases i with
  | zero=>simp[gw]at hj;exact sQ h.1 j c hj
  | succ i=>exact ih h.2 i j c (by simpa [gw] using hj)
def Gh.aN (G:Gh)(k:Nat):Gh:={G with N:=k,aD:=λn=>G.aD n/\n<k,aF:=λn b=>G.aF n b/\n<k}
theorem CZ {G:Gh}{k t b:Nat}(ht:t<=k)(h:G.aL t b):(G.aN k).aL t b:=by
 cases t with
 | zero=>exact h
 | succ n=>exact⟨h,by omega⟩
theorem V.aV {G w av v k}(h:V G w av v)(hb:av.aJ k=true):V (G.aN k) w av v:=by
 induction h with
 | aI v=>exact .aI v
 | aG b=>exact .aG b
 | aD k n=>exact .aD k n
 | aQ s=>exact .aQ s
 | aP v=>exact .aP v
 | aO=>exact .aO
 | aL n sz i o b hn hl=>exact .aL n sz i o b (by simpa [AV.aJ,Gh.aN] using hb) hl
 | aN t cs b off f hp hc _ ih=>simp only[AV.aJ,Vq,VD]at hb;exact .aN t cs b off f (CZ hb.1 hp) hc (λj c hj=>ih j c hj (sQ hb.2 j c hj))
 | aC n sz off len cap c ty m b hn hl hle hcap hs hm=>exact .aC n sz off len cap c ty m b (by simpa [AV.aJ,Gh.aN] using hb) hl hle hcap hs hm
 | aH n sz cap hn hl hc=>exact .aH n sz cap (by simpa [AV.aJ,Gh.aN] using hb) hl hc
 | aE t clip sz es a cap f hl hcl hsp hp hes hc _ ih=>simp only[AV.aJ,Vq,We,VD,List.isEmpty_iff]at hb;exact .aE t clip sz es a cap f hl hcl hsp (λh=>CZ (hb.1.resolve_left h) (hp h)) hes hc (λi j c hj=>ih i j c hj (KP hb.2 i j c hj))
 | aF t clip sz=>exact .aF t clip sz
 | aJ cs vs hl _ ih=>exact .aJ cs vs hl (λj c v hc hv=>ih j c v hc hv (sQ (by simpa [AV.aJ] using hb) j c hc))
 | aM cs vs hl _ ih=>exact .aM cs vs hl (λj c v hc hv=>ih j c v hc hv (sQ (by simpa [AV.aJ] using hb) j c hc))
 | aK f fs us cs vs hl _ hl' _ ih ih'=>simp only[AV.aJ,Vq]at hb;exact .aK f fs us cs vs hl (λj c v hc hv=>ih j c v hc hv (sQ hb.1 j c hc)) hl' (λj c v hc hv=>ih' j c v hc hv (sQ hb.2 j c hc))
 | aR t c v _ ih=>exact .aR t c v (ih (by simpa [AV.aJ] using hb))
theorem sR {k:Nat}:∀{cs:List AV},(∀(j:Nat)(c:AV),cs[j]?=some c->c.aJ k=true)->AV.aP k cs=true:=by
 intro cs;induction cs with
 | nil=>intro _;rfl
 | cons v r ih=>intro h;simp only[AV.aP,Vq];exact⟨h 0 v rfl,ih λj c hj=>h (j+1) c (by simpa using hj)⟩
theorem KQ {k:Nat}:∀{es:List (List AV)},(∀(i j:Nat)(c:AV),gw es i j=some c->c.aJ k=true)->AV.aS k es=true:=by
 intro es;induction es with
 | nil=>intro _;rfl
 | cons v r ih=>intro h;simp only[AV.aS,Vq];exact⟨sR λj c hj=>h 0 j c (by simpa [gw] using hj),ih λi j c hj=>h (i+1) j c (by simpa [gw] using hj)⟩
theorem fO.aS {G w h}(g:fO G w h){t b:Nat}(hp:G.aL t b):t<=G.N:=by
 cases t with
 | zero=>exact Vk _
 | succ n=>exact g.aP (g.aE n b hp)
theorem V.aY {G w h}(g:fO G w h){av v}(hv:V G w av v):av.aJ G.N=true:=by
 induction hv with
 | aI v=>rfl
 | aG b=>rfl
 | aD k n=>rfl
 | aQ s=>rfl
 | aP v=>rfl
 | aO=>rfl
 | aL n sz i o b hn hl=>simpa [AV.aJ] using hn
 | aN t cs b off f hp hc _ ih=>simp only[AV.aJ,Vq,VD];exact⟨g.aS hp,sR λj c hj=>ih j c hj⟩
 | aC n sz off len cap c ty m b hn hl hle hcap hs hm=>simpa [AV.aJ] using hn
 | aH n sz cap hn hl hc=>simpa [AV.aJ] using hn
 | aE t clip sz es a cap f hl hcl hsp hp hes hc _ ih=>
  simp only[AV.aJ,Vq,We,VD,List.isEmpty_iff];refine⟨?_,KQ λi j c hj=>ih i j c hj⟩;by_cases h:es=[];·exact .inl h
  ·exact .inr (g.aS (hp h))
 | aF t clip sz=>simp[AV.aJ,AV.aS]
 | aJ cs vs hl hv ih=>refine sR λj c hj=>?_;have hlt:=(UY.1 hj).1;exact ih j c _ hj (by simp[<-hl,hlt]:vs[j]?=some (vs[j]'(by omega)))
 | aM cs vs hl hv ih=>refine sR λj c hj=>?_;have hlt:=(UY.1 hj).1;exact ih j c _ hj (by simp[<-hl,hlt]:vs[j]?=some (vs[j]'(by omega)))
 | aK f fs us cs vs hl _ hl' _ ih ih'=>
  simp only[AV.aJ,Vq];refine⟨sR λj c hj=>?_,sR λj c hj=>?_⟩;·have hlt:=(UY.1 hj).1;exact ih j c _ hj (by simp[<-hl,hlt]:us[j]?=some (us[j]'(by omega)))
  ·have hlt:=(UY.1 hj).1;exact ih' j c _ hj (by simp[<-hl',hlt]:vs[j]?=some (vs[j]'(by omega)))
 | aR t c v _ ih=>exact ih
def eW (F:Nat->Prop)(h h':eX):Prop:=h.length<=h'.length/\∀m,m<h.length->¬F m->h'[m]?=h[m]?
def eZ:Nat->Prop:=λ_=>False
theorem fO.bM {G w h G' w' h'} (g : fO G w h) (g' : fO G' w' h') (s : gI G w G' w') (hx : eW eZ h h') : fO (G'.aN h.length) w' h /\ gI G w (G'.aN h.length) w' := by
  have hN : h.length = G.N := g.aA;have same : ∀ n, n < h.length -> h'[n]? = h[n]? := λn hn => hx.2 n hn (λx => x);have lt : ∀ {n : Nat} {x : Option e_}, h[n]? = some x -> n < h.length := λhn => (UY.1 hn).1;have k : ic G w (G'.aN h.length) w' := by refine ⟨Nat.le_of_eq hN.symm, λn b hn hb => s.aA.aA n b hn hb, λn hn hb => s.aA.aF n hn hb, λt b hp => ?_, s.aA.aD, s.aA.aE⟩;exact CZ (by rw [hN]; exact g.aS hp) (s.aA.aC t b hp)
  refine ⟨{ aA := rfl, aD := ?_, aE := ?_, inj := fun a b c h1 h2 => g'.inj a b c h1.1 h2.1, aF := fun a b c h1 hl h2 => g'.aF a b c h1.1 hl h2.1,
            aG := λa b h1 => g'.aG a b h1.1, aL := λa b c h1 h2 => g'.aL a b c h1.1 h2.1, aM := λa b h1 => g'.aM a b h1.1, aH := λa b h1 => g'.aH a b h1.1,
            aJ := g'.aJ, aC := ?_, aI := ?_, aK := g'.aK }, ?_⟩
  · intro n
    constructor
    · rintro ⟨hl, hn⟩
      obtain ⟨⟨a, b, c, hh⟩, hb⟩ := (g'.aD n).1 hl;exact ⟨⟨a, b, c, by rw [<- same n hn]; exact hh⟩, hb⟩
    · rintro ⟨⟨a, b, c, hh⟩, hb⟩
      have hn := lt hh;exact ⟨(g'.aD n).2 ⟨⟨a, b, c, by rw [same n hn]; exact hh⟩, hb⟩, hn⟩
  · rintro n b ⟨ht, hn⟩
    rw [<- same n hn]; exact g'.aE n b ht
  · intro n sz es gr b hh hb
    have hn := lt hh;obtain ⟨⟨cells, ty, hc, h1, h2, h3⟩, hs⟩ := g'.aC n sz es gr b (by rw [same n hn]; exact hh) hb;have e : G.aA n = some b := by rw [<- s.aF n (by omega)]; exact hb
    obtain ⟨⟨cells0, ty0, hc0, _, _, C⟩, _⟩ := g.aC n sz es gr b hh e;refine ⟨⟨cells, ty, hc, h1, h2, λi j c hj => ?_⟩, hs⟩;obtain ⟨v, hv, hV⟩ := h3 i j c hj;obtain ⟨v0, _, u⟩ := C i j c hj;exact ⟨v, hv, hV.aV (by rw [hN]; exact u.aY g)⟩
  · intro n sz es gr hh hb
    exact g'.aI n sz es gr (by rw [same n (lt hh)]; exact hh) hb
  · refine ⟨k, s.S, s.aF, s.aJ, s.aC, s.aE, λb hb => ?_, s.aH⟩
    refine s.aG b ?_;rcases hb with ⟨n, hn, hl⟩ | ⟨n, hn⟩
    · exact .inl ⟨n, hn.1, hl⟩
    · exact .inr ⟨n, hn.1⟩
theorem fC.aG {P:Program}{f:FuncId}{u:List AV}{h:eX}{K:AV->eX->Prop}{K':AV->Prop}(hc:fC P f u h K)
  (hk:∀r h',K r h'->eW eZ h h'/\r.aJ h.length=true/\K' r):fC P f u h λr h'=>h'=h/\K' r:=by
 intro G w vs hg hv;refine (hc G w vs hg hv).mono ?_;rintro e w' ⟨v,r,h',G',rfl,hK,C,hV,hs⟩;obtain⟨hx,hb,E⟩:=hk r h' hK;obtain⟨g2,s2⟩:=hg.bM C hs hx;exact⟨v,r,h,_,rfl,⟨rfl,E⟩,g2,hV.aV hb,s2⟩
theorem eW.aC (F:Nat->Prop)(h:eX):eW F h h:=⟨U8 _,λ_ _ _=>rfl⟩
theorem eW.aF (F:Nat->Prop)(h x:eX):eW F h (h++x):=⟨by simp,λm hm _=>Vy hm⟩
theorem eW.aD {F F' F'':Nat->Prop}{h h1 h2:eX}(a:eW F h h1)(b:eW F' h1 h2)(hF:∀m,m<h.length->F m->F'' m)(e:∀m,m<h.length->F' m->F'' m):eW F'' h h2:=
 ⟨Vh a.1 b.1,λm hm hn=>by rw[b.2 m (Vj hm a.1) (λx=>hn (e m hm x)),a.2 m hm (λx=>hn (hF m hm x))]⟩
theorem eW.tr {h h1 h2:eX}(a:eW eZ h h1)(b:eW eZ h1 h2):eW eZ h h2:=a.aD b (λ_ _ x=>x) (λ_ _ x=>x)
theorem eW.aI {F:Nat->Prop}{h:eX}{n:Nat}(x:Option e_)(hn:n<h.length->F n):eW F h (h.set n x):=
 ⟨by simp,λm hm hF=>UZ (by rintro rfl;exact hF (hn hm))⟩
theorem eW.aK {F F':Nat->Prop}{h h':eX}(a:eW F h h')(hF:∀m,m<h.length->F m->F' m):eW F' h h':=⟨a.1,λm hm hn=>a.2 m hm (λx=>hn (hF m hm x))⟩
theorem eW.aA {h h':eX}(a:eW eZ h h'){n:Nat}{x:Option e_} (hn:h[n]?=some x):h'[n]?=some x:=by rw[a.2 n (UY.1 hn).1 (λx=>x)];exact hn
attribute [go_sem] reduceEqDiff reduceAdd reduceLeDiff reducePow reduceDiv reduceMod decide_true reduceIte
end Glb
