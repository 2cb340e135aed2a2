/-
  A library of its own.
-/
import Derived.Test.YtdeiamnhnfmilaaGreatGlbLibB
set_option linter.unusedSimpArgs false
set_option linter.unusedVariables false
open Nat (reduceAdd reduceDiv reduceEqDiff reduceLeDiff reduceMod reducePow)
namespace Glb
open Go
def TU:Value->Value->Bool
 | .pointer none,.pointer none=>true
 | .nilIface,.nilIface=>true
 | .nilFunc,.nilFunc=>true
 | .map none,.map none=>true
 | _,_=>false
mutual
def AV.aV:AV->AV->Bool
 | .aR,.aR=>true
 | .aD a,.aD b=>a == b
 | .aA k a,.aA l b=>decide (k=l) && decide (a=b)
 | .aP a,.aP b=>decide (a=b)
 | .aO a,.aO b=>TU a b
 | .aB,.aB=>true
 | .aC a b c d,.aC a' b' c' d'=>a == a' && b == b' && c == c' && d == d'
 | .aN t cs,.aN t' cs'=>t == t' && AV.aU cs cs'
 | .aF a b c d e,.aF a' b' c' d' e'=>a == a' && b == b' && c == c' && d == d' && decide (e=e')
 | .aL t c s es,.aL t' c' s' es'=>t == t' && c == c' && s == s' && AV.aW es es'
 | .aE cs,.aE cs'=>AV.aU cs cs'
 | .aI cs,.aI cs'=>AV.aU cs cs'
 | .aM f fs cs,.aM f' fs' cs'=>f == f' && AV.aU fs fs' && AV.aU cs cs'
 | .aT t v,.aT t' v'=>t == t' && AV.aV v v'
 | _,_=>false
def AV.aU:List AV->List AV->Bool
 | [],[]=>true
 | a :: r,b :: s=>AV.aV a b && AV.aU r s
 | _,_=>false
def AV.aW:List (List AV)->List (List AV)->Bool
 | [],[]=>true
 | a :: r,b :: s=>AV.aU a b && AV.aW r s
 | _,_=>false
end
section
variable {P:Program}
end
end Glb
namespace Glb
open Go Go.RowKit
def vN (W W':World):Prop:=W.keptBut W' (λ_=>False)/\(∀a,a.block<W.heap.size->W'.frozen? a=W.frozen? a)/\W.heap.size<=W'.heap.size
theorem vN.aA {W W':World}(h:vN W W')(b:MemPlace->Prop):W.keptBut W' b:=World.keptBut_mono (λ_ f=>f.elim) h.1
theorem gE.aL {G w G' w'}(s:gE G w G' w')(t:∀b,¬G.aI b):vN w w':=by
 refine⟨⟨s.aG.1,s.aG.2.1,λi hi=>?_⟩,s.aG.2.2.2,s.aB⟩;rw[s.aD i hi (t i)];cases w.heap[i]? with
 | none=>rfl
 | some o=>cases o<;>simp
def Is (P:Program)(f:FuncId)(c:fH):Prop:=pJ P c.aC f=some c/\fI P f=true
theorem fN {P : Program} {f : FuncId} {c : fH} {b : List AV} {h : eZ} {K : AV -> eZ -> Prop} (hf : Is P f c) (hk : vc P c.aA (np c.aC b h) (ia c.aB K)) (hn : Nat.ble b.length c.n = true := by rfl) : fy P f b h K :=
 qM hf.1 (Wd hn) hk
section
variable {P:Program}
def oR:Option AV->(AV->Prop)->Prop
 | some v,k=>k v
 | none,_=>False
def oH:Option (AV×eZ)->(AV->eZ->Prop)->Prop
 | some (v,h),k=>k v h
 | none,_=>False
def qQ (P:Program)(b:AC)(K:AX->St->Prop):AX->St->Prop
 | .aA,st=>vc P b st K
 | .aC id,st=>K (.aC id) st
 | .aB,st=>K .aB st
def uD (K:AX->St->Prop):St->Prop:=λst=>K .aA ⟨st.L,[],st.h⟩
def kN (K:AX->St->Prop):St->Prop:=λst=>K .aA st
def xn (id:Nat)(K:AX->St->Prop):AX->St->Prop
 | .aA,st=>K .aA st
 | .aC id',st=>if id'=id then K .aA st else K (.aC id') st
 | .aB,st=>K .aB st
def uC (I:Nat->fY->eZ->Prop)(m:Nat)(K:AX->St->Prop):AX->St->Prop
 | .aA,st=>∃m',m'<m/\st.R=[]/\I m' st.L st.h
 | .aC id,st=>K (.aC id) st
 | .aB,st=>K .aB st
def xp (P:Program)(d:ju)(r:List AO)(st:St)(k:St->Prop):AV->Prop:=λv=>gP P r (st.aB d v) k
def qP (P:Program)(d:ju)(r:List AO)(st:St)(k:St->Prop):AV->eZ->Prop:=λv h=>gP P r {st.aB d v with h:=h} k
def nI (P:Program)(f:FuncId)(avs:List AV)(h:eZ)(K:AV->eZ->Prop):Prop:=fI P f=true/\fy P f avs h K
def uX (P:Program)(x:AV)(args:List AV)(h:eZ)(K:AV->eZ->Prop):Prop:=
 match x with
 | .aM f fs cs=>nI P f (fs++args++cs) h K
 | _=>False
def oj (P:Program)(v:AV)(a b:AC)(st:St)(K:AX->St->Prop):Prop:=
 match v with
 | .aD t=>(t=true->vc P a st K)/\(t=false->vc P b st K)
 | _=>False
def mA (P:Program)(v:AV)(want:Bool)(d:ju)(op:i_)(r:List AO)(st:St)(k:St->Prop):Prop:=
 match v with
 | .aD b=>(b=want->gP P (⟨d,op,none⟩ :: r) st k)/\(b=(!want)->gP P r (st.aB d (.aI [])) k)
 | .aI _=>gP P r (st.aB d (.aI [])) k
 | _=>False
theorem UJ (st:St)(K:AX->St->Prop):vc P .aJ st K=K .aA st:=Vn rfl rfl
theorem UH (st:St)(K:AX->St->Prop):vc P .aI st K=K .aB st:=Vn rfl rfl
theorem UF (id:Nat)(st:St)(K:AX->St->Prop):vc P (.aM id) st K=K (.aC id) st:=Vn rfl rfl
theorem UG (ops:List AO)(st:St)(K:AX->St->Prop):vc P (.aC ops) st K=gP P ops st (uD K):=Vn rfl rfl
theorem UI (a b:AC)(st:St)(K:AX->St->Prop):vc P (.aB a b) st K=vc P a st (qQ P b K):=by simp only[vc];congr 1;funext x st';cases x<;>rfl
theorem UC (id:Nat)(b:AC)(st:St)(K:AX->St->Prop):vc P (.aD id b) st K=vc P b st (xn id K):=by simp only[vc];congr 1;funext x st';cases x<;>rfl
theorem UD (c:fJ)(a b:AC)(st:St)(K:AX->St->Prop):vc P (.aE c a b) st K=oj P (st.aA c) a b st K:=by simp only[vc,oj];generalize st.aA c=v;cases v<;>rfl
theorem Pn (b:AC)(K:AX->St->Prop)(st:St):qQ P b K .aA st=vc P b st K:=Vn rfl rfl
theorem Pm (b:AC)(K:AX->St->Prop)(id:Nat)(st:St):qQ P b K (.aC id) st=K (.aC id) st:=Vn rfl rfl
theorem Po (b:AC)(K:AX->St->Prop)(st:St):qQ P b K .aB st=K .aB st:=Vn rfl rfl
theorem OY (id:Nat)(K:AX->St->Prop)(st:St):xn id K .aA st=K .aA st:=Vn rfl rfl
theorem OX (id b:Nat)(K:AX->St->Prop)(st:St):xn id K (.aC b) st=if b=id then K .aA st else K (.aC b) st:=Vn rfl rfl
theorem OZ (id:Nat)(K:AX->St->Prop)(st:St):xn id K .aB st=K .aB st:=Vn rfl rfl
theorem Pk (K:AX->St->Prop)(L R:fY)(h:eZ):uD K ⟨L,R,h⟩=K .aA ⟨L,[],h⟩:=Vn rfl rfl
theorem Pb (K:AX->St->Prop)(st:St):kN K st=K .aA st:=Vn rfl rfl
theorem O_ (I:Nat->fY->eZ->Prop)(m:Nat)(K:AX->St->Prop)(L:fY)(h:eZ):uC I m K .aA ⟨L,[],h⟩=∃m',m'<m/\I m' L h:=by simp[uC]
theorem O9 (I:Nat->fY->eZ->Prop)(m:Nat)(K:AX->St->Prop)(id:Nat)(st:St):uC I m K (.aC id) st=K (.aC id) st:=Vn rfl rfl
theorem Pa (I:Nat->fY->eZ->Prop)(m:Nat)(K:AX->St->Prop)(st:St):uC I m K .aB st=K .aB st:=Vn rfl rfl
theorem IT {o:AO}{st:St}{k k':St->Prop}(hk:∀s,k s->k' s)(h:l_ P o st k):l_ P o st k':=by
 unfold l_ at h ⊢;split
 ·rename_i ro he;(try simp only[he]at h);split at h;·rename_i v hv;(try simp only[hv]);exact hk _ h
  ·exact h.elim
 ·rename_i ho he;(try simp only[he]at h);split at h;·rename_i v h' hv;(try simp only[hv]);exact hk _ h
  ·exact h.elim
 ·rename_i f args he;(try simp only[he]at h);exact⟨h.1,h.2.aA λ_ _ x=>hk _ x⟩
 ·rename_i x args he;(try simp only[he]at h);split at h;·rename_i f fs cs hx;(try simp only[hx]);exact⟨h.1,h.2.aA λ_ _ x=>hk _ x⟩
  ·exact h.elim
theorem DA:∀(l:List AO){st:St}{k k':St->Prop},(∀s,k s->k' s)->gP P l st k->gP P l st k':=by
 intro l;induction l with
 | nil=>intro st k k' hk h;exact hk _ h
 | cons o r ih=>
  intro st k k' hk h;simp only[gP]at h ⊢;split;·rename_i hg;(try simp only[hg]at h);exact IT (λs hs=>ih hk hs) h
  ·rename_i x want hg;try simp only[hg]at h;split at h;·rename_i b hb;(try simp only[hb]);exact⟨λe=>IT (λs hs=>ih hk hs) (h.1 e),λe=>ih hk (h.2 e)⟩
   ·rename_i cs hb;(try simp only[hb]);exact ih hk h
   ·exact h.elim
theorem Dy {dep:Nat->Nat->Bool}{lo n i:Nat}{d:DS}{xs:List (Nat×Nat×fh)}{v:AV}{h':eZ}{k k':DS->Prop}(hk:∀s,k s->k' s)
  (h:tj dep lo n i d xs v h' k):tj dep lo n i d xs v h' k':=⟨h.1,h.2.1,hk _ h.2.2⟩
theorem IS {dep:Nat->Nat->Bool}{lo n:Nat}{o:DO}{d:DS}{k k':DS->Prop}(hk:∀s,k s->k' s)(h:kE P dep lo n o d k):kE P dep lo n o d k':=by
 unfold kE at h ⊢;split<;>rename_i h1 h2<;>(try simp only[h1,h2]at h)
 ·split at h;·rename_i v hv;(try simp only[hv]);exact⟨h.1,hk _ h.2⟩
  ·exact h.elim
 ·rename_i hne;split at h;·rename_i v hv;(try simp only[hv]);exact hk _ h
  ·exact h.elim
 ·split at h;·rename_i v b hv;(try simp only[hv]);exact hk _ h
  ·exact h.elim
 ·split at h;·rename_i v h' hv;(try simp only[hv]);exact Dy hk h
  ·exact h.elim
 ·exact⟨h.1,h.2.aA λ_ _ x=>Dy hk x⟩
 ·split at h;·rename_i f fs cs hx;(try simp only[hx]);exact⟨h.1,h.2.aA λ_ _ x=>Dy hk x⟩
  ·exact h.elim
theorem Uk {dep:Nat->Nat->Bool}{lo n:Nat}:∀(l:List DO){d:DS}{k k':DS->Prop},(∀s,k s->k' s)->gI P dep lo n l d k->gI P dep lo n l d k':=by
 intro l;induction l with
 | nil=>intro d k k' hk h;exact hk _ h
 | cons o r ih=>
  intro d k k' hk h;simp only[gI]at h ⊢;split;·rename_i hg;(try simp only[hg]at h);exact IS (λs hs=>ih hk hs) h
  ·rename_i x want hg;try simp only[hg]at h;split at h;·rename_i b hb;(try simp only[hb]);exact⟨λe=>IS (λs hs=>ih hk hs) (h.1 e),λe=>ih hk (h.2 e)⟩
   ·rename_i cs hb;(try simp only[hb]);exact ih hk h
   ·exact h.elim
theorem oi:∀(c:AC){st:St}{K K':AX->St->Prop},(∀x s,K x s->K' x s)->vc P c st K->vc P c st K':=by
 intro c;induction c with
 | aJ=>intro st K K' hk h;exact hk _ _ h
 | aC ops=>intro st K K' hk h;exact DA ops (λs hs=>hk _ _ hs) h
 | aK r=>intro st K K' hk h;exact Uk r.aB (λs hs=>hk _ _ hs) h
 | aB a b iha ihb=>
  intro st K K' hk h;refine iha ?_ h;intro x s hs;cases x with
  | aA=>exact ihb hk hs
  | aC id=>exact hk _ _ hs
  | aB=>exact hk _ _ hs
 | aE c a b iha ihb=>
  intro st K K' hk h;simp only[vc]at h ⊢;split at h;·rename_i t ht;(try simp only[ht]);exact⟨λe=>iha hk (h.1 e),λe=>ihb hk (h.2 e)⟩
  ·exact h.elim
 | aD id b ih=>
  intro st K K' hk h;refine ih ?_ h;intro x s hs;cases x with
  | aA=>exact hk _ _ hs
  | aC id'=>
   simp only at hs ⊢;split<;>rename_i e;·rw[Vf e]at hs;exact hk _ _ hs
   ·rw[Ve e]at hs;exact hk _ _ hs
  | aB=>exact hk _ _ hs
 | aF b ih=>
  rintro st K K' hk ⟨I,h0,u⟩;refine⟨I,h0,λm s hI=>ih ?_ (u m s hI)⟩;intro x s hs;cases x with
  | aA=>exact hs
  | aC id=>exact hk _ _ hs
  | aB=>exact hk _ _ hs
 | aM id=>intro st K K' hk h;exact hk _ _ h
 | aI=>intro st K K' hk h;exact hk _ _ h
 | aL=>intro st K K' hk h;exact h.elim
theorem gJ (I:Nat->fY->eZ->Prop)(m:Nat){b:AC}{L:fY}{h:eZ}{K:AX->St->Prop}(h0:I m L h)
  (step:∀m L h,I m L h->vc P b ⟨L,[],h⟩ (uC I m K)):vc P (.aF b) ⟨L,[],h⟩ K:=by
 refine⟨λm s=>s.R=[]/\I m s.L s.h,⟨m,_,Wk.aA _,rfl,h0⟩,λm s hI=>?_⟩;obtain⟨L,R,h⟩:=s;obtain⟨hR,hI⟩:=hI;simp only at hR hI;subst hR;refine oi b ?_ (step m L h hI);intro x s hs;cases x with
 | aA=>obtain⟨m',h1,h2,h3⟩:=hs;exact⟨m',s,h1,Wk.aA _,h2,h3⟩
 | aC id=>exact hs
 | aB=>exact hs
theorem UA (st:St)(k:St->Prop):gP P [] st k=k st:=Vn rfl rfl
theorem UB (d:ju)(ro:mZ)(r:List AO)(st:St)(k:St->Prop):
  gP P (⟨d,.r ro,none⟩ :: r) st k=oR (gB st.aA st.h ro) (xp P d r st k):=by
 simp only[gP,l_];cases gB st.aA st.h ro<;>rfl
theorem Uz (d:ju)(ho:mU)(r:List AO)(st:St)(k:St->Prop):
  gP P (⟨d,.h ho,none⟩ :: r) st k=oH (jE st.aA st.h ho) (qP P d r st k):=by
 simp only[gP,l_];cases jE st.aA st.h ho<;>rfl
theorem Uw (d:ju)(f:FuncId)(args:List fJ)(r:List AO)(st:St)(k:St->Prop):
  gP P (⟨d,.aB f args,none⟩ :: r) st k=nI P f (args.map st.aA) st.h (qP P d r st k):=Vn rfl rfl
theorem Ux (d:ju)(x:fJ)(args:List fJ)(r:List AO)(st:St)(k:St->Prop):
  gP P (⟨d,.aC x args,none⟩ :: r) st k=uX P (st.aA x) (args.map st.aA) st.h (qP P d r st k):=by
 simp only[gP,l_,uX];cases st.aA x<;>rfl
theorem Uy (d:ju)(op:i_)(x:fJ)(b:Bool)(r:List AO)(st:St)(k:St->Prop):
  gP P (⟨d,op,some (x,b)⟩ :: r) st k=mA P (st.aA x) b d op r st k:=by
 simp only[gP,mA];generalize hv:st.aA x=v;cases v<;>rfl
theorem Qe (v:AV)(k:AV->Prop):oR (some v) k=k v:=Vn rfl rfl
theorem Qc (v:AV)(h:eZ)(k:AV->eZ->Prop):oH (some (v,h)) k=k v h:=Vn rfl rfl
theorem Pg (r:List AO)(L R:fY)(h:eZ)(k:St->Prop)(v:AV):xp P .aC r ⟨L,R,h⟩ k v=gP P r ⟨L,R,h⟩ k:=Vn rfl rfl
theorem Pf (s:Nat)(r:List AO)(L R:fY)(h:eZ)(k:St->Prop)(v:AV):xp P (.aB s) r ⟨L,R,h⟩ k v=gP P r ⟨lG s v L,R,h⟩ k:=Vn rfl rfl
theorem Ph (s:Nat)(r:List AO)(L R:fY)(h:eZ)(k:St->Prop)(v:AV):xp P (.aA s) r ⟨L,R,h⟩ k v=gP P r ⟨L,(s,v) :: R,h⟩ k:=Vn rfl rfl
theorem Pd (r:List AO)(L R:fY)(h h':eZ)(k:St->Prop)(v:AV):qP P .aC r ⟨L,R,h⟩ k v h'=gP P r ⟨L,R,h'⟩ k:=Vn rfl rfl
theorem Pc (s:Nat)(r:List AO)(L R:fY)(h h':eZ)(k:St->Prop)(v:AV):qP P (.aB s) r ⟨L,R,h⟩ k v h'=gP P r ⟨lG s v L,R,h'⟩ k:=Vn rfl rfl
theorem Pe (s:Nat)(r:List AO)(L R:fY)(h h':eZ)(k:St->Prop)(v:AV):qP P (.aA s) r ⟨L,R,h⟩ k v h'=gP P r ⟨L,(s,v) :: R,h'⟩ k:=Vn rfl rfl
theorem NU (s:Nat)(L R:fY)(h:eZ):St.aA ⟨L,R,h⟩ (.aB s)=lk s L:=Vn rfl rfl
theorem NW (s:Nat)(L R:fY)(h:eZ):St.aA ⟨L,R,h⟩ (.aA s)=lk s R:=Vn rfl rfl
theorem NS (v:AV)(st:St):st.aA (.aC v)=v:=Vn rfl rfl
theorem PG (s:Nat):lk s []=.aR:=Vn rfl rfl
theorem ga (s t:Nat)(v:AV)(r:fY):lk s ((t,v) :: r)=if t=s then v else lk s r:=Vn rfl rfl
theorem U2 (d:ju)(op:i_)(r:List AO)(st:St)(k:St->Prop):mA P (.aD true) true d op r st k=gP P (⟨d,op,none⟩ :: r) st k:=by simp[mA]
theorem UZ (d:ju)(op:i_)(r:List AO)(st:St)(k:St->Prop):mA P (.aD false) false d op r st k=gP P (⟨d,op,none⟩ :: r) st k:=by simp[mA]
theorem U1 (d:ju)(op:i_)(r:List AO)(st:St)(k:St->Prop):mA P (.aD true) false d op r st k=gP P r (st.aB d (.aI [])) k:=by simp[mA]
theorem U0 (d:ju)(op:i_)(r:List AO)(st:St)(k:St->Prop):mA P (.aD false) true d op r st k=gP P r (st.aB d (.aI [])) k:=by simp[mA]
theorem U3 (cs:List AV)(b:Bool)(d:ju)(op:i_)(r:List AO)(st:St)(k:St->Prop):mA P (.aI cs) b d op r st k=gP P r (st.aB d (.aI [])) k:=Vn rfl rfl
theorem QN (L R:fY)(h:eZ)(v:AV):St.aB ⟨L,R,h⟩ .aC v=⟨L,R,h⟩:=Vn rfl rfl
theorem QM (s:Nat)(L R:fY)(h:eZ)(v:AV):St.aB ⟨L,R,h⟩ (.aB s) v=⟨lG s v L,R,h⟩:=Vn rfl rfl
theorem QO (s:Nat)(L R:fY)(h:eZ)(v:AV):St.aB ⟨L,R,h⟩ (.aA s) v=⟨L,(s,v) :: R,h⟩:=Vn rfl rfl
theorem ph {b:Bool}{d:ju}{op:i_}{r:List AO}{st:St}{k:St->Prop}(h1:b=true->gP P (⟨d,op,none⟩ :: r) st k)
  (h2:b=false->gP P r (st.aB d (.aI [])) k):mA P (.aD b) true d op r st k:=⟨h1,h2⟩
theorem DB {b:Bool}{d:ju}{op:i_}{r:List AO}{st:St}{k:St->Prop}(h1:b=false->gP P (⟨d,op,none⟩ :: r) st k)
  (h2:b=true->gP P r (st.aB d (.aI [])) k):mA P (.aD b) false d op r st k:=⟨h1,h2⟩
theorem UR (a b:AC)(st:St)(K:AX->St->Prop):oj P (.aD true) a b st K=vc P a st K:=by simp[oj]
theorem UQ (a b:AC)(st:St)(K:AX->St->Prop):oj P (.aD false) a b st K=vc P b st K:=by simp[oj]
theorem gx {t:Bool}{a b:AC}{st:St}{K:AX->St->Prop}(h1:t=true->vc P a st K)(h2:t=false->vc P b st K):oj P (.aD t) a b st K:=⟨h1,h2⟩
theorem fq {f:FuncId}{b:List AV}{h:eZ}{K K':AV->eZ->Prop}(hc:fI P f=true/\fy P f b h K')(hk:∀r h',K' r h'->K r h'):nI P f b h K:=
 ⟨hc.1,hc.2.aA hk⟩
theorem UP (f:FuncId)(fs cs args:List AV)(h:eZ)(K:AV->eZ->Prop):uX P (.aM f fs cs) args h K=nI P f (fs++args++cs) h K:=Vn rfl rfl
def OV:mZ->Bool
 | .aB _ _ _=>true
 | _=>false
def Hd (fin:List (Nat×Nat))(L:fY)(K:AX->St->Prop):DS->Prop:=λd=>K .aA ⟨ng d.R fin L,[],d.h⟩
def CL (masks:List Nat)(i j:Nat):Bool:=(masks.getD i 0).testBit j
def jR (P:Program)(dep:Nat->Nat->Bool)(lo k i:Nat)(r:List DO)(d:DS)(K:DS->Prop):AV->Prop:=λv=>gI P dep lo k r (d.aC i v) K
def He (P:Program)(dep:Nat->Nat->Bool)(lo k i:Nat)(agg:Bool)(n:Nat)(x:AV)(r:List DO)(d:DS)(K:DS->Prop):AV->Prop:=λv=>gN lo k x=true/\gI P dep lo k r {d.aC i v with aD:=(i,x,agg,n,v) :: d.aD} K
def oL (o:Option (AV×fh))(k:AV->fh->Prop):Prop:=match o with
 | some (v,b)=>k v b
 | none=>False
def Hc (P:Program)(dep:Nat->Nat->Bool)(lo k i nm:Nat)(r:List DO)(d:DS)(K:DS->Prop):AV->fh->Prop:=λv b=>gI P dep lo k r {d.aC i v with h:=d.h.set (lo+nm) (some b),aB:=(i,lo+nm,b) :: d.aB} K
def kM (dep:Nat->Nat->Bool)(i:Nat)(l:List (Nat×Nat×fh)):List (Nat×Nat×fh):=l.filter λx=>!dep i x.1
def sI (P:Program)(dep:Nat->Nat->Bool)(lo k i:Nat)(r:List DO)(d:DS)(K:DS->Prop):AV->eZ->Prop:=λv h'=>lT dep lo k i d.aB h'=true/\oN dep i (jG (kM dep i d.aB) h') d.aD/\gI P dep lo k r {d.aC i v with h:=jG (kM dep i d.aB) h'} K
def nJ (P:Program)(dep:Nat->Nat->Bool)(lo k:Nat)(v:AV)(want:Bool)(i nm:Nat)(hv:Bool)(op:i_)(r:List DO)(d:DS)(K:DS->Prop):Prop:=
 match v with
 | .aD b=>(b=want->gI P dep lo k (⟨i,nm,hv,op,none⟩ :: r) d K)/\(b=(!want)->gI P dep lo k r (d.aC i (.aI [])) K)
 | .aI _=>gI P dep lo k r (d.aC i (.aI [])) K
 | _=>False
theorem UE (masks:List Nat)(k:Nat)(items:List DO)(fin:List (Nat×Nat))(L R:fY)(h:eZ)(K:AX->St->Prop):
  vc P (.aK ⟨masks,k,items,fin⟩) ⟨L,R,h⟩ K=gI P (CL masks) h.length k items ⟨L,[],h++List.replicate k none,[],[]⟩ (Hd fin L K):=Vn rfl rfl
theorem O6 (fin:List (Nat×Nat))(L L' R:fY)(h:eZ)(p:List (Nat×AV×Bool×Nat×AV))(l:List (Nat×Nat×fh))(K:AX->St->Prop):Hd fin L K ⟨L',R,h,p,l⟩=K .aA ⟨ng R fin L,[],h⟩:=Vn rfl rfl
theorem Np (R L:fY):ng R [] L=L:=Vn rfl rfl
theorem No (R L:fY)(t i:Nat)(r:List (Nat×Nat)):ng R ((t,i) :: r) L=ng R r (lG t (lk i R) L):=Vn rfl rfl
section
variable {dep:Nat->Nat->Bool} {lo k i nm:Nat}
theorem Un (d:DS)(K:DS->Prop):gI P dep lo k [] d K=K d:=Vn rfl rfl
theorem j7 {ro:mZ}(h:OV ro=false)(r:List DO)(d:DS)(K:DS->Prop):gI P dep lo k (⟨i,nm,false,.r ro,none⟩ :: r) d K=oR (gB d.aA [] ro) (jR P dep lo k i r d K):=by
 simp only[gI,kE];cases ro with
 | aB=>cases h
 | _=>simp only;generalize gB d.aA [] _=o;cases o<;>rfl
theorem Ul (x:fJ)(r:List DO)(d:DS)(K:DS->Prop):gI P dep lo k (⟨i,nm,false,.r (.aA x),none⟩ :: r) d K=oR (gB d.aA [] (.aA x)) (jR P dep lo k i r d K):=j7 rfl r d K
theorem Ur (c a b:fJ)(r:List DO)(d:DS)(K:DS->Prop):gI P dep lo k (⟨i,nm,false,.r (.aE c a b),none⟩ :: r) d K=oR (gB d.aA [] (.aE c a b)) (jR P dep lo k i r d K):=j7 rfl r d K
theorem TX (z:List AV)(ps:List (Nat×Nat×fJ))(r:List DO)(d:DS)(K:DS->Prop):gI P dep lo k (⟨i,nm,false,.r (.aM z ps),none⟩ :: r) d K=oR (gB d.aA [] (.aM z ps)) (jR P dep lo k i r d K):=j7 rfl r d K
theorem T_ (x:fJ)(r:List DO)(d:DS)(K:DS->Prop):gI P dep lo k (⟨i,nm,false,.r (.aN x),none⟩ :: r) d K=oR (gB d.aA [] (.aN x)) (jR P dep lo k i r d K):=j7 rfl r d K
theorem TW (op:BinOp)(x y:fJ)(r:List DO)(d:DS)(K:DS->Prop):gI P dep lo k (⟨i,nm,false,.r (.aD op x y),none⟩ :: r) d K=oR (gB d.aA [] (.aD op x y)) (jR P dep lo k i r d K):=j7 rfl r d K
theorem TV (op:BinOp)(x y:fJ)(r:List DO)(d:DS)(K:DS->Prop):gI P dep lo k (⟨i,nm,false,.r (.aL op x y),none⟩ :: r) d K=oR (gB d.aA [] (.aL op x y)) (jR P dep lo k i r d K):=j7 rfl r d K
theorem Uo (b:Bool)(x:fJ)(r:List DO)(d:DS)(K:DS->Prop):gI P dep lo k (⟨i,nm,false,.r (.aK b x),none⟩ :: r) d K=oR (gB d.aA [] (.aK b x)) (jR P dep lo k i r d K):=j7 rfl r d K
theorem Up (x:fJ)(r:List DO)(d:DS)(K:DS->Prop):gI P dep lo k (⟨i,nm,false,.r (.aR x),none⟩ :: r) d K=oR (gB d.aA [] (.aR x)) (jR P dep lo k i r d K):=j7 rfl r d K
theorem Um (x:fJ)(r:List DO)(d:DS)(K:DS->Prop):gI P dep lo k (⟨i,nm,false,.r (.aQ x),none⟩ :: r) d K=oR (gB d.aA [] (.aQ x)) (jR P dep lo k i r d K):=j7 rfl r d K
theorem Ub (q:IntKind)(x:fJ)(r:List DO)(d:DS)(K:DS->Prop):gI P dep lo k (⟨i,nm,false,.r (.aO q x),none⟩ :: r) d K=oR (gB d.aA [] (.aO q x)) (jR P dep lo k i r d K):=j7 rfl r d K
theorem Us (sz:Nat)(x:fJ)(a b c:Option fJ)(r:List DO)(d:DS)(K:DS->Prop):gI P dep lo k (⟨i,nm,false,.r (.aS sz x a b c),none⟩ :: r) d K=oR (gB d.aA [] (.aS sz x a b c)) (jR P dep lo k i r d K):=j7 rfl r d K
theorem Uq (o:Nat)(x:fJ)(r:List DO)(d:DS)(K:DS->Prop):gI P dep lo k (⟨i,nm,false,.r (.aC o x),none⟩ :: r) d K=oR (gB d.aA [] (.aC o x)) (jR P dep lo k i r d K):=j7 rfl r d K
theorem Uf (sz:Nat)(x y:fJ)(r:List DO)(d:DS)(K:DS->Prop):gI P dep lo k (⟨i,nm,false,.r (.aI sz x y),none⟩ :: r) d K=oR (gB d.aA [] (.aI sz x y)) (jR P dep lo k i r d K):=j7 rfl r d K
theorem Uc (x:fJ)(j:Nat)(r:List DO)(d:DS)(K:DS->Prop):gI P dep lo k (⟨i,nm,false,.r (.aP x j),none⟩ :: r) d K=oR (gB d.aA [] (.aP x j)) (jR P dep lo k i r d K):=j7 rfl r d K
theorem Ug (x:fJ)(r:List DO)(d:DS)(K:DS->Prop):gI P dep lo k (⟨i,nm,false,.r (.aF x),none⟩ :: r) d K=oR (gB d.aA [] (.aF x)) (jR P dep lo k i r d K):=j7 rfl r d K
theorem Ut (x:fJ)(r:List DO)(d:DS)(K:DS->Prop):gI P dep lo k (⟨i,nm,false,.r (.aT x),none⟩ :: r) d K=oR (gB d.aA [] (.aT x)) (jR P dep lo k i r d K):=j7 rfl r d K
theorem Uj (b:Bool)(xs:List fJ)(r:List DO)(d:DS)(K:DS->Prop):gI P dep lo k (⟨i,nm,false,.r (.aJ b xs),none⟩ :: r) d K=oR (gB d.aA [] (.aJ b xs)) (jR P dep lo k i r d K):=j7 rfl r d K
theorem Ua (f:FuncId)(xs:List fJ)(r:List DO)(d:DS)(K:DS->Prop):gI P dep lo k (⟨i,nm,false,.r (.aG f xs),none⟩ :: r) d K=oR (gB d.aA [] (.aG f xs)) (jR P dep lo k i r d K):=j7 rfl r d K
theorem Uu (o:rO)(r:List DO)(d:DS)(K:DS->Prop):gI P dep lo k (⟨i,nm,false,.r (.x o),none⟩ :: r) d K=oR (gB d.aA [] (.x o)) (jR P dep lo k i r d K):=j7 rfl r d K
theorem Ui (agg:Bool)(n:Nat)(x:fJ)(r:List DO)(d:DS)(K:DS->Prop):
  gI P dep lo k (⟨i,nm,false,.r (.aB agg n x),none⟩ :: r) d K=oR (gX d.h agg n (d.aA x)) (He P dep lo k i agg n (d.aA x) r d K):=by
 simp only[gI,kE];generalize gX d.h agg n (d.aA x)=o;cases o<;>rfl
theorem Uh (ho:mU)(r:List DO)(d:DS)(K:DS->Prop):gI P dep lo k (⟨i,nm,false,.h ho,none⟩ :: r) d K=oL (iW d.aA (lo+nm) ho) (Hc P dep lo k i nm r d K):=by simp only[gI,kE];generalize iW d.aA (lo+nm) ho=o;cases o<;>rfl
theorem Ue (ho:mU)(r:List DO)(d:DS)(K:DS->Prop):gI P dep lo k (⟨i,nm,true,.h ho,none⟩ :: r) d K=oH (jE d.aA (jK (kM dep i d.aB) d.h) ho) (sI P dep lo k i r d K):=by simp only[gI,kE];show (match jE d.aA (jK (kM dep i d.aB) d.h) ho with | some (v,h')=>_ | none=>False)=_;generalize jE d.aA (jK (kM dep i d.aB) d.h) ho=o;cases o<;>rfl
theorem TY (f:FuncId)(args:List fJ)(r:List DO)(d:DS)(K:DS->Prop):
  gI P dep lo k (⟨i,nm,true,.aB f args,none⟩ :: r) d K=nI P f (args.map d.aA) (jK (kM dep i d.aB) d.h) (sI P dep lo k i r d K):=Vn rfl rfl
theorem TZ (x:fJ)(args:List fJ)(r:List DO)(d:DS)(K:DS->Prop):
  gI P dep lo k (⟨i,nm,true,.aC x args,none⟩ :: r) d K=uX P (d.aA x) (args.map d.aA) (jK (kM dep i d.aB) d.h) (sI P dep lo k i r d K):=by
 simp only[gI,kE,uX];cases d.aA x<;>rfl
theorem Ud (hv:Bool)(op:i_)(x:fJ)(b:Bool)(r:List DO)(d:DS)(K:DS->Prop):
  gI P dep lo k (⟨i,nm,hv,op,some (x,b)⟩ :: r) d K=nJ P dep lo k (d.aA x) b i nm hv op r d K:=by
 simp only[gI,nJ];generalize d.aA x=v;cases v<;>rfl
theorem Qd (v:AV)(b:fh)(k:AV->fh->Prop):oL (some (v,b)) k=k v b:=Vn rfl rfl
theorem O8 (r:List DO)(L R:fY)(h:eZ)(p:List (Nat×AV×Bool×Nat×AV))(l:List (Nat×Nat×fh))(K:DS->Prop)(v:AV):
  jR P dep lo k i r ⟨L,R,h,p,l⟩ K v=gI P dep lo k r ⟨L,(i,v) :: R,h,p,l⟩ K:=Vn rfl rfl
theorem O7 (agg:Bool)(n:Nat)(x:AV)(r:List DO)(L R:fY)(h:eZ)(p:List (Nat×AV×Bool×Nat×AV))(l:List (Nat×Nat×fh))(K:DS->Prop)(v:AV):
  He P dep lo k i agg n x r ⟨L,R,h,p,l⟩ K v=(gN lo k x=true/\gI P dep lo k r ⟨L,(i,v) :: R,h,(i,x,agg,n,v) :: p,l⟩ K):=Vn rfl rfl
theorem O5 (r:List DO)(L R:fY)(h:eZ)(p:List (Nat×AV×Bool×Nat×AV))(l:List (Nat×Nat×fh))(K:DS->Prop)(v:AV)(b:fh):
  Hc P dep lo k i nm r ⟨L,R,h,p,l⟩ K v b=gI P dep lo k r ⟨L,(i,v) :: R,h.set (lo+nm) (some b),p,(i,lo+nm,b) :: l⟩ K:=Vn rfl rfl
theorem O4 (r:List DO)(L R:fY)(h h':eZ)(p:List (Nat×AV×Bool×Nat×AV))(l:List (Nat×Nat×fh))(K:DS->Prop)(v:AV):
  sI P dep lo k i r ⟨L,R,h,p,l⟩ K v h'=(lT dep lo k i l h'=true/\oN dep i (jG (kM dep i l) h') p/\gI P dep lo k r ⟨L,(i,v) :: R,jG (kM dep i l) h',p,l⟩ K):=Vn rfl rfl
theorem gF (r:List DO)(L R:fY)(h h':eZ)(p:List (Nat×AV×Bool×Nat×AV))(K:DS->Prop)(v:AV):
  sI P dep lo 0 i r ⟨L,R,h,p,[]⟩ K v h'=(oN dep i h' p/\gI P dep lo 0 r ⟨L,(i,v) :: R,h',p,[]⟩ K):=by
 simp[sI,kM,lT,jG,DS.aC]
theorem HA (lo:Nat)(x:AV):gN lo 0 x=true:=by cases x<;>simp[gN];omega
theorem Ms (s:Nat)(L R:fY)(h:eZ)(p:List (Nat×AV×Bool×Nat×AV))(l:List (Nat×Nat×fh)):DS.aA ⟨L,R,h,p,l⟩ (.aB s)=lk s L:=Vn rfl rfl
theorem Mt (s:Nat)(L R:fY)(h:eZ)(p:List (Nat×AV×Bool×Nat×AV))(l:List (Nat×Nat×fh)):DS.aA ⟨L,R,h,p,l⟩ (.aA s)=lk s R:=Vn rfl rfl
theorem Mr (v:AV)(d:DS):d.aA (.aC v)=v:=Vn rfl rfl
theorem TT (i:Nat)(v:AV)(L R:fY)(h:eZ)(p:List (Nat×AV×Bool×Nat×AV))(l:List (Nat×Nat×fh)):DS.aC ⟨L,R,h,p,l⟩ i v=⟨L,(i,v) :: R,h,p,l⟩:=Vn rfl rfl
theorem PH:kM dep i []=[]:=Vn rfl rfl
theorem OM (h:eZ):jK [] h=h:=Vn rfl rfl
theorem Ts (h:eZ):jG [] h=h:=Vn rfl rfl
theorem Ky (h:eZ):oN dep i h []=True:=Vn rfl rfl
theorem Kx (h:eZ)(q:Nat)(x:AV)(agg:Bool)(n:Nat)(v:AV)(r:List (Nat×AV×Bool×Nat×AV)):
  oN dep i h ((q,x,agg,n,v) :: r)=((dep i q=true\/gX h agg n x=some v)/\oN dep i h r):=Vn rfl rfl
theorem UX (hv:Bool)(op:i_)(r:List DO)(d:DS)(K:DS->Prop):nJ P dep lo k (.aD true) true i nm hv op r d K=gI P dep lo k (⟨i,nm,hv,op,none⟩ :: r) d K:=by simp[nJ]
theorem UT (hv:Bool)(op:i_)(r:List DO)(d:DS)(K:DS->Prop):nJ P dep lo k (.aD false) false i nm hv op r d K=gI P dep lo k (⟨i,nm,hv,op,none⟩ :: r) d K:=by simp[nJ]
theorem UW (hv:Bool)(op:i_)(r:List DO)(d:DS)(K:DS->Prop):nJ P dep lo k (.aD true) false i nm hv op r d K=gI P dep lo k r (d.aC i (.aI [])) K:=by simp[nJ]
theorem UU (hv:Bool)(op:i_)(r:List DO)(d:DS)(K:DS->Prop):nJ P dep lo k (.aD false) true i nm hv op r d K=gI P dep lo k r (d.aC i (.aI [])) K:=by simp[nJ]
theorem UY (cs:List AV)(b:Bool)(hv:Bool)(op:i_)(r:List DO)(d:DS)(K:DS->Prop):nJ P dep lo k (.aI cs) b i nm hv op r d K=gI P dep lo k r (d.aC i (.aI [])) K:=Vn rfl rfl
end
theorem K4 (res:List jH)(K:AV->eZ->Prop)(st:St):ia res K .aB st=(match kC st res with | some l=>K (o9 l) st.h | none=>False):=Vn rfl rfl
theorem KZ (res:List jH)(K:AV->eZ->Prop)(st:St):ia res K .aA st=(match kC st res with | some l=>K (o9 l) st.h | none=>False):=Vn rfl rfl
end
mutual
def AV.aJ (k:Nat):AV->Bool
 | .aC n _ _ _=>decide (n<k)
 | .aF n _ _ _ _=>decide (n<k)
 | .aN t cs=>decide (t<=k) && AV.aQ k cs
 | .aL t _ _ es=>(es.isEmpty || decide (t<=k)) && AV.aS k es
 | .aE cs=>AV.aQ k cs
 | .aI cs=>AV.aQ k cs
 | .aM _ fs cs=>AV.aQ k fs && AV.aQ k cs
 | .aT _ v=>AV.aJ k v
 | _=>true
def AV.aQ (k:Nat):List AV->Bool
 | []=>true
 | v :: r=>AV.aJ k v && AV.aQ k r
def AV.aS (k:Nat):List (List AV)->Bool
 | []=>true
 | v :: r=>AV.aQ k v && AV.aS k r
end
theorem rR {k:Nat}:∀{cs:List AV},AV.aQ k cs=true->∀(j:Nat)(c:AV),cs[j]?=some c->c.aJ k=true:=by
 intro cs;induction cs with
 | nil=>intro _ j c h;simp at h
 | cons v r ih=>
  intro h j c hj;simp only[AV.aQ,VF]at h;cases j with
  | zero=>simp at hj;subst hj;exact h.1
  | succ j=>exact ih h.2 j c (by simpa using hj)
theorem K_ {k:Nat}:∀{es:List (List AV)},AV.aS k es=true->∀(i j:Nat)(c:AV),gi es i j=some c->c.aJ k=true:=by
 intro es;induction es with
 | nil=>intro _ i j c h;simp[gi]at h
 | cons v r ih=>
  intro h i j c hj;simp only[AV.aS,VF]at h;cases i with
  | zero=>simp[gi]at hj;exact rR h.1 j c hj
  | succ i=>exact ih h.2 i j c (by simpa [gi] using hj)
def Gh.aN (G:Gh)(k:Nat):Gh:={G with N:=k,aC:=λn=>G.aC n/\n<k,aE:=λn b=>G.aE n b/\n<k}
theorem Dd {G:Gh}{k t b:Nat}(ht:t<=k)(h:G.aL t b):(G.aN k).aL t b:=by
 cases t with
 | zero=>exact h
 | succ n=>exact⟨h,by omega⟩
theorem V.aV {G w av v k}(h:V G w av v)(hb:av.aJ k=true):V (G.aN k) w av v:=by
 induction h with
 | aI v=>exact .aI v
 | aF b=>exact .aF b
 | aB k n=>exact .aB k n
 | aQ s=>exact .aQ s
 | aP v=>exact .aP v
 | aO=>exact .aO
 | aL n sz i o b hn hl=>exact .aL n sz i o b (by simpa [AV.aJ,Gh.aN] using hb) hl
 | aN t cs b off f hp hc _ ih=>simp only[AV.aJ,VF,V4]at hb;exact .aN t cs b off f (Dd hb.1 hp) hc (λj c hj=>ih j c hj (rR hb.2 j c hj))
 | aC n sz off len cap c ty m b hn hl hle hcap hs hm=>exact .aC n sz off len cap c ty m b (by simpa [AV.aJ,Gh.aN] using hb) hl hle hcap hs hm
 | aG n sz cap hn hl hc=>exact .aG n sz cap (by simpa [AV.aJ,Gh.aN] using hb) hl hc
 | aD t clip sz es a cap f hl hcl hsp hp hes hc _ ih=>simp only[AV.aJ,VF,WM,V4,List.isEmpty_iff]at hb;exact .aD t clip sz es a cap f hl hcl hsp (λh=>Dd (hb.1.resolve_left h) (hp h)) hes hc (λi j c hj=>ih i j c hj (K_ hb.2 i j c hj))
 | aE t clip sz=>exact .aE t clip sz
 | aJ cs vs hl _ ih=>exact .aJ cs vs hl (λj c v hc hv=>ih j c v hc hv (rR (by simpa [AV.aJ] using hb) j c hc))
 | aM cs vs hl _ ih=>exact .aM cs vs hl (λj c v hc hv=>ih j c v hc hv (rR (by simpa [AV.aJ] using hb) j c hc))
 | aK f fs us cs vs hl _ hl' _ ih ih'=>simp only[AV.aJ,VF]at hb;exact .aK f fs us cs vs hl (λj c v hc hv=>ih j c v hc hv (rR hb.1 j c hc)) hl' (λj c v hc hv=>ih' j c v hc hv (rR hb.2 j c hc))
 | aR t c v _ ih=>exact .aR t c v (ih (by simpa [AV.aJ] using hb))
theorem rS {k:Nat}:∀{cs:List AV},(∀(j:Nat)(c:AV),cs[j]?=some c->c.aJ k=true)->AV.aQ k cs=true:=by
 intro cs;induction cs with
 | nil=>intro _;rfl
 | cons v r ih=>intro h;simp only[AV.aQ,VF];exact⟨h 0 v rfl,ih λj c hj=>h (j+1) c (by simpa using hj)⟩
theorem La {k:Nat}:∀{es:List (List AV)},(∀(i j:Nat)(c:AV),gi es i j=some c->c.aJ k=true)->AV.aS k es=true:=by
 intro es;induction es with
 | nil=>intro _;rfl
 | cons v r ih=>intro h;simp only[AV.aS,VF];exact⟨rS λj c hj=>h 0 j c (by simpa [gi] using hj),ih λi j c hj=>h (i+1) j c (by simpa [gi] using hj)⟩
theorem fS.aS {G w h}(g:fS G w h){t b:Nat}(hp:G.aL t b):t<=G.N:=by
 cases t with
 | zero=>exact VP _
 | succ n=>exact g.aP (g.aD n b hp)
theorem V.aY {G w h}(g:fS G w h){av v}(hv:V G w av v):av.aJ G.N=true:=by
 induction hv with
 | aI v=>rfl
 | aF b=>rfl
 | aB k n=>rfl
 | aQ s=>rfl
 | aP v=>rfl
 | aO=>rfl
 | aL n sz i o b hn hl=>simpa [AV.aJ] using hn
 | aN t cs b off f hp hc _ ih=>simp only[AV.aJ,VF,V4];exact⟨g.aS hp,rS λj c hj=>ih j c hj⟩
 | aC n sz off len cap c ty m b hn hl hle hcap hs hm=>simpa [AV.aJ] using hn
 | aG n sz cap hn hl hc=>simpa [AV.aJ] using hn
 | aD t clip sz es a cap f hl hcl hsp hp hes hc _ ih=>
  simp only[AV.aJ,VF,WM,V4,List.isEmpty_iff];refine⟨?_,La λi j c hj=>ih i j c hj⟩;by_cases h:es=[];·exact .inl h
  ·exact .inr (g.aS (hp h))
 | aE t clip sz=>simp[AV.aJ,AV.aS]
 | aJ cs vs hl hv ih=>refine rS λj c hj=>?_;have hlt:=(U_.1 hj).1;exact ih j c _ hj (by simp[<-hl,hlt]:vs[j]?=some (vs[j]'(by omega)))
 | aM cs vs hl hv ih=>refine rS λj c hj=>?_;have hlt:=(U_.1 hj).1;exact ih j c _ hj (by simp[<-hl,hlt]:vs[j]?=some (vs[j]'(by omega)))
 | aK f fs us cs vs hl _ hl' _ ih ih'=>
  simp only[AV.aJ,VF];refine⟨rS λj c hj=>?_,rS λj c hj=>?_⟩;·have hlt:=(U_.1 hj).1;exact ih j c _ hj (by simp[<-hl,hlt]:us[j]?=some (us[j]'(by omega)))
  ·have hlt:=(U_.1 hj).1;exact ih' j c _ hj (by simp[<-hl',hlt]:vs[j]?=some (vs[j]'(by omega)))
 | aR t c v _ ih=>exact ih
def eY (F:Nat->Prop)(h h':eZ):Prop:=h.length<=h'.length/\∀m,m<h.length->¬F m->h'[m]?=h[m]?
def fj:Nat->Prop:=λ_=>False
theorem fS.bP {G w h G' w' h'} (g : fS G w h) (g' : fS G' w' h') (s : gE G w G' w') (hx : eY fj h h') : fS (G'.aN h.length) w' h /\ gE G w (G'.aN h.length) w' := by
  have hN : h.length = G.N := g.aA;have same : ∀ n, n < h.length -> h'[n]? = h[n]? := λn hn => hx.2 n hn (λx => x);have lt : ∀ {n : Nat} {x : Option fh}, h[n]? = some x -> n < h.length := λhn => (U_.1 hn).1;have k : gU G w (G'.aN h.length) w' := by refine ⟨Nat.le_of_eq hN.symm, λn b hn hb => s.aA.aA n b hn hb, λn hn hb => s.aA.aE n hn hb, λt b hp => ?_, s.aA.aC, s.aA.aD⟩;exact Dd (by rw [hN]; exact g.aS hp) (s.aA.aB t b hp)
  refine ⟨{ aA := rfl, aC := ?_, aD := ?_, inj := fun a b c h1 h2 => g'.inj a b c h1.1 h2.1, aE := fun a b c h1 hl h2 => g'.aE a b c h1.1 hl h2.1,
            aF := λa b h1 => g'.aF a b h1.1, aL := λa b c h1 h2 => g'.aL a b c h1.1 h2.1, aM := λa b h1 => g'.aM a b h1.1, aG := λa b h1 => g'.aG a b h1.1,
            aJ := g'.aJ, aB := ?_, aI := ?_, aK := g'.aK }, ?_⟩
  · intro n
    constructor
    · rintro ⟨hl, hn⟩
      obtain ⟨⟨a, b, c, hh⟩, hb⟩ := (g'.aC n).1 hl;exact ⟨⟨a, b, c, by rw [<- same n hn]; exact hh⟩, hb⟩
    · rintro ⟨⟨a, b, c, hh⟩, hb⟩
      have hn := lt hh;exact ⟨(g'.aC n).2 ⟨⟨a, b, c, by rw [same n hn]; exact hh⟩, hb⟩, hn⟩
  · rintro n b ⟨ht, hn⟩
    rw [<- same n hn]; exact g'.aD n b ht
  · intro n sz es gr b hh hb
    have hn := lt hh;obtain ⟨⟨cells, ty, hc, h1, h2, h3⟩, hs⟩ := g'.aB n sz es gr b (by rw [same n hn]; exact hh) hb;have u : G.aA n = some b := by rw [<- s.aE n (by omega)]; exact hb
    obtain ⟨⟨cells0, ty0, hc0, _, _, E⟩, _⟩ := g.aB n sz es gr b hh u;refine ⟨⟨cells, ty, hc, h1, h2, λi j c hj => ?_⟩, hs⟩;obtain ⟨v, hv, hV⟩ := h3 i j c hj;obtain ⟨v0, _, C⟩ := E i j c hj;exact ⟨v, hv, hV.aV (by rw [hN]; exact C.aY g)⟩
  · intro n sz es gr hh hb
    exact g'.aI n sz es gr (by rw [same n (lt hh)]; exact hh) hb
  · refine ⟨k, s.S, s.aE, s.aJ, s.aB, s.aD, λb hb => ?_, s.aG⟩
    refine s.aF b ?_;rcases hb with ⟨n, hn, hl⟩ | ⟨n, hn⟩
    · exact .inl ⟨n, hn.1, hl⟩
    · exact .inr ⟨n, hn.1⟩
theorem fy.aC {P:Program}{f:FuncId}{b:List AV}{h:eZ}{K:AV->eZ->Prop}{K':AV->Prop}(hc:fy P f b h K)
  (hk:∀r h',K r h'->eY fj h h'/\r.aJ h.length=true/\K' r):fy P f b h λr h'=>h'=h/\K' r:=by
 intro G w vs hg hv;refine (hc G w vs hg hv).mono ?_;rintro e w' ⟨v,r,h',G',rfl,hK,t,hV,hs⟩;obtain⟨hx,hb,u⟩:=hk r h' hK;obtain⟨g2,s2⟩:=hg.bP t hs hx;exact⟨v,r,h,_,rfl,⟨rfl,u⟩,g2,hV.aV hb,s2⟩
theorem eY.aC (F:Nat->Prop)(h:eZ):eY F h h:=⟨Vg _,λ_ _ _=>rfl⟩
theorem eY.aE (F:Nat->Prop)(h x:eZ):eY F h (h++x):=⟨by simp,λm hm _=>VK hm⟩
theorem eY.aB {F F' F'':Nat->Prop}{h h1 h2:eZ}(a:eY F h h1)(b:eY F' h1 h2)(hF:∀m,m<h.length->F m->F'' m)(t:∀m,m<h.length->F' m->F'' m):eY F'' h h2:=
 ⟨Vr a.1 b.1,λm hm hn=>by rw[b.2 m (Vy hm a.1) (λx=>hn (t m hm x)),a.2 m hm (λx=>hn (hF m hm x))]⟩
theorem eY.tr {h h1 h2:eZ}(a:eY fj h h1)(b:eY fj h1 h2):eY fj h h2:=a.aB b (λ_ _ x=>x) (λ_ _ x=>x)
theorem eY.aG {F:Nat->Prop}{h:eZ}{n:Nat}(x:Option fh)(hn:n<h.length->F n):eY F h (h.set n x):=
 ⟨by simp,λm hm hF=>Vb (by rintro rfl;exact hF (hn hm))⟩
theorem eY.aO {F F':Nat->Prop}{h h':eZ}(a:eY F h h')(hF:∀m,m<h.length->F m->F' m):eY F' h h':=⟨a.1,λm hm hn=>a.2 m hm (λx=>hn (hF m hm x))⟩
theorem eY.aA {h h':eZ}(a:eY fj h h'){n:Nat}{x:Option fh} (hn:h[n]?=some x):h'[n]?=some x:=by rw[a.2 n (U_.1 hn).1 (λx=>x)];exact hn
attribute [go_sem] reduceEqDiff reduceAdd reduceLeDiff reducePow reduceDiv reduceMod decide_true reduceIte
end Glb
