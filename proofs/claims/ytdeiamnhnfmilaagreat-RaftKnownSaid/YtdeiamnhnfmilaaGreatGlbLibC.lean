/-
  A library of its own: its parts, one behind the other.
-/
import Derived.Test.YtdeiamnhnfmilaaGreatGlbLibB
set_option linter.unusedSimpArgs false
set_option linter.unusedVariables false
namespace Glb
open Go
def vbeq : Value -> Value -> Bool
 | .pointer none, .pointer none => true
 | .nilIface, .nilIface => true
 | .nilFunc, .nilFunc => true
 | .map none, .map none => true
 | _, _ => false
mutual
def AV.beq : AV -> AV -> Bool
 | .top, .top => true
 | .bool a, .bool b => a == b
 | .int k a, .int l b => decide (k = l) && decide (a = b)
 | .str a, .str b => decide (a = b)
 | .raw a, .raw b => vbeq a b
 | .nils, .nils => true
 | .ptr a b c d, .ptr a' b' c' d' => a == a' && b == b' && c == c' && d == d'
 | .vptr t cs, .vptr t' cs' => t == t' && AV.beqL cs cs'
 | .ref a b c d e, .ref a' b' c' d' e' => a == a' && b == b' && c == c' && d == d' && decide (e = e')
 | .vals t c s es, .vals t' c' s' es' => t == t' && c == c' && s == s' && AV.beqLL es es'
 | .agg cs, .agg cs' => AV.beqL cs cs'
 | .tup cs, .tup cs' => AV.beqL cs cs'
 | .clo f fs cs, .clo f' fs' cs' => f == f' && AV.beqL fs fs' && AV.beqL cs cs'
 | .iface t v, .iface t' v' => t == t' && AV.beq v v'
 | _, _ => false
def AV.beqL : List AV -> List AV -> Bool
 | [], [] => true
 | a :: r, b :: s => AV.beq a b && AV.beqL r s
 | _, _ => false
def AV.beqLL : List (List AV) -> List (List AV) -> Bool
 | [], [] => true
 | a :: r, b :: s => AV.beqL a b && AV.beqLL r s
 | _, _ => false
end
section
variable {P : Program}
end
end Glb
namespace Glb
open Go Go.RowKit
def Gh.zero : Gh := { N := 0, loc := fun _ => none, nil := fun _ => False, live := fun _ => False, tag := fun _ _ => False, S := fun _ => False }
theorem Gam.zero (w : World) : Gam Gh.zero w [] where
 len := rfl
 live n := ⟨fun h => h.elim, fun ⟨⟨_, h, _⟩, _⟩ => by simp at h⟩
 tag _ _ h := h.elim
 inj _ _ _ h := h.elim
 liveTag _ _ _ h := h.elim
 liveS _ _ h := h.elim
 tagInj _ _ _ h := h.elim
 tagS _ _ h := h.elim
 tagLt _ _ h := h.elim
 sLt _ h := h.elim
 arr _ _ _ _ _ h := by simp at h
 nil _ _ _ _ h := by simp at h
 nilLoc _ h := h.elim
 map _ _ _ h := by simp at h
def GrownB (W W' : World) : Prop := W.keptBut W' (fun _ => False) /\ (∀ a, a.block < W.heap.size -> W'.frozen? a = W.frozen? a) /\ W.heap.size <= W'.heap.size
theorem GrownB.frame {W W' : World} (h : GrownB W W') (may : MemPlace -> Prop) : W.keptBut W' may := World.keptBut_mono (fun _ f => f.elim) h.1
theorem Stp.grown {G w G' w'} (s : Stp G w G' w') (hno : ∀ b, ¬ G.owned b) : GrownB w w' := by
 refine ⟨⟨s.rest.1, s.rest.2.1, fun i hi => ?_⟩, s.rest.2.2.2, s.size⟩
 rw [s.frame i hi (hno i)]
 cases w.heap[i]? with
 | none => rfl
 | some o => cases o <;> simp
end Glb
namespace Glb
open Go
def Is (P : Program) (f : FuncId) (c : AFn) : Prop := cFn P c.keep f = some c /\ isFn P f = true
section
variable {P : Program}
def oR : Option AV -> (AV -> Prop) -> Prop
 | some v, k => k v
 | none, _ => False
def oH : Option (AV × AHeap) -> (AV -> AHeap -> Prop) -> Prop
 | some (v, h), k => k v h
 | none, _ => False
def kSeq (P : Program) (b : AC) (K : AX -> St -> Prop) : AX -> St -> Prop
 | .normal, st => vc P b st K
 | .exit id, st => K (.exit id) st
 | .ret, st => K .ret st
def kReg (K : AX -> St -> Prop) : St -> Prop := fun st => K .normal ⟨st.L, [], st.h⟩
def kN (K : AX -> St -> Prop) : St -> Prop := fun st => K .normal st
def kBlk (id : Nat) (K : AX -> St -> Prop) : AX -> St -> Prop
 | .normal, st => K .normal st
 | .exit id', st => if id' = id then K .normal st else K (.exit id') st
 | .ret, st => K .ret st
def kLoop (I : Nat -> Env -> AHeap -> Prop) (m : Nat) (K : AX -> St -> Prop) : AX -> St -> Prop
 | .normal, st => ∃ m', m' < m /\ st.R = [] /\ I m' st.L st.h
 | .exit id, st => K (.exit id) st
 | .ret, st => K .ret st
def kPut (P : Program) (d : Dst) (r : List AO) (st : St) (k : St -> Prop) : AV -> Prop := fun v => vcOps P r (st.put d v) k
def kPutH (P : Program) (d : Dst) (r : List AO) (st : St) (k : St -> Prop) : AV -> AHeap -> Prop := fun v h => vcOps P r { st.put d v with h := h } k
def wCall (P : Program) (f : FuncId) (avs : List AV) (h : AHeap) (K : AV -> AHeap -> Prop) : Prop := isFn P f = true /\ ACalls P f avs h K
def wCallv (P : Program) (x : AV) (args : List AV) (h : AHeap) (K : AV -> AHeap -> Prop) : Prop :=
 match x with
 | .clo f fs cs => wCall P f (fs ++ args ++ cs) h K
 | _ => False
def wCond (P : Program) (v : AV) (a b : AC) (st : St) (K : AX -> St -> Prop) : Prop :=
 match v with
 | .bool t => (t = true -> vc P a st K) /\ (t = false -> vc P b st K)
 | _ => False
def wGuard (P : Program) (v : AV) (want : Bool) (d : Dst) (op : AOp) (r : List AO) (st : St) (k : St -> Prop) : Prop :=
 match v with
 | .bool b => (b = want -> vcOps P (⟨d, op, none⟩ :: r) st k) /\ (b = (!want) -> vcOps P r (st.put d (.tup [])) k)
 | .tup _ => vcOps P r (st.put d (.tup [])) k
 | _ => False
theorem vc_skip (st : St) (K : AX -> St -> Prop) : vc P .skip st K = K .normal st := Eq.trans rfl rfl
theorem vc_ret (st : St) (K : AX -> St -> Prop) : vc P .ret st K = K .ret st := Eq.trans rfl rfl
theorem vc_exit (id : Nat) (st : St) (K : AX -> St -> Prop) : vc P (.exit id) st K = K (.exit id) st := Eq.trans rfl rfl
theorem vc_reg (ops : List AO) (st : St) (K : AX -> St -> Prop) : vc P (.reg ops) st K = vcOps P ops st (kReg K) := Eq.trans rfl rfl
theorem vc_seq (a b : AC) (st : St) (K : AX -> St -> Prop) : vc P (.seq a b) st K = vc P a st (kSeq P b K) := by
 simp only [vc]
 congr 1
 funext x st'
 cases x <;> rfl
theorem vc_block (id : Nat) (b : AC) (st : St) (K : AX -> St -> Prop) : vc P (.block id b) st K = vc P b st (kBlk id K) := by
 simp only [vc]
 congr 1
 funext x st'
 cases x <;> rfl
theorem vc_cond (c : Opd) (a b : AC) (st : St) (K : AX -> St -> Prop) : vc P (.cond c a b) st K = wCond P (st.get c) a b st K := by
 simp only [vc, wCond]
 generalize st.get c = v
 cases v <;> rfl
theorem kSeq_normal (b : AC) (K : AX -> St -> Prop) (st : St) : kSeq P b K .normal st = vc P b st K := Eq.trans rfl rfl
theorem kSeq_exit (b : AC) (K : AX -> St -> Prop) (id : Nat) (st : St) : kSeq P b K (.exit id) st = K (.exit id) st := Eq.trans rfl rfl
theorem kSeq_ret (b : AC) (K : AX -> St -> Prop) (st : St) : kSeq P b K .ret st = K .ret st := Eq.trans rfl rfl
theorem kBlk_normal (id : Nat) (K : AX -> St -> Prop) (st : St) : kBlk id K .normal st = K .normal st := Eq.trans rfl rfl
theorem kBlk_exit (id id' : Nat) (K : AX -> St -> Prop) (st : St) : kBlk id K (.exit id') st = if id' = id then K .normal st else K (.exit id') st := Eq.trans rfl rfl
theorem kBlk_ret (id : Nat) (K : AX -> St -> Prop) (st : St) : kBlk id K .ret st = K .ret st := Eq.trans rfl rfl
theorem kReg_mk (K : AX -> St -> Prop) (L R : Env) (h : AHeap) : kReg K ⟨L, R, h⟩ = K .normal ⟨L, [], h⟩ := Eq.trans rfl rfl
theorem kN_mk (K : AX -> St -> Prop) (st : St) : kN K st = K .normal st := Eq.trans rfl rfl
theorem kLoop_normal (I : Nat -> Env -> AHeap -> Prop) (m : Nat) (K : AX -> St -> Prop) (L : Env) (h : AHeap) : kLoop I m K .normal ⟨L, [], h⟩ = ∃ m', m' < m /\ I m' L h := by
 simp [kLoop]
theorem kLoop_exit (I : Nat -> Env -> AHeap -> Prop) (m : Nat) (K : AX -> St -> Prop) (id : Nat) (st : St) : kLoop I m K (.exit id) st = K (.exit id) st := Eq.trans rfl rfl
theorem kLoop_ret (I : Nat -> Env -> AHeap -> Prop) (m : Nat) (K : AX -> St -> Prop) (st : St) : kLoop I m K .ret st = K .ret st := Eq.trans rfl rfl
theorem vcOp_mono {o : AO} {st : St} {k k' : St -> Prop} (hk : ∀ s, k s -> k' s) (h : vcOp P o st k) : vcOp P o st k' := by
 unfold vcOp at h ⊢
 split
 ·rename_i ro he; (try simp only [he] at h); split at h
  ·rename_i v hv; (try simp only [hv]); exact hk _ h
  ·exact h.elim
 ·rename_i ho he; (try simp only [he] at h); split at h
  ·rename_i v h' hv; (try simp only [hv]); exact hk _ h
  ·exact h.elim
 ·rename_i f args he; (try simp only [he] at h); exact ⟨h.1, h.2.mono fun _ _ x => hk _ x⟩
 ·rename_i x args he; (try simp only [he] at h); split at h
  ·rename_i f fs cs hx; (try simp only [hx]); exact ⟨h.1, h.2.mono fun _ _ x => hk _ x⟩
  ·exact h.elim
theorem vcOps_mono : ∀ (l : List AO) {st : St} {k k' : St -> Prop}, (∀ s, k s -> k' s) -> vcOps P l st k -> vcOps P l st k' := by
 intro l
 induction l with
 | nil => intro st k k' hk h; exact hk _ h
 | cons o r ih =>
  intro st k k' hk h
  simp only [vcOps] at h ⊢
  split
  ·rename_i hg; (try simp only [hg] at h); exact vcOp_mono (fun s hs => ih hk hs) h
  ·rename_i x want hg
   try simp only [hg] at h
   split at h
   ·rename_i b hb; (try simp only [hb]); exact ⟨fun e => vcOp_mono (fun s hs => ih hk hs) (h.1 e), fun e => ih hk (h.2 e)⟩
   ·rename_i cs hb; (try simp only [hb]); exact ih hk h
   ·exact h.elim
theorem vcBack_mono {dep : Nat -> Nat -> Bool} {lo n i : Nat} {d : DS} {xs : List (Nat × Nat × ABlk)} {v : AV} {h' : AHeap} {k k' : DS -> Prop} (hk : ∀ s, k s -> k' s)
  (h : vcBack dep lo n i d xs v h' k) : vcBack dep lo n i d xs v h' k' := ⟨h.1, h.2.1, hk _ h.2.2⟩
theorem vcDo_mono {dep : Nat -> Nat -> Bool} {lo n : Nat} {o : DO} {d : DS} {k k' : DS -> Prop} (hk : ∀ s, k s -> k' s) (h : vcDo P dep lo n o d k) : vcDo P dep lo n o d k' := by
 unfold vcDo at h ⊢
 split <;> rename_i h1 h2 <;> (try simp only [h1, h2] at h)
 ·split at h
  ·rename_i v hv; (try simp only [hv]); exact ⟨h.1, hk _ h.2⟩
  ·exact h.elim
 ·rename_i hne
  split at h
  ·rename_i v hv; (try simp only [hv]); exact hk _ h
  ·exact h.elim
 ·split at h
  ·rename_i v b hv; (try simp only [hv]); exact hk _ h
  ·exact h.elim
 ·split at h
  ·rename_i v h' hv; (try simp only [hv]); exact vcBack_mono hk h
  ·exact h.elim
 ·exact ⟨h.1, h.2.mono fun _ _ x => vcBack_mono hk x⟩
 ·split at h
  ·rename_i f fs cs hx; (try simp only [hx]); exact ⟨h.1, h.2.mono fun _ _ x => vcBack_mono hk x⟩
  ·exact h.elim
theorem vcD_mono {dep : Nat -> Nat -> Bool} {lo n : Nat} : ∀ (l : List DO) {d : DS} {k k' : DS -> Prop}, (∀ s, k s -> k' s) -> vcD P dep lo n l d k -> vcD P dep lo n l d k' := by
 intro l
 induction l with
 | nil => intro d k k' hk h; exact hk _ h
 | cons o r ih =>
  intro d k k' hk h
  simp only [vcD] at h ⊢
  split
  ·rename_i hg; (try simp only [hg] at h); exact vcDo_mono (fun s hs => ih hk hs) h
  ·rename_i x want hg
   try simp only [hg] at h
   split at h
   ·rename_i b hb; (try simp only [hb]); exact ⟨fun e => vcDo_mono (fun s hs => ih hk hs) (h.1 e), fun e => ih hk (h.2 e)⟩
   ·rename_i cs hb; (try simp only [hb]); exact ih hk h
   ·exact h.elim
theorem vc_mono : ∀ (c : AC) {st : St} {K K' : AX -> St -> Prop}, (∀ x s, K x s -> K' x s) -> vc P c st K -> vc P c st K' := by
 intro c
 induction c with
 | skip => intro st K K' hk h; exact hk _ _ h
 | reg ops => intro st K K' hk h; exact vcOps_mono ops (fun s hs => hk _ _ hs) h
 | dreg r => intro st K K' hk h; exact vcD_mono r.items (fun s hs => hk _ _ hs) h
 | seq a b iha ihb =>
  intro st K K' hk h
  refine iha ?_ h
  intro x s hs
  cases x with
  | normal => exact ihb hk hs
  | exit id => exact hk _ _ hs
  | ret => exact hk _ _ hs
 | cond c a b iha ihb =>
  intro st K K' hk h
  simp only [vc] at h ⊢
  split at h
  ·rename_i t ht; (try simp only [ht]); exact ⟨fun e => iha hk (h.1 e), fun e => ihb hk (h.2 e)⟩
  ·exact h.elim
 | block id b ih =>
  intro st K K' hk h
  refine ih ?_ h
  intro x s hs
  cases x with
  | normal => exact hk _ _ hs
  | exit id' =>
   simp only at hs ⊢
   split <;> rename_i e
   ·rw [if_pos e] at hs; exact hk _ _ hs
   ·rw [if_neg e] at hs; exact hk _ _ hs
  | ret => exact hk _ _ hs
 | loop b ih =>
  rintro st K K' hk ⟨I, h0, hstep⟩
  refine ⟨I, h0, fun m s hI => ih ?_ (hstep m s hI)⟩
  intro x s hs
  cases x with
  | normal => exact hs
  | exit id => exact hk _ _ hs
  | ret => exact hk _ _ hs
 | exit id => intro st K K' hk h; exact hk _ _ h
 | ret => intro st K K' hk h; exact hk _ _ h
 | bad => intro st K K' hk h; exact h.elim
theorem vc_loop (I : Nat -> Env -> AHeap -> Prop) (m : Nat) {b : AC} {L : Env} {h : AHeap} {K : AX -> St -> Prop} (h0 : I m L h)
  (step : ∀ m L h, I m L h -> vc P b ⟨L, [], h⟩ (kLoop I m K)) : vc P (.loop b) ⟨L, [], h⟩ K := by
 refine ⟨fun m s => s.R = [] /\ I m s.L s.h, ⟨m, _, Wk.refl _, rfl, h0⟩, fun m s hI => ?_⟩
 obtain ⟨L, R, h⟩ := s
 obtain ⟨hR, hI⟩ := hI
 simp only at hR hI
 subst hR
 refine vc_mono b ?_ (step m L h hI)
 intro x s hs
 cases x with
 | normal => obtain ⟨m', h1, h2, h3⟩ := hs; exact ⟨m', s, h1, Wk.refl _, h2, h3⟩
 | exit id => exact hs
 | ret => exact hs
theorem vcOps_nil (st : St) (k : St -> Prop) : vcOps P [] st k = k st := Eq.trans rfl rfl
theorem vcOps_r (d : Dst) (ro : ROp) (r : List AO) (st : St) (k : St -> Prop) :
  vcOps P (⟨d, .r ro, none⟩ :: r) st k = oR (rev st.get st.h ro) (kPut P d r st k) := by
 simp only [vcOps, vcOp]
 cases rev st.get st.h ro <;> rfl
theorem vcOps_h (d : Dst) (ho : HOp) (r : List AO) (st : St) (k : St -> Prop) :
  vcOps P (⟨d, .h ho, none⟩ :: r) st k = oH (hev st.get st.h ho) (kPutH P d r st k) := by
 simp only [vcOps, vcOp]
 cases hev st.get st.h ho <;> rfl
theorem vcOps_call (d : Dst) (f : FuncId) (args : List Opd) (r : List AO) (st : St) (k : St -> Prop) :
  vcOps P (⟨d, .call f args, none⟩ :: r) st k = wCall P f (args.map st.get) st.h (kPutH P d r st k) := Eq.trans rfl rfl
theorem vcOps_callv (d : Dst) (x : Opd) (args : List Opd) (r : List AO) (st : St) (k : St -> Prop) :
  vcOps P (⟨d, .callv x args, none⟩ :: r) st k = wCallv P (st.get x) (args.map st.get) st.h (kPutH P d r st k) := by
 simp only [vcOps, vcOp, wCallv]
 cases st.get x <;> rfl
theorem vcOps_guard (d : Dst) (op : AOp) (x : Opd) (want : Bool) (r : List AO) (st : St) (k : St -> Prop) :
  vcOps P (⟨d, op, some (x, want)⟩ :: r) st k = wGuard P (st.get x) want d op r st k := by
 simp only [vcOps, wGuard]
 generalize hv : st.get x = v
 cases v <;> rfl
theorem oR_some (v : AV) (k : AV -> Prop) : oR (some v) k = k v := Eq.trans rfl rfl
theorem oH_some (v : AV) (h : AHeap) (k : AV -> AHeap -> Prop) : oH (some (v, h)) k = k v h := Eq.trans rfl rfl
theorem kPut_none (r : List AO) (L R : Env) (h : AHeap) (k : St -> Prop) (v : AV) : kPut P .none r ⟨L, R, h⟩ k v = vcOps P r ⟨L, R, h⟩ k := Eq.trans rfl rfl
theorem kPut_loc (s : Nat) (r : List AO) (L R : Env) (h : AHeap) (k : St -> Prop) (v : AV) : kPut P (.loc s) r ⟨L, R, h⟩ k v = vcOps P r ⟨ins s v L, R, h⟩ k := Eq.trans rfl rfl
theorem kPut_tmp (s : Nat) (r : List AO) (L R : Env) (h : AHeap) (k : St -> Prop) (v : AV) : kPut P (.tmp s) r ⟨L, R, h⟩ k v = vcOps P r ⟨L, (s, v) :: R, h⟩ k := Eq.trans rfl rfl
theorem kPutH_none (r : List AO) (L R : Env) (h h' : AHeap) (k : St -> Prop) (v : AV) : kPutH P .none r ⟨L, R, h⟩ k v h' = vcOps P r ⟨L, R, h'⟩ k := Eq.trans rfl rfl
theorem kPutH_loc (s : Nat) (r : List AO) (L R : Env) (h h' : AHeap) (k : St -> Prop) (v : AV) : kPutH P (.loc s) r ⟨L, R, h⟩ k v h' = vcOps P r ⟨ins s v L, R, h'⟩ k := Eq.trans rfl rfl
theorem kPutH_tmp (s : Nat) (r : List AO) (L R : Env) (h h' : AHeap) (k : St -> Prop) (v : AV) : kPutH P (.tmp s) r ⟨L, R, h⟩ k v h' = vcOps P r ⟨L, (s, v) :: R, h'⟩ k := Eq.trans rfl rfl
theorem get_loc (s : Nat) (L R : Env) (h : AHeap) : St.get ⟨L, R, h⟩ (.loc s) = lk s L := Eq.trans rfl rfl
theorem get_tmp (s : Nat) (L R : Env) (h : AHeap) : St.get ⟨L, R, h⟩ (.tmp s) = lk s R := Eq.trans rfl rfl
theorem get_cst (v : AV) (st : St) : st.get (.cst v) = v := Eq.trans rfl rfl
theorem lk_nil (s : Nat) : lk s [] = .top := Eq.trans rfl rfl
theorem lk_cons (s t : Nat) (v : AV) (r : Env) : lk s ((t, v) :: r) = if t = s then v else lk s r := Eq.trans rfl rfl
theorem wGuard_true (d : Dst) (op : AOp) (r : List AO) (st : St) (k : St -> Prop) : wGuard P (.bool true) true d op r st k = vcOps P (⟨d, op, none⟩ :: r) st k := by simp [wGuard]
theorem wGuard_false (d : Dst) (op : AOp) (r : List AO) (st : St) (k : St -> Prop) : wGuard P (.bool false) false d op r st k = vcOps P (⟨d, op, none⟩ :: r) st k := by simp [wGuard]
theorem wGuard_tf (d : Dst) (op : AOp) (r : List AO) (st : St) (k : St -> Prop) : wGuard P (.bool true) false d op r st k = vcOps P r (st.put d (.tup [])) k := by simp [wGuard]
theorem wGuard_ft (d : Dst) (op : AOp) (r : List AO) (st : St) (k : St -> Prop) : wGuard P (.bool false) true d op r st k = vcOps P r (st.put d (.tup [])) k := by simp [wGuard]
theorem wGuard_tup (cs : List AV) (want : Bool) (d : Dst) (op : AOp) (r : List AO) (st : St) (k : St -> Prop) : wGuard P (.tup cs) want d op r st k = vcOps P r (st.put d (.tup [])) k := Eq.trans rfl rfl
theorem put_none (L R : Env) (h : AHeap) (v : AV) : St.put ⟨L, R, h⟩ .none v = ⟨L, R, h⟩ := Eq.trans rfl rfl
theorem put_loc (s : Nat) (L R : Env) (h : AHeap) (v : AV) : St.put ⟨L, R, h⟩ (.loc s) v = ⟨ins s v L, R, h⟩ := Eq.trans rfl rfl
theorem put_tmp (s : Nat) (L R : Env) (h : AHeap) (v : AV) : St.put ⟨L, R, h⟩ (.tmp s) v = ⟨L, (s, v) :: R, h⟩ := Eq.trans rfl rfl
theorem wGuardT {b : Bool} {d : Dst} {op : AOp} {r : List AO} {st : St} {k : St -> Prop} (h1 : b = true -> vcOps P (⟨d, op, none⟩ :: r) st k)
  (h2 : b = false -> vcOps P r (st.put d (.tup [])) k) : wGuard P (.bool b) true d op r st k := ⟨h1, h2⟩
theorem wGuardF {b : Bool} {d : Dst} {op : AOp} {r : List AO} {st : St} {k : St -> Prop} (h1 : b = false -> vcOps P (⟨d, op, none⟩ :: r) st k)
  (h2 : b = true -> vcOps P r (st.put d (.tup [])) k) : wGuard P (.bool b) false d op r st k := ⟨h1, h2⟩
theorem wCond_true (a b : AC) (st : St) (K : AX -> St -> Prop) : wCond P (.bool true) a b st K = vc P a st K := by simp [wCond]
theorem wCond_false (a b : AC) (st : St) (K : AX -> St -> Prop) : wCond P (.bool false) a b st K = vc P b st K := by simp [wCond]
theorem wCond_split {t : Bool} {a b : AC} {st : St} {K : AX -> St -> Prop} (h1 : t = true -> vc P a st K) (h2 : t = false -> vc P b st K) : wCond P (.bool t) a b st K := ⟨h1, h2⟩
theorem wCall_use {f : FuncId} {avs : List AV} {h : AHeap} {K K' : AV -> AHeap -> Prop} (hc : isFn P f = true /\ ACalls P f avs h K') (hk : ∀ r h', K' r h' -> K r h') : wCall P f avs h K :=
 ⟨hc.1, hc.2.mono hk⟩
theorem wCallv_clo (f : FuncId) (fs cs args : List AV) (h : AHeap) (K : AV -> AHeap -> Prop) : wCallv P (.clo f fs cs) args h K = wCall P f (fs ++ args ++ cs) h K := Eq.trans rfl rfl
def isLoad : ROp -> Bool
 | .load _ _ _ => true
 | _ => false
def kDN (fin : List (Nat × Nat)) (L : Env) (K : AX -> St -> Prop) : DS -> Prop := fun d => K .normal ⟨finL d.R fin L, [], d.h⟩
def mdep (masks : List Nat) (i j : Nat) : Bool := (masks.getD i 0).testBit j
def kDv (P : Program) (dep : Nat -> Nat -> Bool) (lo k i : Nat) (r : List DO) (d : DS) (K : DS -> Prop) : AV -> Prop := fun v => vcD P dep lo k r (d.val i v) K
def kDl (P : Program) (dep : Nat -> Nat -> Bool) (lo k i : Nat) (agg : Bool) (n : Nat) (x : AV) (r : List DO) (d : DS) (K : DS -> Prop) : AV -> Prop := fun v =>
 notRes lo k x = true /\ vcD P dep lo k r { d.val i v with pend := (i, x, agg, n, v) :: d.pend } K
def oL (o : Option (AV × ABlk)) (k : AV -> ABlk -> Prop) : Prop := match o with
 | some (v, b) => k v b
 | none => False
def kDL (P : Program) (dep : Nat -> Nat -> Bool) (lo k i nm : Nat) (r : List DO) (d : DS) (K : DS -> Prop) : AV -> ABlk -> Prop := fun v b =>
 vcD P dep lo k r { d.val i v with h := d.h.set (lo + nm) (some b), lts := (i, lo + nm, b) :: d.lts } K
def loose' (dep : Nat -> Nat -> Bool) (i : Nat) (l : List (Nat × Nat × ABlk)) : List (Nat × Nat × ABlk) := l.filter fun x => !dep i x.1
def kDB (P : Program) (dep : Nat -> Nat -> Bool) (lo k i : Nat) (r : List DO) (d : DS) (K : DS -> Prop) : AV -> AHeap -> Prop := fun v h' =>
 freeR dep lo k i d.lts h' = true /\ again dep i (showL (loose' dep i d.lts) h') d.pend /\ vcD P dep lo k r { d.val i v with h := showL (loose' dep i d.lts) h' } K
def wDGuard (P : Program) (dep : Nat -> Nat -> Bool) (lo k : Nat) (v : AV) (want : Bool) (i nm : Nat) (hv : Bool) (op : AOp) (r : List DO) (d : DS) (K : DS -> Prop) : Prop :=
 match v with
 | .bool b => (b = want -> vcD P dep lo k (⟨i, nm, hv, op, none⟩ :: r) d K) /\ (b = (!want) -> vcD P dep lo k r (d.val i (.tup [])) K)
 | .tup _ => vcD P dep lo k r (d.val i (.tup [])) K
 | _ => False
theorem vc_dreg (masks : List Nat) (k : Nat) (items : List DO) (fin : List (Nat × Nat)) (L R : Env) (h : AHeap) (K : AX -> St -> Prop) :
  vc P (.dreg ⟨masks, k, items, fin⟩) ⟨L, R, h⟩ K = vcD P (mdep masks) h.length k items ⟨L, [], h ++ List.replicate k none, [], []⟩ (kDN fin L K) := Eq.trans rfl rfl
theorem kDN_mk (fin : List (Nat × Nat)) (L L' R : Env) (h : AHeap) (p : List (Nat × AV × Bool × Nat × AV)) (l : List (Nat × Nat × ABlk)) (K : AX -> St -> Prop) : kDN fin L K ⟨L', R, h, p, l⟩ = K .normal ⟨finL R fin L, [], h⟩ := Eq.trans rfl rfl
theorem finL_nil (R L : Env) : finL R [] L = L := Eq.trans rfl rfl
theorem finL_cons (R L : Env) (t i : Nat) (r : List (Nat × Nat)) : finL R ((t, i) :: r) L = finL R r (ins t (lk i R) L) := Eq.trans rfl rfl
section
variable {dep : Nat -> Nat -> Bool} {lo k i nm : Nat}
theorem vcD_nil (d : DS) (K : DS -> Prop) : vcD P dep lo k [] d K = K d := Eq.trans rfl rfl
theorem vcD_r {ro : ROp} (h : isLoad ro = false) (r : List DO) (d : DS) (K : DS -> Prop) : vcD P dep lo k (⟨i, nm, false, .r ro, none⟩ :: r) d K = oR (rev d.get [] ro) (kDv P dep lo k i r d K) := by
 simp only [vcD, vcDo]
 cases ro with
 | load => cases h
 | _ => simp only; generalize rev d.get [] _ = o; cases o <;> rfl
theorem vcD_mov (x : Opd) (r : List DO) (d : DS) (K : DS -> Prop) : vcD P dep lo k (⟨i, nm, false, .r (.mov x), none⟩ :: r) d K = oR (rev d.get [] (.mov x)) (kDv P dep lo k i r d K) := vcD_r rfl r d K
theorem vcD_pick (c a b : Opd) (r : List DO) (d : DS) (K : DS -> Prop) : vcD P dep lo k (⟨i, nm, false, .r (.pick c a b), none⟩ :: r) d K = oR (rev d.get [] (.pick c a b)) (kDv P dep lo k i r d K) := vcD_r rfl r d K
theorem vcD_build (z : List AV) (ps : List (Nat × Nat × Opd)) (r : List DO) (d : DS) (K : DS -> Prop) : vcD P dep lo k (⟨i, nm, false, .r (.build z ps), none⟩ :: r) d K = oR (rev d.get [] (.build z ps)) (kDv P dep lo k i r d K) := vcD_r rfl r d K
theorem vcD_chk (x : Opd) (r : List DO) (d : DS) (K : DS -> Prop) : vcD P dep lo k (⟨i, nm, false, .r (.chk x), none⟩ :: r) d K = oR (rev d.get [] (.chk x)) (kDv P dep lo k i r d K) := vcD_r rfl r d K
theorem vcD_bin (op : BinOp) (x y : Opd) (r : List DO) (d : DS) (K : DS -> Prop) : vcD P dep lo k (⟨i, nm, false, .r (.bin op x y), none⟩ :: r) d K = oR (rev d.get [] (.bin op x y)) (kDv P dep lo k i r d K) := vcD_r rfl r d K
theorem vcD_beq (op : BinOp) (x y : Opd) (r : List DO) (d : DS) (K : DS -> Prop) : vcD P dep lo k (⟨i, nm, false, .r (.beq op x y), none⟩ :: r) d K = oR (rev d.get [] (.beq op x y)) (kDv P dep lo k i r d K) := vcD_r rfl r d K
theorem vcD_nileq (b : Bool) (x : Opd) (r : List DO) (d : DS) (K : DS -> Prop) : vcD P dep lo k (⟨i, nm, false, .r (.nileq b x), none⟩ :: r) d K = oR (rev d.get [] (.nileq b x)) (kDv P dep lo k i r d K) := vcD_r rfl r d K
theorem vcD_not (x : Opd) (r : List DO) (d : DS) (K : DS -> Prop) : vcD P dep lo k (⟨i, nm, false, .r (.not x), none⟩ :: r) d K = oR (rev d.get [] (.not x)) (kDv P dep lo k i r d K) := vcD_r rfl r d K
theorem vcD_neg (x : Opd) (r : List DO) (d : DS) (K : DS -> Prop) : vcD P dep lo k (⟨i, nm, false, .r (.neg x), none⟩ :: r) d K = oR (rev d.get [] (.neg x)) (kDv P dep lo k i r d K) := vcD_r rfl r d K
theorem vcD_conv (q : IntKind) (x : Opd) (r : List DO) (d : DS) (K : DS -> Prop) : vcD P dep lo k (⟨i, nm, false, .r (.conv q x), none⟩ :: r) d K = oR (rev d.get [] (.conv q x)) (kDv P dep lo k i r d K) := vcD_r rfl r d K
theorem vcD_slc (sz : Nat) (x : Opd) (a b c : Option Opd) (r : List DO) (d : DS) (K : DS -> Prop) : vcD P dep lo k (⟨i, nm, false, .r (.slc sz x a b c), none⟩ :: r) d K = oR (rev d.get [] (.slc sz x a b c)) (kDv P dep lo k i r d K) := vcD_r rfl r d K
theorem vcD_off (o : Nat) (x : Opd) (r : List DO) (d : DS) (K : DS -> Prop) : vcD P dep lo k (⟨i, nm, false, .r (.off o x), none⟩ :: r) d K = oR (rev d.get [] (.off o x)) (kDv P dep lo k i r d K) := vcD_r rfl r d K
theorem vcD_idx (sz : Nat) (x y : Opd) (r : List DO) (d : DS) (K : DS -> Prop) : vcD P dep lo k (⟨i, nm, false, .r (.idx sz x y), none⟩ :: r) d K = oR (rev d.get [] (.idx sz x y)) (kDv P dep lo k i r d K) := vcD_r rfl r d K
theorem vcD_ext (x : Opd) (j : Nat) (r : List DO) (d : DS) (K : DS -> Prop) : vcD P dep lo k (⟨i, nm, false, .r (.ext x j), none⟩ :: r) d K = oR (rev d.get [] (.ext x j)) (kDv P dep lo k i r d K) := vcD_r rfl r d K
theorem vcD_len (x : Opd) (r : List DO) (d : DS) (K : DS -> Prop) : vcD P dep lo k (⟨i, nm, false, .r (.len x), none⟩ :: r) d K = oR (rev d.get [] (.len x)) (kDv P dep lo k i r d K) := vcD_r rfl r d K
theorem vcD_slen (x : Opd) (r : List DO) (d : DS) (K : DS -> Prop) : vcD P dep lo k (⟨i, nm, false, .r (.slen x), none⟩ :: r) d K = oR (rev d.get [] (.slen x)) (kDv P dep lo k i r d K) := vcD_r rfl r d K
theorem vcD_mnmx (b : Bool) (xs : List Opd) (r : List DO) (d : DS) (K : DS -> Prop) : vcD P dep lo k (⟨i, nm, false, .r (.mnmx b xs), none⟩ :: r) d K = oR (rev d.get [] (.mnmx b xs)) (kDv P dep lo k i r d K) := vcD_r rfl r d K
theorem vcD_clo (f : FuncId) (xs : List Opd) (r : List DO) (d : DS) (K : DS -> Prop) : vcD P dep lo k (⟨i, nm, false, .r (.clo f xs), none⟩ :: r) d K = oR (rev d.get [] (.clo f xs)) (kDv P dep lo k i r d K) := vcD_r rfl r d K
theorem vcD_xop (o : XOp) (r : List DO) (d : DS) (K : DS -> Prop) : vcD P dep lo k (⟨i, nm, false, .r (.x o), none⟩ :: r) d K = oR (rev d.get [] (.x o)) (kDv P dep lo k i r d K) := vcD_r rfl r d K
theorem vcD_load (agg : Bool) (n : Nat) (x : Opd) (r : List DO) (d : DS) (K : DS -> Prop) :
  vcD P dep lo k (⟨i, nm, false, .r (.load agg n x), none⟩ :: r) d K = oR (aload d.h agg n (d.get x)) (kDl P dep lo k i agg n (d.get x) r d K) := by
 simp only [vcD, vcDo]
 generalize aload d.h agg n (d.get x) = o; cases o <;> rfl
theorem vcD_light (ho : HOp) (r : List DO) (d : DS) (K : DS -> Prop) : vcD P dep lo k (⟨i, nm, false, .h ho, none⟩ :: r) d K = oL (lightOf d.get (lo + nm) ho) (kDL P dep lo k i nm r d K) := by
 simp only [vcD, vcDo]
 generalize lightOf d.get (lo + nm) ho = o; cases o <;> rfl
theorem vcD_h (ho : HOp) (r : List DO) (d : DS) (K : DS -> Prop) : vcD P dep lo k (⟨i, nm, true, .h ho, none⟩ :: r) d K = oH (hev d.get (hideL (loose' dep i d.lts) d.h) ho) (kDB P dep lo k i r d K) := by
 simp only [vcD, vcDo]
 show (match hev d.get (hideL (loose' dep i d.lts) d.h) ho with | some (v, h') => _ | none => False) = _
 generalize hev d.get (hideL (loose' dep i d.lts) d.h) ho = o; cases o <;> rfl
theorem vcD_call (f : FuncId) (args : List Opd) (r : List DO) (d : DS) (K : DS -> Prop) :
  vcD P dep lo k (⟨i, nm, true, .call f args, none⟩ :: r) d K = wCall P f (args.map d.get) (hideL (loose' dep i d.lts) d.h) (kDB P dep lo k i r d K) := Eq.trans rfl rfl
theorem vcD_callv (x : Opd) (args : List Opd) (r : List DO) (d : DS) (K : DS -> Prop) :
  vcD P dep lo k (⟨i, nm, true, .callv x args, none⟩ :: r) d K = wCallv P (d.get x) (args.map d.get) (hideL (loose' dep i d.lts) d.h) (kDB P dep lo k i r d K) := by
 simp only [vcD, vcDo, wCallv]
 cases d.get x <;> rfl
theorem vcD_guard (hv : Bool) (op : AOp) (x : Opd) (want : Bool) (r : List DO) (d : DS) (K : DS -> Prop) :
  vcD P dep lo k (⟨i, nm, hv, op, some (x, want)⟩ :: r) d K = wDGuard P dep lo k (d.get x) want i nm hv op r d K := by
 simp only [vcD, wDGuard]
 generalize d.get x = v
 cases v <;> rfl
theorem oL_some (v : AV) (b : ABlk) (k : AV -> ABlk -> Prop) : oL (some (v, b)) k = k v b := Eq.trans rfl rfl
theorem kDv_mk (r : List DO) (L R : Env) (h : AHeap) (p : List (Nat × AV × Bool × Nat × AV)) (l : List (Nat × Nat × ABlk)) (K : DS -> Prop) (v : AV) :
  kDv P dep lo k i r ⟨L, R, h, p, l⟩ K v = vcD P dep lo k r ⟨L, (i, v) :: R, h, p, l⟩ K := Eq.trans rfl rfl
theorem kDl_mk (agg : Bool) (n : Nat) (x : AV) (r : List DO) (L R : Env) (h : AHeap) (p : List (Nat × AV × Bool × Nat × AV)) (l : List (Nat × Nat × ABlk)) (K : DS -> Prop) (v : AV) :
  kDl P dep lo k i agg n x r ⟨L, R, h, p, l⟩ K v = (notRes lo k x = true /\ vcD P dep lo k r ⟨L, (i, v) :: R, h, (i, x, agg, n, v) :: p, l⟩ K) := Eq.trans rfl rfl
theorem kDL_mk (r : List DO) (L R : Env) (h : AHeap) (p : List (Nat × AV × Bool × Nat × AV)) (l : List (Nat × Nat × ABlk)) (K : DS -> Prop) (v : AV) (b : ABlk) :
  kDL P dep lo k i nm r ⟨L, R, h, p, l⟩ K v b = vcD P dep lo k r ⟨L, (i, v) :: R, h.set (lo + nm) (some b), p, (i, lo + nm, b) :: l⟩ K := Eq.trans rfl rfl
theorem kDB_mk (r : List DO) (L R : Env) (h h' : AHeap) (p : List (Nat × AV × Bool × Nat × AV)) (l : List (Nat × Nat × ABlk)) (K : DS -> Prop) (v : AV) :
  kDB P dep lo k i r ⟨L, R, h, p, l⟩ K v h' = (freeR dep lo k i l h' = true /\ again dep i (showL (loose' dep i l) h') p /\ vcD P dep lo k r ⟨L, (i, v) :: R, showL (loose' dep i l) h', p, l⟩ K) := Eq.trans rfl rfl
theorem kDB_mk0 (r : List DO) (L R : Env) (h h' : AHeap) (p : List (Nat × AV × Bool × Nat × AV)) (K : DS -> Prop) (v : AV) :
  kDB P dep lo 0 i r ⟨L, R, h, p, []⟩ K v h' = (again dep i h' p /\ vcD P dep lo 0 r ⟨L, (i, v) :: R, h', p, []⟩ K) := by
 simp [kDB, loose', freeR, showL, DS.val]
theorem notRes_zero (lo : Nat) (x : AV) : notRes lo 0 x = true := by
 cases x <;> simp [notRes]; omega
theorem dget_loc (s : Nat) (L R : Env) (h : AHeap) (p : List (Nat × AV × Bool × Nat × AV)) (l : List (Nat × Nat × ABlk)) : DS.get ⟨L, R, h, p, l⟩ (.loc s) = lk s L := Eq.trans rfl rfl
theorem dget_tmp (s : Nat) (L R : Env) (h : AHeap) (p : List (Nat × AV × Bool × Nat × AV)) (l : List (Nat × Nat × ABlk)) : DS.get ⟨L, R, h, p, l⟩ (.tmp s) = lk s R := Eq.trans rfl rfl
theorem dget_cst (v : AV) (d : DS) : d.get (.cst v) = v := Eq.trans rfl rfl
theorem val_mk (i : Nat) (v : AV) (L R : Env) (h : AHeap) (p : List (Nat × AV × Bool × Nat × AV)) (l : List (Nat × Nat × ABlk)) : DS.val ⟨L, R, h, p, l⟩ i v = ⟨L, (i, v) :: R, h, p, l⟩ := Eq.trans rfl rfl
theorem loose_nil : loose' dep i [] = [] := Eq.trans rfl rfl
theorem hideL_nil (h : AHeap) : hideL [] h = h := Eq.trans rfl rfl
theorem showL_nil (h : AHeap) : showL [] h = h := Eq.trans rfl rfl
theorem again_nil (h : AHeap) : again dep i h [] = True := Eq.trans rfl rfl
theorem again_cons (h : AHeap) (q : Nat) (x : AV) (agg : Bool) (n : Nat) (v : AV) (r : List (Nat × AV × Bool × Nat × AV)) :
  again dep i h ((q, x, agg, n, v) :: r) = ((dep i q = true \/ aload h agg n x = some v) /\ again dep i h r) := Eq.trans rfl rfl
theorem wDGuard_true (hv : Bool) (op : AOp) (r : List DO) (d : DS) (K : DS -> Prop) : wDGuard P dep lo k (.bool true) true i nm hv op r d K = vcD P dep lo k (⟨i, nm, hv, op, none⟩ :: r) d K := by simp [wDGuard]
theorem wDGuard_false (hv : Bool) (op : AOp) (r : List DO) (d : DS) (K : DS -> Prop) : wDGuard P dep lo k (.bool false) false i nm hv op r d K = vcD P dep lo k (⟨i, nm, hv, op, none⟩ :: r) d K := by simp [wDGuard]
theorem wDGuard_tf (hv : Bool) (op : AOp) (r : List DO) (d : DS) (K : DS -> Prop) : wDGuard P dep lo k (.bool true) false i nm hv op r d K = vcD P dep lo k r (d.val i (.tup [])) K := by simp [wDGuard]
theorem wDGuard_ft (hv : Bool) (op : AOp) (r : List DO) (d : DS) (K : DS -> Prop) : wDGuard P dep lo k (.bool false) true i nm hv op r d K = vcD P dep lo k r (d.val i (.tup [])) K := by simp [wDGuard]
theorem wDGuard_tup (cs : List AV) (want : Bool) (hv : Bool) (op : AOp) (r : List DO) (d : DS) (K : DS -> Prop) : wDGuard P dep lo k (.tup cs) want i nm hv op r d K = vcD P dep lo k r (d.val i (.tup [])) K := Eq.trans rfl rfl
end
theorem atEnd_ret (res : List ARes) (K : AV -> AHeap -> Prop) (st : St) : atEnd res K .ret st = (match resVals st res with | some l => K (oneOrTup l) st.h | none => False) := Eq.trans rfl rfl
theorem atEnd_normal (res : List ARes) (K : AV -> AHeap -> Prop) (st : St) : atEnd res K .normal st = (match resVals st res with | some l => K (oneOrTup l) st.h | none => False) := Eq.trans rfl rfl
end
end Glb
namespace Glb
open Go
mutual
def AV.upto (k : Nat) : AV -> Bool
 | .ptr n _ _ _ => decide (n < k)
 | .ref n _ _ _ _ => decide (n < k)
 | .vptr t cs => decide (t <= k) && AV.uptoL k cs
 | .vals t _ _ es => (es.isEmpty || decide (t <= k)) && AV.uptoLL k es
 | .agg cs => AV.uptoL k cs
 | .tup cs => AV.uptoL k cs
 | .clo _ fs cs => AV.uptoL k fs && AV.uptoL k cs
 | .iface _ v => AV.upto k v
 | .mapv n => decide (n < k)
 | _ => true
def AV.uptoL (k : Nat) : List AV -> Bool
 | [] => true
 | v :: r => AV.upto k v && AV.uptoL k r
def AV.uptoLL (k : Nat) : List (List AV) -> Bool
 | [] => true
 | v :: r => AV.uptoL k v && AV.uptoLL k r
end
theorem belowL_get {k : Nat} : ∀ {cs : List AV}, AV.uptoL k cs = true -> ∀ (j : Nat) (c : AV), cs[j]? = some c -> c.upto k = true := by
 intro cs
 induction cs with
 | nil => intro _ j c h; simp at h
 | cons v r ih =>
  intro h j c hj
  simp only [AV.uptoL, Bool.and_eq_true] at h
  cases j with
  | zero => simp at hj; subst hj; exact h.1
  | succ j => exact ih h.2 j c (by simpa using hj)
theorem belowLL_get {k : Nat} : ∀ {es : List (List AV)}, AV.uptoLL k es = true -> ∀ (i j : Nat) (c : AV), getc es i j = some c -> c.upto k = true := by
 intro es
 induction es with
 | nil => intro _ i j c h; simp [getc] at h
 | cons v r ih =>
  intro h i j c hj
  simp only [AV.uptoLL, Bool.and_eq_true] at h
  cases i with
  | zero => simp [getc] at hj; exact belowL_get h.1 j c hj
  | succ i => exact ih h.2 i j c (by simpa [getc] using hj)
def Gh.trunc (G : Gh) (k : Nat) : Gh := { G with N := k, live := fun n => G.live n /\ n < k, tag := fun n b => G.tag n b /\ n < k }
theorem prot_trunc {G : Gh} {k t b : Nat} (ht : t <= k) (h : G.prot t b) : (G.trunc k).prot t b := by
 cases t with
 | zero => exact h
 | succ n => exact ⟨h, by omega⟩
theorem V.trunc {G w av v k} (h : V G w av v) (hb : av.upto k = true) : V (G.trunc k) w av v := by
 induction h with
 | top v => exact .top v
 | bool b => exact .bool b
 | int k n => exact .int k n
 | str s => exact .str s
 | raw v => exact .raw v
 | nils => exact .nils
 | mapnil => exact .mapnil
 | mapv n b hn hl => exact .mapv n b (by simpa [AV.upto, Gh.trunc] using hb) hl
 | ptr n sz i o b hn hl => exact .ptr n sz i o b (by simpa [AV.upto, Gh.trunc] using hb) hl
 | vptr t cs b off f hp hc _ ih =>
  simp only [AV.upto, Bool.and_eq_true, decide_eq_true_eq] at hb
  exact .vptr t cs b off f (prot_trunc hb.1 hp) hc (fun j c hj => ih j c hj (belowL_get hb.2 j c hj))
 | ref n sz off len cap c ty m b hn hl hle hcap hs hm => exact .ref n sz off len cap c ty m b (by simpa [AV.upto, Gh.trunc] using hb) hl hle hcap hs hm
 | refNil n sz cap hn hl hc => exact .refNil n sz cap (by simpa [AV.upto, Gh.trunc] using hb) hl hc
 | vals t clip sz es a cap f hl hcl hsp hp hes hc _ ih =>
  simp only [AV.upto, Bool.and_eq_true, Bool.or_eq_true, decide_eq_true_eq, List.isEmpty_iff] at hb
  exact .vals t clip sz es a cap f hl hcl hsp (fun h => prot_trunc (hb.1.resolve_left h) (hp h)) hes hc (fun i j c hj => ih i j c hj (belowLL_get hb.2 i j c hj))
 | valsNil t clip sz => exact .valsNil t clip sz
 | agg cs vs hl _ ih => exact .agg cs vs hl (fun j c v hc hv => ih j c v hc hv (belowL_get (by simpa [AV.upto] using hb) j c hc))
 | tup cs vs hl _ ih => exact .tup cs vs hl (fun j c v hc hv => ih j c v hc hv (belowL_get (by simpa [AV.upto] using hb) j c hc))
 | clo f fs us cs vs hl _ hl' _ ih ih' =>
  simp only [AV.upto, Bool.and_eq_true] at hb
  exact .clo f fs us cs vs hl (fun j c v hc hv => ih j c v hc hv (belowL_get hb.1 j c hc)) hl' (fun j c v hc hv => ih' j c v hc hv (belowL_get hb.2 j c hc))
 | iface t c v _ ih => exact .iface t c v (ih (by simpa [AV.upto] using hb))
theorem belowL_mk {k : Nat} : ∀ {cs : List AV}, (∀ (j : Nat) (c : AV), cs[j]? = some c -> c.upto k = true) -> AV.uptoL k cs = true := by
 intro cs
 induction cs with
 | nil => intro _; rfl
 | cons v r ih =>
  intro h
  simp only [AV.uptoL, Bool.and_eq_true]
  exact ⟨h 0 v rfl, ih fun j c hj => h (j + 1) c (by simpa using hj)⟩
theorem belowLL_mk {k : Nat} : ∀ {es : List (List AV)}, (∀ (i j : Nat) (c : AV), getc es i j = some c -> c.upto k = true) -> AV.uptoLL k es = true := by
 intro es
 induction es with
 | nil => intro _; rfl
 | cons v r ih =>
  intro h
  simp only [AV.uptoLL, Bool.and_eq_true]
  exact ⟨belowL_mk fun j c hj => h 0 j c (by simpa [getc] using hj), ih fun i j c hj => h (i + 1) j c (by simpa [getc] using hj)⟩
theorem Gam.protN {G w h} (g : Gam G w h) {t b : Nat} (hp : G.prot t b) : t <= G.N := by
 cases t with
 | zero => exact Nat.zero_le _
 | succ n => exact g.ltN (g.tag n b hp)
theorem V.isUpto {G w h} (g : Gam G w h) {av v} (hv : V G w av v) : av.upto G.N = true := by
 induction hv with
 | top v => rfl
 | bool b => rfl
 | int k n => rfl
 | str s => rfl
 | raw v => rfl
 | nils => rfl
 | mapnil => rfl
 | mapv n b hn hl => simpa [AV.upto] using hn
 | ptr n sz i o b hn hl => simpa [AV.upto] using hn
 | vptr t cs b off f hp hc _ ih => simp only [AV.upto, Bool.and_eq_true, decide_eq_true_eq]; exact ⟨g.protN hp, belowL_mk fun j c hj => ih j c hj⟩
 | ref n sz off len cap c ty m b hn hl hle hcap hs hm => simpa [AV.upto] using hn
 | refNil n sz cap hn hl hc => simpa [AV.upto] using hn
 | vals t clip sz es a cap f hl hcl hsp hp hes hc _ ih =>
  simp only [AV.upto, Bool.and_eq_true, Bool.or_eq_true, decide_eq_true_eq, List.isEmpty_iff]
  refine ⟨?_, belowLL_mk fun i j c hj => ih i j c hj⟩
  by_cases h : es = []
  ·exact .inl h
  ·exact .inr (g.protN (hp h))
 | valsNil t clip sz => simp [AV.upto, AV.uptoLL]
 | agg cs vs hl hv ih =>
  refine belowL_mk fun j c hj => ?_
  have hlt := (List.getElem?_eq_some_iff.1 hj).1
  exact ih j c _ hj (by simp [<- hl, hlt] : vs[j]? = some (vs[j]'(by omega)))
 | tup cs vs hl hv ih =>
  refine belowL_mk fun j c hj => ?_
  have hlt := (List.getElem?_eq_some_iff.1 hj).1
  exact ih j c _ hj (by simp [<- hl, hlt] : vs[j]? = some (vs[j]'(by omega)))
 | clo f fs us cs vs hl _ hl' _ ih ih' =>
  simp only [AV.upto, Bool.and_eq_true]
  refine ⟨belowL_mk fun j c hj => ?_, belowL_mk fun j c hj => ?_⟩
  ·have hlt := (List.getElem?_eq_some_iff.1 hj).1
   exact ih j c _ hj (by simp [<- hl, hlt] : us[j]? = some (us[j]'(by omega)))
  ·have hlt := (List.getElem?_eq_some_iff.1 hj).1
   exact ih' j c _ hj (by simp [<- hl', hlt] : vs[j]? = some (vs[j]'(by omega)))
 | iface t c v _ ih => exact ih
def Ext (F : Nat -> Prop) (h h' : AHeap) : Prop := h.length <= h'.length /\ ∀ m, m < h.length -> ¬ F m -> h'[m]? = h[m]?
def nof : Nat -> Prop := fun _ => False
theorem Gam.trunc {G w h G' w' h'} (g : Gam G w h) (g' : Gam G' w' h') (s : Stp G w G' w') (hx : Ext nof h h') : Gam (G'.trunc h.length) w' h /\ Stp G w (G'.trunc h.length) w' := by
  have hN : h.length = G.N := g.len
  have same : ∀ n, n < h.length -> h'[n]? = h[n]? := fun n hn => hx.2 n hn (fun x => x)
  have lt : ∀ {n : Nat} {x : Option ABlk}, h[n]? = some x -> n < h.length := fun hn => (List.getElem?_eq_some_iff.1 hn).1
  have k : Keeps G w (G'.trunc h.length) w' := by
    refine ⟨Nat.le_of_eq hN.symm, fun n b hn hb => s.keep.loc n b hn hb, fun n hn hb => s.keep.nil n hn hb, fun t b hp => ?_, s.keep.heap, s.keep.shape⟩
    exact prot_trunc (by rw [hN]; exact g.protN hp) (s.keep.prot t b hp)
  refine ⟨{ len := rfl, live := ?_, tag := ?_, inj := fun a b c h1 h2 => g'.inj a b c h1.1 h2.1, liveTag := fun a b c h1 hl h2 => g'.liveTag a b c h1.1 hl h2.1,
            liveS := fun a b h1 => g'.liveS a b h1.1, tagInj := fun a b c h1 h2 => g'.tagInj a b c h1.1 h2.1, tagS := fun a b h1 => g'.tagS a b h1.1, tagLt := fun a b h1 => g'.tagLt a b h1.1,
            sLt := g'.sLt, arr := ?_, nil := ?_, nilLoc := g'.nilLoc, map := ?_ }, ?_⟩
  · intro n
    constructor
    · rintro ⟨hl, hn⟩
      obtain ⟨⟨B, hh, hr⟩, hb⟩ := (g'.live n).1 hl
      exact ⟨⟨B, by rw [<- same n hn]; exact hh, hr⟩, hb⟩
    · rintro ⟨⟨B, hh, hr⟩, hb⟩
      have hn := lt hh
      exact ⟨(g'.live n).2 ⟨⟨B, by rw [same n hn]; exact hh, hr⟩, hb⟩, hn⟩
  · rintro n b ⟨ht, hn⟩
    rw [<- same n hn]; exact g'.tag n b ht
  · intro n sz es gr b hh hb
    have hn := lt hh
    obtain ⟨⟨cells, ty, hc, h1, h2, h3⟩, hs⟩ := g'.arr n sz es gr b (by rw [same n hn]; exact hh) hb
    have hb0 : G.loc n = some b := by rw [<- s.locEq n (by omega)]; exact hb
    obtain ⟨⟨cells0, ty0, hc0, _, _, h30⟩, _⟩ := g.arr n sz es gr b hh hb0
    refine ⟨⟨cells, ty, hc, h1, h2, fun i j c hj => ?_⟩, hs⟩
    obtain ⟨v, hv, hV⟩ := h3 i j c hj
    obtain ⟨v0, _, hV0⟩ := h30 i j c hj
    exact ⟨v, hv, hV.trunc (by rw [hN]; exact hV0.isUpto g)⟩
  · intro n sz es gr hh hb
    exact g'.nil n sz es gr (by rw [same n (lt hh)]; exact hh) hb
  · intro n es b hh hb
    have hn := lt hh
    obtain ⟨⟨entries, clock, hc, h1, h2, h3⟩, hs⟩ := g'.map n es b (by rw [same n hn]; exact hh) hb
    have hb0 : G.loc n = some b := by rw [<- s.locEq n (by omega)]; exact hb
    obtain ⟨⟨entries0, clock0, hc0, _, _, h30⟩, _⟩ := g.map n es b hh hb0
    refine ⟨⟨entries, clock, hc, h1, h2, fun i key c hj => ?_⟩, hs⟩
    obtain ⟨e, he, hk, hV⟩ := h3 i key c hj
    obtain ⟨e0, _, _, hV0⟩ := h30 i key c hj
    exact ⟨e, he, hk, hV.trunc (by rw [hN]; exact hV0.isUpto g)⟩
  · refine ⟨k, s.S, s.locEq, s.nilEq, s.size, s.frame, fun b hb => ?_, s.rest⟩
    refine s.own b ?_
    rcases hb with ⟨n, hn, hl⟩ | ⟨n, hn⟩
    · exact .inl ⟨n, hn.1, hl⟩
    · exact .inr ⟨n, hn.1⟩
theorem ACalls.trunc {P : Program} {f : FuncId} {avs : List AV} {h : AHeap} {K : AV -> AHeap -> Prop} {K' : AV -> Prop} (hc : ACalls P f avs h K)
  (hk : ∀ r h', K r h' -> Ext nof h h' /\ r.upto h.length = true /\ K' r) : ACalls P f avs h fun r h' => h' = h /\ K' r := by
 intro G w vs hg hv
 refine (hc G w vs hg hv).mono ?_
 rintro e w' ⟨v, r, h', G', rfl, hK, hg', hV, hs⟩
 obtain ⟨hx, hb, hK'⟩ := hk r h' hK
 obtain ⟨g2, s2⟩ := hg.trunc hg' hs hx
 exact ⟨v, r, h, _, rfl, ⟨rfl, hK'⟩, g2, hV.trunc hb, s2⟩
theorem Ext.refl (F : Nat -> Prop) (h : AHeap) : Ext F h h := ⟨Nat.le_refl _, fun _ _ _ => rfl⟩
theorem Ext.app (F : Nat -> Prop) (h x : AHeap) : Ext F h (h ++ x) := ⟨by simp, fun m hm _ => List.getElem?_append_left hm⟩
theorem Ext.trans {F F' F'' : Nat -> Prop} {h h1 h2 : AHeap} (a : Ext F h h1) (b : Ext F' h1 h2) (hF : ∀ m, m < h.length -> F m -> F'' m) (hF' : ∀ m, m < h.length -> F' m -> F'' m) : Ext F'' h h2 :=
 ⟨Nat.le_trans a.1 b.1, fun m hm hn => by
  rw [b.2 m (Nat.lt_of_lt_of_le hm a.1) (fun x => hn (hF' m hm x)), a.2 m hm (fun x => hn (hF m hm x))]⟩
theorem Ext.tr {h h1 h2 : AHeap} (a : Ext nof h h1) (b : Ext nof h1 h2) : Ext nof h h2 := a.trans b (fun _ _ x => x) (fun _ _ x => x)
theorem Ext.set {F : Nat -> Prop} {h : AHeap} {n : Nat} (x : Option ABlk) (hn : n < h.length -> F n) : Ext F h (h.set n x) :=
 ⟨by simp, fun m hm hF => List.getElem?_set_ne (by rintro rfl; exact hF (hn hm))⟩
theorem Ext.weak {F F' : Nat -> Prop} {h h' : AHeap} (a : Ext F h h') (hF : ∀ m, m < h.length -> F m -> F' m) : Ext F' h h' := ⟨a.1, fun m hm hn => a.2 m hm (fun x => hn (hF m hm x))⟩
theorem Ext.get {h h' : AHeap} (a : Ext nof h h') {n : Nat} {x : Option ABlk} (hn : h[n]? = some x) : h'[n]? = some x := by
 rw [a.2 n (List.getElem?_eq_some_iff.1 hn).1 (fun x => x)]; exact hn
end Glb
