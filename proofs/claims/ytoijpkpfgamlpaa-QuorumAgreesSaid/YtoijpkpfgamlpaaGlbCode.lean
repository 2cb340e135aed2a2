/-
  A library of its own, for whatever program: code, and what is to be shown of it.
-/
import Derived.Test.YtoijpkpfgamlpaaGlbOps
import Derived.Tactics
set_option linter.unusedSimpArgs false
set_option linter.unusedVariables false
namespace Glb
open Go

abbrev Env := List (Nat × AV)

def lk (s : Nat) : Env → AV
  | [] => .top
  | (t, v) :: r => if t = s then v else lk s r

def ins (s : Nat) (v : AV) : Env → Env
  | [] => [(s, v)]
  | (t, u) :: r => if t = s then (s, v) :: r else if s < t then (s, v) :: (t, u) :: r else (t, u) :: ins s v r

theorem lk_ins (s t : Nat) (v : AV) (e : Env) : lk t (ins s v e) = if t = s then v else lk t e := by
  have ne : ∀ {x y : Nat}, ¬ x = y → ¬ y = x := fun h e => h e.symm
  induction e with
  | nil =>
    simp only [ins, lk]
    by_cases h : s = t
    · subst h; simp
    · have := ne h; simp [h, this]
  | cons p r ih =>
    obtain ⟨q, u⟩ := p
    simp only [ins]
    split
    · rename_i h; subst h
      simp only [lk]
      by_cases h : q = t
      · subst h; simp
      · have := ne h; simp [h, this]
    · rename_i hq
      split
      · simp only [lk]
        by_cases h : s = t
        · subst h; simp
        · have := ne h; simp [h, this]
      · simp only [lk, ih]
        by_cases h : q = t
        · subst h
          have : ¬ (q = s) := hq
          simp [this]
        · simp [h]

structure St where
  L : Env
  R : Env
  h : AHeap

inductive Dst where
  | none
  | loc (s : Nat)
  | tmp (s : Nat)

def St.get (st : St) : Opd → AV
  | .loc s => lk s st.L
  | .tmp s => lk s st.R
  | .cst v => v

def St.put (st : St) (d : Dst) (v : AV) : St :=
  match d with
  | .none => st
  | .loc s => { st with L := ins s v st.L }
  | .tmp s => { st with R := (s, v) :: st.R }

structure AO where
  dst : Dst
  op : AOp
  guard : Option (Opd × Bool)

/-! the state that the code is in -/

structure SR (n : Nat) (keep : Nat → Bool) (G0 : Gh) (w0 : World) (G : Gh) (w : World) (st : St) (a : Act) : Prop where
  gam : Gam G w st.h
  size : a.tmps.size = n
  defers : a.defers = []
  L : ∀ s, keep s = true → V G w (lk s st.L) (a.tmps.getD s undef)
  R : ∀ s, keep s = false → V G w (lk s st.R) (a.tmps.getD s undef)
  stp : Stp G0 w0 G w

section
variable {n : Nat} {keep : Nat → Bool} {G0 : Gh} {w0 : World} {P : Program}

theorem SR.stands {G w st a} (sr : SR n keep G0 w0 G w st a) : Stands G w (cd keep) st.get a := by
  intro x
  cases x with
  | tmp s =>
    simp only [cd]
    split
    · rename_i h; exact sr.L s h
    · rename_i h; exact sr.R s (by simpa using h)
  | const v => exact V.ofV G w v
  | global g => exact .raw _
  | func f => exact .clo f [] #[] [] #[] rfl (fun j c v h => by simp at h) rfl (fun j c v h => by simp at h)

/-- where an operation's value goes -/
def cDst (n : Nat) (keep : Nat → Bool) : Option Tmp → Option Dst
  | none => some .none
  | some s => if s < n then some (if keep s then .loc s else .tmp s) else none

theorem getD_set {a : Act} {s q : Nat} {v : Value} (h : s < a.tmps.size) : (a.tmps.setIfInBounds s v).getD q undef = if q = s then v else a.tmps.getD q undef := by
  by_cases e : q = s
  · subst e; simp [h]
  · simp [e, Array.getElem?_setIfInBounds_ne (fun x => e x.symm)]

theorem SR.put {G w st a G' w' h' d t r v} (sr : SR n keep G0 w0 G w st a) (hd : cDst n keep t = some d) (hg : Gam G' w' h') (hs : Stp G w G' w') (hv : V G' w' r v) :
    SR n keep G0 w0 G' w' { st.put d r with h := h' } (a.put t v) := by
  have hL : ∀ s, keep s = true → V G' w' (lk s st.L) (a.tmps.getD s undef) := fun s h => (sr.L s h).keep hs.keep
  have hR : ∀ s, keep s = false → V G' w' (lk s st.R) (a.tmps.getD s undef) := fun s h => (sr.R s h).keep hs.keep
  cases t with
  | none =>
    simp only [cDst, Option.some.injEq] at hd
    subst hd
    exact ⟨hg, sr.size, sr.defers, hL, hR, sr.stp.trans hs⟩
  | some s =>
    simp only [cDst] at hd
    split at hd
    · rename_i hlt
      have hlt' : s < a.tmps.size := by rw [sr.size]; exact hlt
      simp only [Option.some.injEq] at hd
      split at hd <;> rename_i hk <;> subst hd
      · refine ⟨hg, by simp [Act.put, sr.size], sr.defers, fun q hq => ?_, fun q hq => ?_, sr.stp.trans hs⟩
        · simp only [St.put, lk_ins, Act.put]
          rw [getD_set hlt']
          split
          · exact hv
          · exact hL q hq
        · simp only [St.put, Act.put]
          rw [getD_set hlt', if_neg (by rintro rfl; rw [hk] at hq; cases hq)]
          exact hR q hq
      · refine ⟨hg, by simp [Act.put, sr.size], sr.defers, fun q hq => ?_, fun q hq => ?_, sr.stp.trans hs⟩
        · simp only [St.put, Act.put]
          rw [getD_set hlt', if_neg (by rintro rfl; exact hk hq)]
          exact hL q hq
        · simp only [St.put, lk, Act.put]
          rw [getD_set hlt']
          by_cases e : s = q
          · subst e; simp; exact hv
          · have : ¬ q = s := fun x => e x.symm
            simp only [e, this, if_false]; exact hR q hq
    · cases hd

/-! calls -/

/-- what a call of a function comes to -/
def ACalls (P : Program) (f : FuncId) (avs : List AV) (h : AHeap) (K : AV → AHeap → Prop) : Prop :=
  ∀ (G : Gh) (w : World) (vs : Array Value), Gam G w h → VL G w avs vs → Calls P f vs w fun e w' =>
    ∃ v r h' G', e = .returned v ∧ K r h' ∧ Gam G' w' h' ∧ V G' w' r v ∧ Stp G w G' w'

theorem ACalls.mono {f avs h} {K K' : AV → AHeap → Prop} (hc : ACalls P f avs h K) (hk : ∀ r h', K r h' → K' r h') : ACalls P f avs h K' :=
  fun G w vs hg hv => (hc G w vs hg hv).mono fun _ _ ⟨v, r, h', G', h1, h2, h3⟩ => ⟨v, r, h', G', h1, hk _ _ h2, h3⟩

def isFn (P : Program) (f : FuncId) : Bool :=
  match P.funcs[f]? with
  | some fn => fn.body.isSome && !(fn.name == "runtime.NumGoroutine")
  | none => false

theorem run_callFunc {f : FuncId} (hf : isFn P f = true) (args : Array Value) (w : World) : (callFunc f args).run P w = .ok (.enter f args) w := by
  unfold isFn at hf
  split at hf
  · rename_i fn hfn
    simp only [Bool.and_eq_true, Bool.not_eq_true'] at hf
    have hb : fn.body.isNone = false := by cases h : fn.body with | none => simp [h] at hf | some c => rfl
    simp only [callFunc, Sem.run_bind, run_program, Result.andThen_ok, hfn, hf.2, hb, Bool.false_eq_true, if_false, Sem.run_pure]
  · cases hf

/-! one operation -/

def vcOp (P : Program) (o : AO) (st : St) (k : St → Prop) : Prop :=
  match o.op with
  | .r ro => match rev st.get st.h ro with
    | some v => k (st.put o.dst v)
    | none => False
  | .h ho => match hev st.get st.h ho with
    | some (v, h') => k { st.put o.dst v with h := h' }
    | none => False
  | .call f args => isFn P f = true ∧ ACalls P f (args.map st.get) st.h fun v h' => k { st.put o.dst v with h := h' }
  | .callv x args => match st.get x with
    | .clo f fs cs => isFn P f = true ∧ ACalls P f (fs ++ args.map st.get ++ cs) st.h fun v h' => k { st.put o.dst v with h := h' }
    | _ => False

theorem vcOp_sound {G w st a} (sr : SR n keep G0 w0 G w st a) {o : Oper} {ao : AOp} {d : Dst} (hop : cOp P (cd keep) o = some ao) (hd : cDst n keep o.dst = some d) {gd : Option (Opd × Bool)}
    {k : St → Prop} (hk : vcOp P ⟨d, ao, gd⟩ st k) {next : Act → World → Prop} {Q : Exit → Act → World → Prop}
    (hn : ∀ G' w' st' a', SR n keep G0 w0 G' w' st' a' → k st' → next a' w') : o.wp P a w next Q := by
  unfold cOp at hop
  split at hop
  · rename_i ro hro
    cases hop
    simp only [vcOp] at hk
    split at hk
    · rename_i v hv
      obtain ⟨u, hu, hV⟩ := rop_sound (P := P) sr.gam sr.stands hro hv
      unfold Oper.wp
      rw [hu, Oper.upon_value]
      have e : ({ st.put d v with h := st.h } : St) = st.put d v := by cases d <;> rfl
      have := sr.put hd sr.gam (Stp.refl G w) hV
      rw [e] at this
      exact hn G w _ _ this hk
    · exact hk.elim
  · split at hop
    · rename_i ho hho
      cases hop
      simp only [vcOp] at hk
      split at hk
      · rename_i v h' hv
        obtain ⟨nx, u, w', G', hu, hnx, hg, hV, hst⟩ := hop_sound (P := P) sr.gam sr.stands hho hv
        unfold Oper.wp
        rw [hu]
        rcases hnx with rfl | ⟨rfl, rfl⟩
        · exact hn G' w' _ _ (sr.put hd hg hst hV) hk
        · exact hn G' w' _ _ (sr.put hd hg hst hV) hk
      · exact hk.elim
    · split at hop
      · -- a named function
        rename_i f args tys hcall
        cases hop
        simp only [vcOp] at hk
        obtain ⟨hf, hk⟩ := hk
        have hrun : (execOp a.eval o).run P w = .ok (.enter f (args.map a.eval)) w := by
          obtain ⟨dst, op, type, pos, after, guard⟩ := o
          have hcall' : op = _ := hcall
          subst hcall'
          simp only [execOp, resolve, Act.eval, Deferred.ofValue, Sem.run_bind, Sem.run_pure, Result.andThen_ok, invoke]
          rw [run_callFunc hf]
          simp
        unfold Oper.wp
        rw [hrun, Oper.upon_enter]
        refine (hk G w (args.map a.eval) sr.gam ⟨by simp, fun j c v hc hv => ?_⟩).mono ?_
        · exact VL.map sr.stands args.toList j c v (by simpa using hc) (by simpa using hv)
        · rintro e w' ⟨v, r, h', G', rfl, hK, hg, hV, hst⟩
          exact hn G' w' _ _ (sr.put hd hg hst hV) hK
      · rename_i x args tys hne hcall
        cases hop
        simp only [vcOp] at hk
        split at hk
        · rename_i f fs cs hx
          obtain ⟨hf, hk⟩ := hk
          have hxv := sr.stands x
          rw [hx] at hxv
          generalize hv : a.eval x = fv at hxv
          cases hxv with
          | clo _ _ us _ vs hlu hUs hl hVs =>
          have hrun : (execOp a.eval o).run P w = .ok (.enter f (us ++ args.map a.eval ++ vs)) w := by
            obtain ⟨dst, op, type, pos, after, guard⟩ := o
            have hcall' : op = _ := hcall
            subst hcall'
            simp only [execOp, resolve, hv, Deferred.ofValue, Sem.run_bind, Sem.run_pure, Result.andThen_ok, invoke]
            rw [run_callFunc hf]
          unfold Oper.wp
          rw [hrun, Oper.upon_enter]
          refine (hk G w (us ++ args.map a.eval ++ vs) sr.gam (VL.app (VL.app ⟨hlu, hUs⟩ ⟨by simp, fun j c v hc hv' => VL.map sr.stands args.toList j c v (by simpa using hc) (by simpa using hv')⟩) ⟨hl, hVs⟩)).mono ?_
          · rintro e w' ⟨v, r, h', G', rfl, hK, hg, hV, hst⟩
            exact hn G' w' _ _ (sr.put hd hg hst hV) hK
        · exact hk.elim
      · cases hop


/-! lists of operations, in the order of the text -/

def vcOps (P : Program) : List AO → St → (St → Prop) → Prop
  | [], st, k => k st
  | o :: r, st, k =>
    match o.guard with
    | none => vcOp P o st fun st' => vcOps P r st' k
    | some (x, want) => match st.get x with
      | .bool b => (b = want → vcOp P o st fun st' => vcOps P r st' k) ∧ (b = (!want) → vcOps P r (st.put o.dst (.tup [])) k)
      | .tup _ => vcOps P r (st.put o.dst (.tup [])) k
      | _ => False

/-- an operation's guard, by the slot that it looks at -/
def cGuard (keep : Nat → Bool) (ops : Array Oper) : Option (Nat × Bool) → Option (Option (Opd × Bool))
  | none => some none
  | some (j, want) => match (ops[j]?).bind (·.dst) with
    | some t => some (some (cd keep (.tmp t), want))
    | none => none

def cAO (P : Program) (n : Nat) (keep : Nat → Bool) (ops : Array Oper) (o : Oper) : Option AO :=
  match cDst n keep o.dst, cOp P (cd keep) o, cGuard keep ops o.guard with
  | some d, some op, some g => some ⟨d, op, g⟩
  | _, _, _ => none

def cAOs (P : Program) (n : Nat) (keep : Nat → Bool) (ops : Array Oper) : List Oper → Option (List AO)
  | [] => some []
  | o :: r => match cAO P n keep ops o, cAOs P n keep ops r with
    | some x, some l => some (x :: l)
    | _, _ => none

theorem SR.skip {G w st a d t} (sr : SR n keep G0 w0 G w st a) (hd : cDst n keep t = some d) : SR n keep G0 w0 G w (st.put d (.tup [])) (a.put t undef) := by
  have e : ({ st.put d (.tup []) with h := st.h } : St) = st.put d (.tup []) := by cases d <;> rfl
  have := sr.put hd sr.gam (Stp.refl G w) (V.tup (G := G) (w := w) [] #[] rfl (fun j c v h => by simp at h))
  rw [e] at this
  exact this

/-- does the guard let the operation be done? -/
theorem guard_spec {G w st a} (sr : SR n keep G0 w0 G w st a) {ops : Array Oper} {o : Oper} {j : Nat} {want : Bool} {t : Tmp} (hg : o.guard = some (j, want)) (ht : (ops[j]?).bind (·.dst) = some t) :
    (∀ b, st.get (cd keep (.tmp t)) = .bool b → Region.wanted o (yielded ops a.tmps) = (b == want)) ∧ (∀ cs, st.get (cd keep (.tmp t)) = .tup cs → Region.wanted o (yielded ops a.tmps) = false) := by
  have hv := sr.stands (.tmp t)
  have hy : yielded ops a.tmps j = match a.tmps[t]? with | some (.bool b) => some b | _ => none := by
    simp only [yielded, ht, Option.bind_some]
    rfl
  have hev : a.eval (.tmp t) = (a.tmps[t]?).getD undef := by simp [Act.eval]
  rw [hev] at hv
  constructor
  · intro b hb
    rw [hb] at hv
    cases hq : a.tmps[t]? with
    | none => rw [hq] at hv; cases hv
    | some v =>
      rw [hq] at hv
      simp only [Option.getD_some] at hv
      cases hv
      simp only [Region.wanted, hg, hy, hq]
      cases b <;> cases want <;> rfl
  · intro cs hb
    rw [hb] at hv
    cases hq : a.tmps[t]? with
    | none => simp [Region.wanted, hg, hy, hq]
    | some v =>
      rw [hq] at hv
      simp only [Option.getD_some] at hv
      cases hv
      simp [Region.wanted, hg, hy, hq]

theorem vcOps_sound {ops : Array Oper} {Q : Exit → Act → World → Prop} {k : St → Prop}
    (hn : ∀ G' w' st' a', SR n keep G0 w0 G' w' st' a' → k st' → Q .normal a' w') :
    ∀ (l : List Oper) (al : List AO) {G w st a}, SR n keep G0 w0 G w st a → cAOs P n keep ops l = some al → vcOps P al st k → wpList P ops Q l a w := by
  intro l
  induction l with
  | nil =>
    intro al G w st a sr hc hk
    simp only [cAOs, Option.some.injEq] at hc
    subst hc
    exact hn G w st a sr hk
  | cons o l ih =>
    intro al G w st a sr hc hk
    simp only [cAOs] at hc
    split at hc
    · rename_i x al' hx hl
      cases hc
      simp only [cAO] at hx
      split at hx
      · rename_i d op gd hd hop hgd
        cases hx
        simp only [vcOps] at hk
        unfold wpList
        have doit : vcOp P ⟨d, op, gd⟩ st (fun st' => vcOps P al' st' k) → o.wp P a w (wpList P ops Q l) Q :=
          fun h => vcOp_sound sr hop hd h fun G' w' st' a' sr' hk' => ih al' sr' hl hk'
        have skip : vcOps P al' (st.put d (.tup [])) k → wpList P ops Q l (a.put o.dst undef) w :=
          fun h => ih al' (sr.skip hd) hl h
        cases hog : o.guard with
        | none =>
          rw [hog] at hgd
          simp only [cGuard, Option.some.injEq] at hgd
          subst hgd
          rw [if_pos (by simp [Region.wanted, hog])]
          exact .inl (doit hk)
        | some jw =>
          obtain ⟨j, want⟩ := jw
          rw [hog] at hgd
          simp only [cGuard] at hgd
          split at hgd
          · rename_i t ht
            cases hgd
            obtain ⟨g1, g2⟩ := guard_spec sr hog ht
            simp only at hk
            split at hk
            · rename_i b hb
              rw [g1 b hb]
              by_cases e : b = want
              · subst e; simp only [BEq.rfl, if_true]; exact .inl (doit (hk.1 rfl))
              · have : (b == want) = false := by simpa using e
                simp only [this, Bool.false_eq_true, if_false]
                exact skip (hk.2 (by cases b <;> cases want <;> simp_all))
            · rename_i cs hb
              rw [g2 cs hb]
              simp only [Bool.false_eq_true, if_false]
              exact skip hk
            · exact hk.elim
          · cases hgd
      · cases hx
    · cases hc

end
end Glb
