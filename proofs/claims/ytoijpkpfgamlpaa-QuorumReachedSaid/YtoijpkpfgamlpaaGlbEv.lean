/-
  A library of its own, for whatever program: running functions on abstract values.
-/
import Derived.Test.YtoijpkpfgamlpaaGlbFun
set_option linter.unusedSimpArgs false
set_option linter.unusedVariables false
namespace Glb
open Go

def vbeq : Value → Value → Bool
  | .pointer none, .pointer none => true
  | .nilIface, .nilIface => true
  | .nilFunc, .nilFunc => true
  | .map none, .map none => true
  | _, _ => false

theorem vbeq_eq {a b : Value} (h : vbeq a b = true) : a = b := by
  unfold vbeq at h
  split at h <;> first | rfl | cases h

mutual
def AV.beq : AV → AV → Bool
  | .top, .top => true
  | .bool a, .bool b => a == b
  | .int k a, .int l b => decide (k = l) && decide (a = b)
  | .str a, .str b => decide (a = b)
  | .raw a, .raw b => vbeq a b
  | .nils, .nils => true
  | .ptr a b c d, .ptr a' b' c' d' => a == a' && b == b' && c == c' && d == d'
  | .vptr t cs, .vptr t' cs' => t == t' && AV.beqL cs cs'
  | .ref a b c d e, .ref a' b' c' d' e' => a == a' && b == b' && c == c' && d == d' && decide (e = e')
  | .vals t c s es, .vals t' c' s' es' => t == t' && c == c' && s == s' && AV.beqLL es es'
  | .agg cs, .agg cs' => AV.beqL cs cs'
  | .tup cs, .tup cs' => AV.beqL cs cs'
  | .clo f fs cs, .clo f' fs' cs' => f == f' && AV.beqL fs fs' && AV.beqL cs cs'
  | .iface t v, .iface t' v' => t == t' && AV.beq v v'
  | _, _ => false
def AV.beqL : List AV → List AV → Bool
  | [], [] => true
  | a :: r, b :: s => AV.beq a b && AV.beqL r s
  | _, _ => false
def AV.beqLL : List (List AV) → List (List AV) → Bool
  | [], [] => true
  | a :: r, b :: s => AV.beqL a b && AV.beqLL r s
  | _, _ => false
end

mutual
theorem AV.beq_eq : ∀ (a b : AV), AV.beq a b = true → a = b := by
  intro a b h
  cases a <;> cases b <;> simp only [AV.beq, Bool.and_eq_true, beq_iff_eq, decide_eq_true_eq, Bool.false_eq_true] at h
  all_goals first
    | rfl
    | (subst h; rfl)
    | (obtain ⟨rfl, rfl⟩ := h; rfl)
    | (rw [vbeq_eq h])
    | (obtain ⟨⟨⟨rfl, rfl⟩, rfl⟩, rfl⟩ := h; rfl)
    | (obtain ⟨⟨⟨⟨rfl, rfl⟩, rfl⟩, rfl⟩, rfl⟩ := h; rfl)
    | (rw [AV.beqL_eq _ _ h])
    | (obtain ⟨rfl, h⟩ := h; rw [AV.beqL_eq _ _ h])
    | (obtain ⟨⟨rfl, h⟩, h'⟩ := h; rw [AV.beqL_eq _ _ h, AV.beqL_eq _ _ h'])
    | (obtain ⟨rfl, h⟩ := h; rw [AV.beq_eq _ _ h])
    | (obtain ⟨⟨⟨rfl, rfl⟩, rfl⟩, h⟩ := h; rw [AV.beqLL_eq _ _ h])
theorem AV.beqL_eq : ∀ (a b : List AV), AV.beqL a b = true → a = b := by
  intro a b h
  cases a <;> cases b <;> simp only [AV.beqL, Bool.and_eq_true, Bool.false_eq_true] at h
  · rfl
  · rw [AV.beq_eq _ _ h.1, AV.beqL_eq _ _ h.2]
theorem AV.beqLL_eq : ∀ (a b : List (List AV)), AV.beqLL a b = true → a = b := by
  intro a b h
  cases a <;> cases b <;> simp only [AV.beqLL, Bool.and_eq_true, Bool.false_eq_true] at h
  · rfl
  · rw [AV.beqL_eq _ _ h.1, AV.beqLL_eq _ _ h.2]
end

/-! running -/

abbrev CallF := FuncId → List AV → AHeap → Option (AV × AHeap)

def evOp (call : CallF) (o : AO) (st : St) : Option St :=
  match o.op with
  | .r ro => match rev st.get st.h ro with
    | some v => some (st.put o.dst v)
    | none => none
  | .h ho => match hev st.get st.h ho with
    | some (v, h') => some { st.put o.dst v with h := h' }
    | none => none
  | .call f args => match call f (args.map st.get) st.h with
    | some (v, h') => some { st.put o.dst v with h := h' }
    | none => none
  | .callv x args => match st.get x with
    | .clo f fs cs => match call f (fs ++ args.map st.get ++ cs) st.h with
      | some (v, h') => some { st.put o.dst v with h := h' }
      | none => none
    | _ => none

def evOps (call : CallF) : List AO → St → Option St
  | [], st => some st
  | o :: r, st =>
    match o.guard with
    | none => match evOp call o st with
      | some st' => evOps call r st'
      | none => none
    | some (x, want) => match st.get x with
      | .bool b => if b = want then (match evOp call o st with
          | some st' => evOps call r st'
          | none => none) else evOps call r (st.put o.dst (.tup []))
      | .tup _ => evOps call r (st.put o.dst (.tup []))
      | _ => none

def againB (dep : Nat → Nat → Bool) (i : Nat) (h : AHeap) : List (Nat × AV × Bool × Nat × AV) → Bool
  | [] => true
  | p :: r => (dep i p.1 || (match aload h p.2.2.1 p.2.2.2.1 p.2.1 with | some v => AV.beq v p.2.2.2.2 | none => false)) && againB dep i h r

theorem againB_spec {dep : Nat → Nat → Bool} {i : Nat} {h : AHeap} : ∀ {l : List (Nat × AV × Bool × Nat × AV)}, againB dep i h l = true → again dep i h l := by
  intro l
  induction l with
  | nil => intro _; trivial
  | cons p r ih =>
    intro hh
    simp only [againB, Bool.and_eq_true, Bool.or_eq_true] at hh
    refine ⟨?_, ih hh.2⟩
    rcases hh.1 with h1 | h1
    · exact .inl h1
    · right
      split at h1
      · rename_i v hv; rw [hv, AV.beq_eq _ _ h1]
      · cases h1

def evBack (dep : Nat → Nat → Bool) (lo k i : Nat) (d : DS) (xs : List (Nat × Nat × ABlk)) (v : AV) (h' : AHeap) : Option DS :=
  if freeR dep lo k i d.lts h' && againB dep i (showL xs h') d.pend then some { d.val i v with h := showL xs h' } else none

def evDo (call : CallF) (dep : Nat → Nat → Bool) (lo k : Nat) (o : DO) (d : DS) : Option DS :=
  match o.hv, o.op with
  | false, .r (.load agg n x) => match aload d.h agg n (d.get x) with
    | some v => if notRes lo k (d.get x) then some { d.val o.i v with pend := (o.i, d.get x, agg, n, v) :: d.pend } else none
    | none => none
  | false, .r ro => match rev d.get [] ro with
    | some v => some (d.val o.i v)
    | none => none
  | false, .h ho => match lightOf d.get (lo + o.nm) ho with
    | some (v, b) => some { d.val o.i v with h := d.h.set (lo + o.nm) (some b), lts := (o.i, lo + o.nm, b) :: d.lts }
    | none => none
  | true, .h ho =>
    let xs := d.lts.filter fun x => !dep o.i x.1
    match hev d.get (hideL xs d.h) ho with
    | some (v, h') => evBack dep lo k o.i d xs v h'
    | none => none
  | true, .call f args =>
    let xs := d.lts.filter fun x => !dep o.i x.1
    match call f (args.map d.get) (hideL xs d.h) with
    | some (v, h') => evBack dep lo k o.i d xs v h'
    | none => none
  | true, .callv x args =>
    let xs := d.lts.filter fun x => !dep o.i x.1
    match d.get x with
    | .clo f fs cs => match call f (fs ++ args.map d.get ++ cs) (hideL xs d.h) with
      | some (v, h') => evBack dep lo k o.i d xs v h'
      | none => none
    | _ => none
  | _, _ => none

def evD (call : CallF) (dep : Nat → Nat → Bool) (lo k : Nat) : List DO → DS → Option DS
  | [], d => some d
  | o :: r, d =>
    match o.guard with
    | none => match evDo call dep lo k o d with
      | some d' => evD call dep lo k r d'
      | none => none
    | some (x, want) => match d.get x with
      | .bool b => if b = want then (match evDo call dep lo k o d with
          | some d' => evD call dep lo k r d'
          | none => none) else evD call dep lo k r (d.val o.i (.tup []))
      | .tup _ => evD call dep lo k r (d.val o.i (.tup []))
      | _ => none

def evDR (call : CallF) (r : DR) (st : St) : Option St :=
  match evD call r.dep st.h.length r.k r.items ⟨st.L, [], st.h ++ List.replicate r.k none, [], []⟩ with
  | some d => some ⟨finL d.R r.fin st.L, [], d.h⟩
  | none => none

def evLoop (body : St → Option (AX × St)) : Nat → St → Option (AX × St)
  | 0, _ => none
  | n + 1, st => match body st with
    | some (.normal, st') => evLoop body n st'
    | o => o

def evC (call : CallF) (fuel : Nat) : AC → St → Option (AX × St)
  | .skip, st => some (.normal, st)
  | .reg ops, st => match evOps call ops st with
    | some st' => some (.normal, { st' with R := [] })
    | none => none
  | .dreg r, st => match evDR call r st with
    | some st' => some (.normal, st')
    | none => none
  | .seq a b, st => match evC call fuel a st with
    | some (.normal, st') => evC call fuel b st'
    | o => o
  | .cond c a b, st => match st.get c with
    | .bool t => if t then evC call fuel a st else evC call fuel b st
    | _ => none
  | .block id b, st => match evC call fuel b st with
    | some (.exit id', st') => if id' = id then some (.normal, st') else some (.exit id', st')
    | o => o
  | .loop b, st => evLoop (evC call fuel b) fuel st
  | .exit id, st => some (.exit id, st)
  | .ret, st => some (.ret, st)
  | .bad, _ => none

abbrev Tab := List (FuncId × AFn)

def Tab.find (f : FuncId) : Tab → Option AFn
  | [] => none
  | (g, fn) :: r => if g = f then some fn else Tab.find f r

def evF (T : Tab) (fuel : Nat) : Nat → CallF
  | 0, _, _, _ => none
  | d + 1, f, avs, h => match T.find f with
    | some fn => if avs.length ≤ fn.n then (match evC (evF T fuel d) fuel fn.code (initSt fn.keep avs h) with
        | some (.exit _, _) => none
        | some (_, st) => match resVals st fn.res with
          | some l => some (oneOrTup l, st.h)
          | none => none
        | none => none) else none
    | none => none

/-! and that this is what the program does -/

def TabOk (P : Program) (T : Tab) : Prop := ∀ f fn, T.find f = some fn → cFn P fn.keep f = some fn ∧ isFn P f = true

section
variable {P : Program}

def CallOk (P : Program) (call : CallF) : Prop := ∀ f avs h v h', call f avs h = some (v, h') → isFn P f = true ∧ ACalls P f avs h fun r h'' => r = v ∧ h'' = h'

theorem evOp_sound {call : CallF} (hc : CallOk P call) {o : AO} {st st' : St} (h : evOp call o st = some st') {k : St → Prop} (hk : k st') : vcOp P o st k := by
  obtain ⟨dst, op, guard⟩ := o
  cases op with
  | r ro =>
    simp only [evOp] at h
    simp only [vcOp]
    split at h
    · rename_i hr; cases h; rw [hr]; exact hk
    · cases h
  | h ho =>
    simp only [evOp] at h
    simp only [vcOp]
    split at h
    · rename_i hr; cases h; rw [hr]; exact hk
    · cases h
  | call f args =>
    simp only [evOp] at h
    simp only [vcOp]
    split at h
    · rename_i hr
      cases h
      obtain ⟨h1, h2⟩ := hc _ _ _ _ _ hr
      exact ⟨h1, h2.mono fun r h'' ⟨e1, e2⟩ => by subst e1; subst e2; exact hk⟩
    · cases h
  | callv x args =>
    simp only [evOp] at h
    simp only [vcOp]
    split at h
    · rename_i f cs hx
      split at h
      · rename_i hr
        cases h
        obtain ⟨h1, h2⟩ := hc _ _ _ _ _ hr
        rw [hx]
        exact ⟨h1, h2.mono fun r h'' ⟨e1, e2⟩ => by subst e1; subst e2; exact hk⟩
      · cases h
    · cases h

theorem evOps_sound {call : CallF} (hc : CallOk P call) {k : St → Prop} : ∀ (l : List AO) {st st' : St}, evOps call l st = some st' → k st' → vcOps P l st k := by
  intro l
  induction l with
  | nil => intro st st' h hk; simp only [evOps, Option.some.injEq] at h; subst h; exact hk
  | cons o r ih =>
    intro st st' h hk
    simp only [evOps] at h
    simp only [vcOps]
    split at h
    · rename_i hg
      split at h
      · rename_i s hs; rw [hg]; exact evOp_sound hc hs (ih h hk)
      · cases h
    · rename_i x want hg
      rw [hg]
      simp only
      split at h
      · rename_i b hb
        rw [hb]
        split at h
        · rename_i e
          subst e
          split at h
          · rename_i s hs; exact ⟨fun _ => evOp_sound hc hs (ih h hk), fun e => by cases b <;> simp at e⟩
          · cases h
        · rename_i e
          exact ⟨fun e' => absurd e' e, fun _ => ih h hk⟩
      · rename_i cs hb; rw [hb]; exact ih h hk
      · cases h

theorem evBack_sound {dep : Nat → Nat → Bool} {lo k i : Nat} {d d' : DS} {xs : List (Nat × Nat × ABlk)} {v : AV} {h' : AHeap} (h : evBack dep lo k i d xs v h' = some d') {next : DS → Prop} (hk : next d') :
    vcBack dep lo k i d xs v h' next := by
  unfold evBack at h
  split at h
  · rename_i hh
    simp only [Bool.and_eq_true] at hh
    cases h
    exact ⟨hh.1, againB_spec hh.2, hk⟩
  · cases h

theorem evDo_sound {call : CallF} (hc : CallOk P call) {dep : Nat → Nat → Bool} {lo k : Nat} {o : DO} {d d' : DS} (h : evDo call dep lo k o d = some d') {next : DS → Prop} (hk : next d') : vcDo P dep lo k o d next := by
  obtain ⟨i, nm, hv, op, guard⟩ := o
  cases hv with
  | false =>
    cases op with
    | r ro =>
      cases ro with
      | load agg n x =>
        simp only [evDo] at h
        simp only [vcDo]
        split at h
        · rename_i hr
          split at h
          · rename_i hn; cases h; rw [hr]; exact ⟨hn, hk⟩
          · cases h
        · cases h
      | _ =>
        simp only [evDo] at h
        simp only [vcDo]
        split at h
        · rename_i hr; cases h; rw [hr]; exact hk
        · cases h
    | h ho =>
      simp only [evDo] at h
      simp only [vcDo]
      split at h
      · rename_i hr; cases h; rw [hr]; exact hk
      · cases h
    | call f args => simp [evDo] at h
    | callv x args => simp [evDo] at h
  | true =>
    cases op with
    | r ro => simp [evDo] at h
    | h ho =>
      simp only [evDo] at h
      simp only [vcDo]
      split at h
      · rename_i hr; rw [hr]; exact evBack_sound h hk
      · cases h
    | call f args =>
      simp only [evDo] at h
      simp only [vcDo]
      split at h
      · rename_i hr
        obtain ⟨h1, h2⟩ := hc _ _ _ _ _ hr
        exact ⟨h1, h2.mono fun r h'' ⟨e1, e2⟩ => by subst e1; subst e2; exact evBack_sound h hk⟩
      · cases h
    | callv x args =>
      simp only [evDo] at h
      simp only [vcDo]
      split at h
      · rename_i hx
        split at h
        · rename_i hr
          obtain ⟨h1, h2⟩ := hc _ _ _ _ _ hr
          rw [hx]
          exact ⟨h1, h2.mono fun r h'' ⟨e1, e2⟩ => by subst e1; subst e2; exact evBack_sound h hk⟩
        · cases h
      · cases h

theorem evD_sound {call : CallF} (hc : CallOk P call) {dep : Nat → Nat → Bool} {lo k : Nat} {K : DS → Prop} : ∀ (l : List DO) {d d' : DS}, evD call dep lo k l d = some d' → K d' → vcD P dep lo k l d K := by
  intro l
  induction l with
  | nil => intro d d' h hk; simp only [evD, Option.some.injEq] at h; subst h; exact hk
  | cons o r ih =>
    intro d d' h hk
    simp only [evD] at h
    simp only [vcD]
    split at h
    · rename_i hg
      split at h
      · rename_i s hs; rw [hg]; exact evDo_sound hc hs (ih h hk)
      · cases h
    · rename_i x want hg
      rw [hg]
      simp only
      split at h
      · rename_i b hb
        rw [hb]
        split at h
        · rename_i e
          subst e
          split at h
          · rename_i s hs; exact ⟨fun _ => evDo_sound hc hs (ih h hk), fun e => by cases b <;> simp at e⟩
          · cases h
        · rename_i e
          exact ⟨fun e' => absurd e' e, fun _ => ih h hk⟩
      · rename_i cs hb; rw [hb]; exact ih h hk
      · cases h

theorem evC_sound {call : CallF} (hc : CallOk P call) {fuel : Nat} : ∀ (c : AC) {st st' : St} {x : AX} {K : AX → St → Prop}, evC call fuel c st = some (x, st') → K x st' → vc P c st K := by
  intro c
  induction c with
  | skip => intro st st' x K h hk; simp only [evC, Option.some.injEq, Prod.mk.injEq] at h; obtain ⟨rfl, rfl⟩ := h; exact hk
  | ret => intro st st' x K h hk; simp only [evC, Option.some.injEq, Prod.mk.injEq] at h; obtain ⟨rfl, rfl⟩ := h; exact hk
  | bad => intro st st' x K h hk; simp [evC] at h
  | exit id => intro st st' x K h hk; simp only [evC, Option.some.injEq, Prod.mk.injEq] at h; obtain ⟨rfl, rfl⟩ := h; exact hk
  | reg ops =>
    intro st st' x K h hk
    simp only [evC] at h
    split at h
    · rename_i s hs; simp only [Option.some.injEq, Prod.mk.injEq] at h; obtain ⟨rfl, rfl⟩ := h; exact evOps_sound hc ops hs hk
    · cases h
  | dreg r =>
    intro st st' x K h hk
    simp only [evC] at h
    split at h
    · rename_i s hs
      simp only [Option.some.injEq, Prod.mk.injEq] at h; obtain ⟨rfl, rfl⟩ := h
      unfold evDR at hs
      split at hs
      · rename_i d hd; cases hs; exact evD_sound hc _ hd hk
      · cases hs
    · cases h
  | seq a b iha ihb =>
    intro st st' x K h hk
    simp only [evC] at h
    simp only [vc]
    split at h
    · rename_i s hs; exact iha hs (ihb h hk)
    · rename_i hne
      refine iha h ?_
      cases x with
      | normal => exact absurd h (hne st')
      | exit id => exact hk
      | ret => exact hk
  | cond c a b iha ihb =>
    intro st st' x K h hk
    simp only [evC] at h
    simp only [vc]
    split at h
    · rename_i t ht
      rw [ht]
      split at h
      · rename_i e; exact ⟨fun _ => iha h hk, fun e' => by rw [e] at e'; cases e'⟩
      · rename_i e; exact ⟨fun e' => absurd e' e, fun _ => ihb h hk⟩
    · cases h
  | block id b ih =>
    intro st st' x K h hk
    simp only [evC] at h
    simp only [vc]
    split at h
    · rename_i id' s hs
      refine ih hs ?_
      split at h
      · rename_i e
        simp only [Option.some.injEq, Prod.mk.injEq] at h; obtain ⟨rfl, rfl⟩ := h
        simp only [e, if_true]; exact hk
      · rename_i e
        simp only [Option.some.injEq, Prod.mk.injEq] at h; obtain ⟨rfl, rfl⟩ := h
        simp only [e, if_false]; exact hk
    · rename_i hne
      refine ih h ?_
      cases x with
      | normal => exact hk
      | exit id' => exact absurd h (hne id' st')
      | ret => exact hk
  | loop b ih =>
    intro st st' x K h hk
    simp only [evC] at h
    simp only [vc]
    refine ⟨fun m s => evLoop (evC call fuel b) m s = some (x, st'), ⟨fuel, st, Wk.refl st, h⟩, fun m s hI => ?_⟩
    cases m with
    | zero => simp [evLoop] at hI
    | succ m =>
      simp only [evLoop] at hI
      split at hI
      · rename_i s' hs'; exact ih hs' ⟨m, s', Nat.lt_succ_self m, Wk.refl s', hI⟩
      · rename_i hne
        refine ih hI ?_
        cases x with
        | normal => exact absurd hI (hne st')
        | exit id => exact hk
        | ret => exact hk

theorem evF_sound {T : Tab} (hT : TabOk P T) (fuel : Nat) : ∀ d, CallOk P (evF T fuel d) := by
  intro d
  induction d with
  | zero => intro f avs h v h' hh; simp [evF] at hh
  | succ d ih =>
    intro f avs h v h' hh
    simp only [evF] at hh
    split at hh
    · rename_i fn hfn
      obtain ⟨hc, hi⟩ := hT f fn hfn
      refine ⟨hi, ?_⟩
      split at hh
      · rename_i hn
        refine fun_sound hc hn ?_
        split at hh
        · cases hh
        · rename_i x st hne hev
          split at hh
          · rename_i l hl
            simp only [Option.some.injEq, Prod.mk.injEq] at hh
            obtain ⟨rfl, rfl⟩ := hh
            refine evC_sound ih fn.code hev ?_
            cases x with
            | normal => simp only [atEnd, hl]; trivial
            | ret => simp only [atEnd, hl]; trivial
            | exit id => exact absurd rfl (hne id)
          · cases hh
        · cases hh
      · cases hh
    · cases hh

end
end Glb
