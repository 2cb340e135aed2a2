/-
  A library of its own, for whatever program: functions.
-/
import Derived.Test.YtoijpkpfgamlpaaGlbVc
set_option linter.unusedSimpArgs false
set_option linter.unusedVariables false
namespace Glb
open Go

inductive ARes where
  | tmp (x : Opd)
  | cell (x : Opd) (agg : Bool) (n : Nat)

def cRes (P : Program) (keep : Nat → Bool) : List ResultVar → Option (List ARes)
  | [] => some []
  | .tmp t :: r => (cRes P keep r).map (.tmp (cd keep (.tmp t)) :: ·)
  | .cell a t :: r => match isAggT P t, P.info? t, cRes P keep r with
    | some b, some i, some l => some (.cell (cd keep (.tmp a)) b i.size :: l)
    | _, _, _ => none

def resVals (st : St) : List ARes → Option (List AV)
  | [] => some []
  | .tmp x :: r => (resVals st r).map (st.get x :: ·)
  | .cell x agg n :: r => match aload st.h agg n (st.get x), resVals st r with
    | some v, some l => some (v :: l)
    | _, _ => none

def oneOrTup : List AV → AV
  | [x] => x
  | l => .tup l

structure AFn where
  n : Nat
  keep : Nat → Bool
  code : AC
  res : List ARes

def cFn (P : Program) (keep : Nat → Bool) (f : FuncId) : Option AFn :=
  match P.funcs[f]? with
  | some fn => match fn.body with
    | some c => match cC P fn.ntmps keep c, cRes P keep fn.results.toList with
      | some ac, some res => some ⟨fn.ntmps, keep, ac, res⟩
      | _, _ => none
    | none => none
  | none => none

def initEnv (p : Nat → Bool) : Nat → List AV → Env
  | _, [] => []
  | i, v :: r => if p i then (i, v) :: initEnv p (i + 1) r else initEnv p (i + 1) r

theorem lk_initEnv (p : Nat → Bool) : ∀ (vs : List AV) (i s : Nat), lk s (initEnv p i vs) = .top ∨ (i ≤ s ∧ vs[s - i]? = some (lk s (initEnv p i vs))) := by
  intro vs
  induction vs with
  | nil => intro i s; exact .inl rfl
  | cons v vs ih =>
    intro i s
    have shift : lk s (initEnv p (i + 1) vs) = .top ∨ (i ≤ s ∧ (v :: vs)[s - i]? = some (lk s (initEnv p (i + 1) vs))) := by
      rcases ih (i + 1) s with h | ⟨h1, h2⟩
      · exact .inl h
      · exact .inr ⟨by omega, by rw [show s - i = (s - (i + 1)) + 1 by omega]; simpa using h2⟩
    simp only [initEnv]
    split
    · simp only [lk]
      split
      · rename_i h; subst h; exact .inr ⟨Nat.le_refl _, by simp⟩
      · exact shift
    · exact shift

def initSt (keep : Nat → Bool) (avs : List AV) (h : AHeap) : St := ⟨initEnv keep 0 avs, initEnv (fun s => !keep s) 0 avs, h⟩

/-- what a function's end comes to -/
def atEnd (res : List ARes) (K : AV → AHeap → Prop) : AX → St → Prop
  | .exit _, _ => False
  | _, st => match resVals st res with
    | some l => K (oneOrTup l) st.h
    | none => False

section
variable {n : Nat} {keep : Nat → Bool} {G0 : Gh} {w0 : World} {P : Program}

theorem resVals_sound {G w st a} (sr : SR n keep G0 w0 G w st a) : ∀ (rs : List ResultVar) (res : List ARes) (l : List AV), cRes P keep rs = some res → resVals st res = some l →
    ∃ vs : List Value, (rs.mapM fun
      | .tmp t => pure (a.tmps.getD t undef)
      | .cell x t => do loadVar t (← asAddr (a.tmps.getD x undef)) : Sem (List Value)).run P w = .ok vs w ∧ l.length = vs.length ∧
      ∀ (j : Nat) (c : AV) (v : Value), l[j]? = some c → vs[j]? = some v → V G w c v := by
  intro rs
  induction rs with
  | nil =>
    intro res l hc hl
    simp only [cRes, Option.some.injEq] at hc
    subst hc
    simp only [resVals, Option.some.injEq] at hl
    subst hl
    exact ⟨[], rfl, rfl, fun j c v h => by simp at h⟩
  | cons r rs ih =>
    intro res l hc hl
    have cons : ∀ {c : AV} {v : Value} {l' : List AV} {vs : List Value}, V G w c v → l'.length = vs.length → (∀ (j : Nat) (c : AV) (v : Value), l'[j]? = some c → vs[j]? = some v → V G w c v) →
        (c :: l').length = (v :: vs).length ∧ ∀ (j : Nat) (c' : AV) (v' : Value), (c :: l')[j]? = some c' → (v :: vs)[j]? = some v' → V G w c' v' := by
      intro c v l' vs h1 h2 h3
      refine ⟨by simp [h2], fun j c' v' hc hv => ?_⟩
      cases j with
      | zero => simp at hc hv; subst hc; subst hv; exact h1
      | succ j => exact h3 j c' v' (by simpa using hc) (by simpa using hv)
    cases r with
    | tmp t =>
      simp only [cRes, Option.map_eq_some_iff] at hc
      obtain ⟨res', hres, rfl⟩ := hc
      simp only [resVals, Option.map_eq_some_iff] at hl
      obtain ⟨l', hl', rfl⟩ := hl
      obtain ⟨vs, h1, h2, h3⟩ := ih res' l' hres hl'
      have hv := sr.stands (.tmp t)
      refine ⟨a.tmps.getD t undef :: vs, ?_, cons hv h2 h3⟩
      simp only [List.mapM_cons, Sem.run_bind, Sem.run_pure, Result.andThen_ok, h1]
    | cell x t =>
      simp only [cRes] at hc
      split at hc
      · rename_i b i res' hb hi hres
        cases hc
        simp only [resVals] at hl
        split at hl
        · rename_i c l' hld hl'
          cases hl
          obtain ⟨vs, h1, h2, h3⟩ := ih res' l' hres hl'
          obtain ⟨u, hu, hV⟩ := aload_sound (P := P) sr.gam (sr.stands (.tmp x)) hld (run_isAggT hb) (run_size hi)
          refine ⟨u :: vs, ?_, cons hV h2 h3⟩
          have hu' : ((do loadVar t (← asAddr (a.tmps.getD x undef)) : Sem Value)).run P w = .ok u w := by
            have he : a.eval (.tmp x) = a.tmps.getD x undef := rfl
            rw [he] at hu
            generalize a.tmps.getD x undef = q at hu
            cases q with
            | pointer p => cases p with
              | none => simp [Instr.loadAt, Instr.sureAddr] at hu
              | some p => simpa [Instr.loadAt, Instr.sureAddr, asAddr] using hu
            | _ => simp [Instr.loadAt, Instr.sureAddr] at hu
          simp only [List.mapM_cons, Sem.run_bind, Sem.run_pure, Result.andThen_ok, h1]
          simp only [Sem.run_bind] at hu'
          rw [hu']
          simp only [Result.andThen_ok, h1]
        · cases hl
      · cases hc

theorem results_sound {G w st a} (sr : SR n keep G0 w0 G w st a) {fn : Func} {res : List ARes} {l : List AV} (hc : cRes P keep fn.results.toList = some res) (hl : resVals st res = some l) :
    ∃ v, (results fn a.tmps).run P w = .ok v w ∧ V G w (oneOrTup l) v := by
  obtain ⟨vs, h1, h2, h3⟩ := resVals_sound sr fn.results.toList res l hc hl
  have hm : (fn.results.mapM fun
      | .tmp t => pure (a.tmps.getD t undef)
      | .cell x t => do loadVar t (← asAddr (a.tmps.getD x undef)) : Sem (Array Value)).run P w = .ok vs.toArray w := by
    have e : ∀ (x : Sem (List Value)), (Functor.map List.toArray x : Sem (Array Value)).run P w = (x.run P w).andThen fun a w' => .ok a.toArray w' := fun x => Sem.run_bind' P x _ w
    rw [Array.mapM_eq_mapM_toList, e, h1]
    rfl
  refine ⟨if h : vs.toArray.size = 1 then vs.toArray[0] else .tuple vs.toArray, ?_, ?_⟩
  · unfold results
    rw [Sem.run_bind]
    exact (congrArg (fun r => Result.andThen r _) hm).trans rfl
  · unfold oneOrTup
    split
    · rename_i x
      have hs : vs.length = 1 := by simpa using h2.symm
      rw [dif_pos (by simpa using hs)]
      exact h3 0 x _ rfl (by simp [hs])
    · rename_i hne
      have hs : ¬ vs.toArray.size = 1 := by
        intro hs
        have : l.length = 1 := by rw [h2]; simpa using hs
        obtain ⟨x, hx⟩ := List.length_eq_one_iff.1 this
        exact hne x hx
      rw [dif_neg hs]
      exact .tup _ _ (by simpa using h2) (fun j c v hc hv => h3 j c v hc (by simpa using hv))

/-- a function, by what is to be shown of its code -/
theorem fun_sound {f : FuncId} {fn : AFn} (hf : cFn P keep f = some fn) {avs : List AV} (hn : avs.length ≤ fn.n) {h : AHeap} {K : AV → AHeap → Prop}
    (hk : vc P fn.code (initSt keep avs h) (atEnd fn.res K)) : ACalls P f avs h K := by
  unfold cFn at hf
  split at hf
  · rename_i fd hfd
    split at hf
    · rename_i c hc
      split at hf
      · rename_i ac res hac hres
        cases hf
        intro G w vs hg hv
        refine calls_of_wp hfd hc ?_
        have sr : SR fd.ntmps keep G w G w (initSt keep avs h) { tmps := vs ++ Array.replicate (fd.ntmps - vs.size) undef, defers := [] } := by
          have hle : vs.size ≤ fd.ntmps := by rw [← hv.1]; exact hn
          have env : ∀ (p : Nat → Bool) (s : Nat), V G w (lk s (initEnv p 0 avs)) ((vs ++ Array.replicate (fd.ntmps - vs.size) undef).getD s undef) := by
            intro p s
            rcases lk_initEnv p avs 0 s with e | ⟨_, e⟩
            · rw [e]; exact .top _
            · simp only [Nat.sub_zero] at e
              obtain ⟨v, hv', hV⟩ := hv.get e
              have hlt := (Array.getElem?_eq_some_iff.1 hv').1
              have : (vs ++ Array.replicate (fd.ntmps - vs.size) undef).getD s undef = v := by
                simp [Array.getElem?_append, hlt]
                have := hv'
                simp [hlt] at this
                exact this
              rw [this]; exact hV
          exact ⟨hg, by simp; omega, rfl, fun s _ => env keep s, fun s _ => env _ s, Stp.refl G w⟩
        refine wp_mono (vc_sound c ac hac sr hk) ?_
        intro e a w' hp
        have fin : ∀ {G' st'}, SR fd.ntmps keep G w G' w' st' a → atEnd res K .ret st' → a.defers = [] ∧ ∃ v, (results fd a.tmps).run P w' = .ok v w' ∧
            ∃ v0 r h' G', Ending.returned v = .returned v0 ∧ K r h' ∧ Gam G' w' h' ∧ V G' w' r v0 ∧ Stp G w G' w' := by
          intro G' st' sr' hK
          simp only [atEnd] at hK
          split at hK
          · rename_i l hl
            obtain ⟨v, hrun, hV⟩ := results_sound (P := P) sr' hres hl
            exact ⟨sr'.defers, v, hrun, v, _, _, G', rfl, hK, sr'.gam, hV, sr'.stp⟩
          · exact hK.elim
        cases e with
        | normal => obtain ⟨G', st', sr', hK⟩ := hp; exact fin sr' hK
        | ret => obtain ⟨G', st', sr', hK⟩ := hp; exact fin sr' hK
        | exit id => obtain ⟨G', st', sr', hK⟩ := hp; exact hK.elim
        | goto l => exact hp.elim
        | panic c => exact hp.elim
        | outgrown => exact hp.elim
      · cases hf
    · cases hf
  · cases hf

end
end Glb
