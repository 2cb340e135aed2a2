/-
  A library of its own, for whatever program: regions whose order is drawn: the whole.
-/
import Derived.Test.YtoijpkpfgamlpaaGlbDraw4
set_option linter.unusedSimpArgs false
set_option linter.unusedVariables false
namespace Glb
open Go

theorem finL_spec (R : Env) (s : Nat) : ∀ (l : List (Nat × Nat)) (L : Env), (∃ i, (s, i) ∈ l ∧ lk s (finL R l L) = lk i R) ∨ ((∀ i, (s, i) ∉ l) ∧ lk s (finL R l L) = lk s L) := by
  intro l
  induction l with
  | nil => intro L; exact .inr ⟨fun i h => by simp at h, rfl⟩
  | cons x r ih =>
    intro L
    obtain ⟨t, i⟩ := x
    simp only [finL]
    rcases ih (ins t (lk i R) L) with ⟨q, h1, h2⟩ | ⟨h1, h2⟩
    · exact .inl ⟨q, by simp [h1], h2⟩
    · rw [h2, lk_ins]
      by_cases e : s = t
      · subst e
        left
        exact ⟨i, by simp, by simp⟩
      · right
        refine ⟨fun q hq => ?_, by simp [e]⟩
        rcases List.mem_cons.1 hq with hq | hq
        · cases hq; exact e rfl
        · exact h1 q hq

theorem finOf_spec {keep : Nat → Bool} : ∀ (ops : List Oper) (k : Nat) (t i : Nat), (t, i) ∈ finOf keep ops k ↔ k ≤ i ∧ keep t = true ∧ ∃ o, ops[i - k]? = some o ∧ o.dst = some t := by
  intro ops
  induction ops with
  | nil => intro k t i; simp [finOf]
  | cons x r ih =>
    intro k t i
    have step : (t, i) ∈ finOf keep r (k + 1) ↔ k + 1 ≤ i ∧ keep t = true ∧ ∃ o, (x :: r)[i - k]? = some o ∧ o.dst = some t := by
      rw [ih]
      constructor
      · rintro ⟨h1, h2, o, h3, h4⟩
        exact ⟨h1, h2, o, by rw [show i - k = (i - (k + 1)) + 1 by omega]; simpa using h3, h4⟩
      · rintro ⟨h1, h2, o, h3, h4⟩
        rw [show i - k = (i - (k + 1)) + 1 by omega] at h3
        exact ⟨h1, h2, o, by simpa using h3, h4⟩
    have lift : (t, i) ∈ finOf keep r (k + 1) → k ≤ i ∧ keep t = true ∧ ∃ o, (x :: r)[i - k]? = some o ∧ o.dst = some t := fun h => by
      obtain ⟨h1, h2⟩ := step.1 h; exact ⟨by omega, h2⟩
    have low : (k ≤ i ∧ keep t = true ∧ ∃ o, (x :: r)[i - k]? = some o ∧ o.dst = some t) → (i = k ∧ keep t = true ∧ x.dst = some t) ∨ (t, i) ∈ finOf keep r (k + 1) := by
      rintro ⟨h1, h2, o, h3, h4⟩
      by_cases e : i = k
      · subst e; simp at h3; subst h3; exact .inl ⟨rfl, h2, h4⟩
      · exact .inr (step.2 ⟨by omega, h2, o, h3, h4⟩)
    simp only [finOf]
    cases hd : x.dst with
    | none =>
      simp only
      exact ⟨lift, fun h => by
        rcases low h with ⟨_, _, h⟩ | h
        · rw [hd] at h; cases h
        · exact h⟩
    | some s =>
      simp only
      split
      · rename_i hk
        constructor
        · intro h
          rcases List.mem_cons.1 h with h | h
          · cases h; exact ⟨Nat.le_refl _, hk, x, by simp, hd⟩
          · exact lift h
        · intro h
          rcases low h with ⟨e1, _, e2⟩ | h
          · rw [hd] at e2; cases e2; subst e1; simp
          · simp [h]
      · rename_i hk
        exact ⟨lift, fun h => by
          rcases low h with ⟨_, e, e2⟩ | h
          · rw [hd] at e2; cases e2; exact absurd e hk
          · exact h⟩

section
variable {P : Program} {n : Nat} {keep : Nat → Bool} {ops : List Oper} {r : DR} {L0 : Env} {lo : Nat} {G0 : Gh} {w0 : World}

theorem cOp_call {tr : Operand → Opd} {o : Oper} {f : FuncId} {args : List Opd} (h : cOp P tr o = some (.call f args)) :
    ∃ as tys, o.op = .call { callee := .value (.func f), args := as, argTypes := tys } ∧ args = as.toList.map tr := by
  unfold cOp at h
  split at h
  · cases h
  · split at h
    · cases h
    · split at h
      · rename_i heq; cases h; exact ⟨_, _, heq, rfl⟩
      · cases h
      · cases h

theorem cOp_callv {tr : Operand → Opd} {o : Oper} {x : Opd} {args : List Opd} (h : cOp P tr o = some (.callv x args)) :
    ∃ y as tys, o.op = .call { callee := .value y, args := as, argTypes := tys } ∧ x = tr y ∧ args = as.toList.map tr := by
  unfold cOp at h
  split at h
  · cases h
  · split at h
    · cases h
    · split at h
      · cases h
      · rename_i heq; cases h; exact ⟨_, _, _, heq, rfl, rfl⟩
      · cases h

/-- what acts on memory, when it is its turn -/
theorem J.doHeavy (F : DF P n keep ops r) {listed : Array Bool} {pre rest : List DO} {d : DS} {G : Gh} {w : World} {a : Act} {o : DO} (j : J P n keep ops r L0 lo G0 w0 listed pre (o :: rest) d G w a) (hv : o.hv = true)
    (hd : ∀ q, r.dep o.i q = true → listed.getD q false = true) (hgo : GoOk d o) {K : DS → Prop} (hvc : vcDo P r.dep lo r.k o d K) {Q : Exit → Act → World → Prop} {next : Act → World → Prop}
    (hK : ∀ d' G' w' a', J P n keep ops r L0 lo G0 w0 (listed.setIfInBounds o.i true) (pre ++ [o]) rest d' G' w' a' → K d' → next a' w') : wpOp P ops.toArray Q o.i next a w := by
  have ho : o ∈ r.items := by rw [j.items]; simp
  have hi := j.sub o (by simp)
  obtain ⟨hhv, op, hop, hcop, hcg⟩ := F.item o ho
  obtain ⟨Gk, gk, kk, fin⟩ := j.heavyDone F hv hd hop
  have hstG : Stands G w (trD keep ops r.masks o.i) d.get a := j.stands F hi hd (fun _ _ => rfl) (fun t => by simp only [DS.get, j.L]) (fun _ => rfl)
  have hst : Stands Gk w (trD keep ops r.masks o.i) d.get a := fun x => (hstG x).keep kk
  have hopA : ops.toArray[o.i]? = some op := by simpa using hop
  have hw : Region.wanted op (yielded ops.toArray a.tmps) = true := by
    rcases hgo with hg | ⟨x, want, hg, hx⟩
    · rw [hg] at hcg
      unfold cGuardD at hcg
      split at hcg
      · rename_i hgo; simp [Region.wanted, hgo]
      · split at hcg <;> cases hcg
    · rw [hg] at hcg
      unfold cGuardD at hcg
      split at hcg
      · cases hcg
      · rename_i jj want' hgo
        split at hcg
        · rename_i t ht
          cases hcg
          rw [(guard_specD (hstG (.tmp t)) hgo (by simpa using ht)).1 _ hx]; simp
        · cases hcg
  unfold wpOp
  simp only [hopA]
  rw [hw]
  simp only [if_true]
  left
  simp only [vcDo, hv] at hvc
  split at hvc
  · contradiction
  · contradiction
  · contradiction
  · -- a store, an append
    rename_i ho' _ hop'
    split at hvc
    · rename_i v h' hh
      rw [hop'] at hcop
      obtain ⟨nx, u, w', G', hu, hnx, hg, hV, hstp⟩ := hop_sound (P := P) gk hst (cOp_h hcop) hh
      obtain ⟨G'', jj, hk⟩ := fin hstp hg hV hvc
      unfold Oper.wp
      rw [hu]
      rcases hnx with rfl | ⟨rfl, rfl⟩
      · exact hK _ _ _ _ jj hk
      · exact hK _ _ _ _ jj hk
    · exact hvc.elim
  · -- a call
    rename_i f args _ hop'
    obtain ⟨hf, hvc⟩ := hvc
    rw [hop'] at hcop
    obtain ⟨as, tys, hcall, rfl⟩ := cOp_call hcop
    have hrun : (execOp a.eval op).run P w = .ok (.enter f (as.map a.eval)) w := by
      obtain ⟨dst, op', type, pos, after, guard⟩ := op
      have hcall' : op' = _ := hcall
      subst hcall'
      simp only [execOp, resolve, Act.eval, Deferred.ofValue, Sem.run_bind, Sem.run_pure, Result.andThen_ok, invoke]
      rw [run_callFunc hf]
      simp
    unfold Oper.wp
    rw [hrun, Oper.upon_enter]
    refine (hvc Gk w (as.map a.eval) gk ⟨by simp, fun q c v hc hv' => ?_⟩).mono ?_
    · exact VL.map hst as.toList q c v (by simpa using hc) (by simpa using hv')
    · rintro e w' ⟨v, rr, h', G', rfl, hb, hg, hV, hstp⟩
      obtain ⟨G'', jj, hk⟩ := fin hstp hg hV hb
      exact hK _ _ _ _ jj hk
  · -- a call of a value
    rename_i x args _ hop'
    split at hvc
    · rename_i f fs cs hx
      obtain ⟨hf, hvc⟩ := hvc
      rw [hop'] at hcop
      obtain ⟨y, as, tys, hcall, rfl, rfl⟩ := cOp_callv hcop
      have hxv := hst y
      rw [hx] at hxv
      generalize hvq : a.eval y = fv at hxv
      cases hxv with
      | clo _ _ us _ vs hlu hUs hl hVs =>
      have hrun : (execOp a.eval op).run P w = .ok (.enter f (us ++ as.map a.eval ++ vs)) w := by
        obtain ⟨dst, op', type, pos, after, guard⟩ := op
        have hcall' : op' = _ := hcall
        subst hcall'
        simp only [execOp, resolve, hvq, Deferred.ofValue, Sem.run_bind, Sem.run_pure, Result.andThen_ok, invoke]
        rw [run_callFunc hf]
      unfold Oper.wp
      rw [hrun, Oper.upon_enter]
      refine (hvc Gk w (us ++ as.map a.eval ++ vs) gk (VL.app (VL.app ⟨hlu, hUs⟩ ⟨by simp, fun q c v hc hv' => VL.map hst as.toList q c v (by simpa using hc) (by simpa using hv')⟩) ⟨hl, hVs⟩)).mono ?_
      · rintro e w' ⟨v, rr, h', G', rfl, hb, hg, hV, hstp⟩
        obtain ⟨G'', jj, hk⟩ := fin hstp hg hV hb
        exact hK _ _ _ _ jj hk
    · exact hvc.elim
  · exact hvc.elim

/-- all is done when nothing is ready -/
theorem J.allDone (F : DF P n keep ops r) {listed : Array Bool} {pre rest : List DO} {d : DS} {G : Gh} {w : World} {a : Act} (j : J P n keep ops r L0 lo G0 w0 listed pre rest d G w a)
    (hr : Region.ready .any ops.toArray listed = []) : ∀ i, i < ops.length → listed.getD i false = true := by
  intro i
  induction i using Nat.strongRecOn with
  | _ i ih =>
    intro hi
    cases hl : listed.getD i false with
    | true => rfl
    | false =>
      have hs : i < listed.size := by rw [j.lsize]; exact hi
      have : i ∈ Region.ready .any ops.toArray listed := by
        rw [mem_ready]
        refine ⟨by simp [hs] at hl ⊢; exact hl, ops[i], by simp [hi], fun e he hb => ?_⟩
        have := F.edges i ops[i] (by simp [hi]) e (by simpa using he) hb
        exact ih e.on this (by omega)
      rw [hr] at this; cases this

theorem draw_any (F : DF P n keep ops r) {K : DS → Prop} {Q : Exit → Act → World → Prop}
    (hQ : ∀ d G w a, J P n keep ops r L0 lo G0 w0 (Array.replicate ops.length true) r.items [] d G w a → K d → Q .normal a w) :
    ∀ (fuel : Nat) {listed : Array Bool} {pre rest : List DO} {d : DS} {G : Gh} {w : World} {a : Act}, J P n keep ops r L0 lo G0 w0 listed pre rest d G w a → vcD P r.dep lo r.k rest d K →
      ((List.range ops.length).filter fun i => !listed.getD i false).length ≤ fuel → wpAny P .any ops.toArray Q fuel listed a w := by
  have last : ∀ {listed : Array Bool} {pre rest : List DO} {d : DS} {G : Gh} {w : World} {a : Act}, J P n keep ops r L0 lo G0 w0 listed pre rest d G w a →
      ((rest = [] ∧ K d) ∨ ∃ o q, rest = o :: q ∧ o.hv = true ∧ GoOk d o ∧ vcDo P r.dep lo r.k o d fun d'' => vcD P r.dep lo r.k q d'' K) → (∀ i, i < ops.length → listed.getD i false = true) → Q .normal a w := by
    intro listed pre rest d G w a j hc hall
    have hli : listed = Array.replicate ops.length true := by
      apply Array.ext
      · simp [j.lsize]
      · intro i h1 h2
        have := hall i (by rw [← j.lsize]; exact h1)
        simp [h1] at this
        simp [this]
    rcases hc with ⟨rfl, hk⟩ | ⟨o, q, rfl, hv, _⟩
    · have hp : pre = r.items := by rw [j.items]; simp
      subst hp
      subst hli
      exact hQ d G w a j hk
    · have h1 := j.sub o (by simp)
      obtain ⟨_, op, hop, _⟩ := F.item o (by rw [j.items]; simp)
      rw [hall o.i (List.getElem?_eq_some_iff.1 hop).1] at h1
      cases h1
  intro fuel
  induction fuel with
  | zero =>
    intro listed pre rest d G w a j hvc hle
    obtain ⟨pre', rest', d', j', hc⟩ := j.advance F rest pre d hvc
    have hall : ∀ i, i < ops.length → listed.getD i false = true := by
      intro i hi
      have hnil := List.eq_nil_of_length_eq_zero (Nat.le_zero.1 hle)
      cases hl : listed.getD i false with
      | true => rfl
      | false =>
        have : i ∈ (List.range ops.length).filter fun i => !listed.getD i false := by simp [List.mem_filter, hi]; simpa using hl
        rw [hnil] at this; cases this
    refine ⟨?_, last j' hc hall⟩
    apply List.eq_nil_iff_forall_not_mem.2
    intro i hi
    obtain ⟨h1, h2, _⟩ := j'.ready F hi
    rw [hall i h2] at h1; cases h1
  | succ fuel ih =>
    intro listed pre rest d G w a j hvc hle
    obtain ⟨pre', rest', d', j', hc⟩ := j.advance F rest pre d hvc
    refine ⟨fun hr => last j' hc (j'.allDone F hr), fun i hi => ?_⟩
    obtain ⟨h1, h2, ⟨op, hop⟩, h4⟩ := j'.ready F hi
    have hls : i < listed.size := by rw [j.lsize]; exact h2
    have hfu : ((List.range ops.length).filter fun q => !(listed.setIfInBounds i true).getD q false).length ≤ fuel := by
      have e : ((List.range ops.length).filter fun q => !(listed.setIfInBounds i true).getD q false) = ((List.range ops.length).filter fun q => !listed.getD q false).filter fun q => !decide (q = i) := by
        rw [List.filter_filter]
        apply List.filter_congr
        intro q _
        rw [listed_set hls]
        cases decide (q = i) <;> cases listed.getD q false <;> rfl
      rw [e]
      have hm : i ∈ (List.range ops.length).filter fun q => !listed.getD q false := by simp [List.mem_filter, h2]; simpa using h1
      have : (((List.range ops.length).filter fun q => !listed.getD q false).filter fun q => !decide (q = i)).length < ((List.range ops.length).filter fun q => !listed.getD q false).length := by
        refine List.length_filter_lt_length_iff_exists.2 ⟨i, hm, by simp⟩
      omega
    obtain ⟨o, ho, rfl⟩ := F.cover i h2
    rw [j'.items] at ho
    rcases List.mem_append.1 ho with ho | ho
    · refine j'.doneWill F ho h1 h4 (fun G' w' a' jj => ?_)
      rcases hc with ⟨e1, hk⟩ | ⟨o', q, e1, hv, hgo, hvd⟩
      · exact ih jj (by rw [e1]; exact hk) hfu
      · refine ih jj ?_ hfu
        rw [e1]
        simp only [vcD]
        rcases hgo with hg | ⟨x, want, hg, hx⟩
        · rw [hg]; exact hvd
        · rw [hg]; simp only [hx]
          exact ⟨fun _ => hvd, fun e => by cases want <;> simp at e⟩
    · rcases hc with ⟨e1, hk⟩ | ⟨o', q, e1, hv, hgo, hvd⟩
      · rw [e1] at ho; cases ho
      · subst e1
        rcases List.mem_cons.1 ho with rfl | ho
        · exact j'.doHeavy F hv h4 hgo hvd (fun d' G' w' a' jj hk => ih jj hk hfu)
        · exfalso
          have hsp := orderOk_split (pre := pre' ++ [o']) (rest := q) (by rw [List.append_assoc, List.singleton_append, ← j'.items]; exact F.ord) o' (by simp) o ho
          have := h4 o'.i (hsp.2.2.1 hv)
          rw [j'.sub o' (by simp)] at this
          cases this

theorem draw_sound (hm : P.follows .mixedOrders = true) {opsA : Array Oper} {id : Nat} (hc : cDR P n keep opsA.toList = some r) {G : Gh} {w : World} {st : St} {a : Act} (sr : SR n keep G0 w0 G w st a) {K : St → Prop}
    (hk : vcDR P r st K) {Q : Exit → Act → World → Prop} (hQ : ∀ G' w' st' a', SR n keep G0 w0 G' w' st' a' → K st' → Q .normal a' w') : (Code.region id opsA true).wp P Q a w := by
  have F := cDR_spec hc
  refine wp_region_any hm ?_
  have hs : opsA.toList.length = opsA.size := by simp
  have key : wpAny P .any opsA.toList.toArray Q opsA.toList.length (Array.replicate opsA.toList.length false) a w.drew := by
    have gd : Gam G w.drew st.h := sr.gam.same rfl
    have kd : Keeps G w G w.drew := Keeps.heap_eq rfl
    obtain ⟨gr, sr'⟩ := gd.reserve r.k
    have nonL : ∀ i, (Array.replicate opsA.toList.length false).getD i false = false := by
      intro i; by_cases h : i < opsA.toList.length <;> simp at h <;> simp [h]
    refine draw_any F (L0 := st.L) (lo := st.h.length) (G0 := G0) (w0 := w0) (K := fun d => K ⟨finL d.R r.fin st.L, [], d.h⟩) ?_ opsA.toList.length (pre := []) (rest := r.items) (d := ⟨st.L, [], st.h ++ List.replicate r.k none, [], []⟩) (G := G.reserve r.k) ?_ hk ?_
    · intro d G' w' a' j hK
      obtain ⟨hS, g, hs'⟩ := j.heap
      have hall : ∀ i, i < opsA.toList.length → (Array.replicate opsA.toList.length true).getD i false = true := by intro i hi; simp at hi; simp [hi]
      have hSd : hS = d.h := by
        apply List.ext_getElem?
        intro m
        refine hs'.other m (fun o ho _ hl => ?_)
        obtain ⟨_, op, hop, _⟩ := F.item o ho
        rw [hall _ (List.getElem?_eq_some_iff.1 hop).1] at hl; cases hl
      subst hSd
      refine hQ G' w' _ a' ⟨g, j.size, j.defers, fun s hks => ?_, fun s _ => .top _, j.stp⟩ hK
      have hf := F.fin
      rcases finL_spec d.R s r.fin st.L with ⟨i, h1, h2⟩ | ⟨h1, h2⟩
      · simp only; rw [h2]
        rw [hf] at h1
        obtain ⟨_, _, o, ho, hdst⟩ := (finOf_spec _ 0 s i).1 h1
        simp only [Nat.sub_zero] at ho
        exact j.A i o s (hall i (List.getElem?_eq_some_iff.1 ho).1) ho hdst
      · simp only; rw [h2]
        refine j.B s hks (fun i op hi hop hdst => h1 i ?_)
        rw [hf]
        exact (finOf_spec _ 0 s i).2 ⟨Nat.zero_le _, hks, op, by simpa using hop, hdst⟩
    · have kG : Keeps G w (G.reserve r.k) w.drew := kd.trans sr'.keep
      refine { items := rfl, lsize := by simp, clos := (fun i q h => by rw [nonL] at h; cases h), sub := (fun o _ => nonL _), L := rfl, A := (fun i op t h => by rw [nonL] at h; cases h),
               B := (fun t hkt _ => (sr.L t hkt).keep kG), will := (fun o ho => by simp at ho), heap := ⟨_, gr, rfl, by simp, (fun _ _ => rfl), (fun o ho hl _ => ?_)⟩, ltsN := List.nodup_nil, lts := (fun x hx => by simp at hx),
               ltsC := (fun o ho => by simp at ho), later := (fun o ho hl => ?_), size := sr.size, defers := sr.defers, stp := (sr.stp.trans (Stp.drew G w _)).trans sr', lo := ?_ }
      · have hlt := orderOk_mem F.ord o ho hl
        refine ⟨?_, ?_, ?_⟩
        · rw [List.getElem?_append_right (by omega), List.getElem?_replicate, if_pos (by omega)]
        · simp only [Gh.reserve]; rw [if_neg (by rw [← sr.gam.len]; omega)]
        · simp only [Gh.reserve]; rw [← sr.gam.len]; omega
      · have hlt := orderOk_mem F.ord o ho hl
        simp only
        rw [List.getElem?_append_right (by omega), List.getElem?_replicate, if_pos (by omega)]
      · have := sr.stp.keep.N; rw [sr.gam.len]; exact this
    · refine Nat.le_trans (List.length_filter_le _ _) (by simp)
  have e2 : opsA.toList.toArray = opsA := by simp
  rw [e2, hs] at key
  exact key

end
end Glb
