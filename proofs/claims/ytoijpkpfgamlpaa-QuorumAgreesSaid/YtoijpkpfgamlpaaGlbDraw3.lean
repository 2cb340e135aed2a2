/-
  A library of its own, for whatever program: regions whose order is drawn: that one order is enough (the steps).
-/
import Derived.Test.YtoijpkpfgamlpaaGlbDraw2
set_option linter.unusedSimpArgs false
set_option linter.unusedVariables false
namespace Glb
open Go

section
variable {P : Program} {n : Nat} {keep : Nat → Bool} {ops : List Oper} {r : DR} {L0 : Env} {lo : Nat} {G0 : Gh} {w0 : World}

theorem lk_cons_ne {i q : Nat} {v : AV} {R : Env} (h : q ≠ i) : lk q ((i, v) :: R) = lk q R := by
  simp only [lk]; rw [if_neg (fun e => h e.symm)]

theorem lk_cons_eq {i : Nat} {v : AV} {R : Env} : lk i ((i, v) :: R) = v := by simp [lk]

/-- one more is looked at ahead -/
theorem J.consume (F : DF P n keep ops r) {listed : Array Bool} {pre rest : List DO} {d d' : DS} {o : DO} {G : Gh} {w : World} {a : Act} (j : J P n keep ops r L0 lo G0 w0 listed pre (o :: rest) d G w a) {v : AV}
    (hL : d'.L = d.L) (hR : d'.R = (o.i, v) :: d.R) (hlen : d'.h.length = d.h.length) (hh : ∀ m, (o.op.lightQ = true → m ≠ lo + o.nm) → d'.h[m]? = d.h[m]?) (hp : ∀ p ∈ d.pend, p ∈ d'.pend)
    (hw : Will P r L0 lo d' o)
    (hlts : (d'.lts = d.lts ∧ (o.op.lightQ = true → d'.h[lo + o.nm]? = some none)) ∨ (o.op.lightQ = true ∧ v ≠ .tup [] ∧ ∃ sz es gr, d'.lts = (o.i, lo + o.nm, .arr sz es gr) :: d.lts ∧ d'.h[lo + o.nm]? = some (some (.arr sz es gr)))) :
    J P n keep ops r L0 lo G0 w0 listed (pre ++ [o]) rest d' G w a := by
  have hitems : r.items = (pre ++ [o]) ++ rest := by rw [j.items]; simp
  have ho : o ∈ r.items := by rw [j.items]; simp
  have hi := j.sub o (by simp)
  have split := fun x hx y hy => orderOk_split (pre := pre) (rest := o :: rest) (by rw [← j.items]; exact F.ord) x hx y hy
  have preNe : ∀ x ∈ pre, o.i ≠ x.i := fun x hx => (split x hx o (by simp)).1
  have preNm : ∀ x ∈ pre, o.op.lightQ = true → x.op.lightQ = true → lo + x.nm ≠ lo + o.nm := fun x hx h1 h2 e => (split x hx o (by simp)).2.2.2 h2 h1 (by omega)
  refine { items := hitems, lsize := j.lsize, clos := j.clos, sub := fun x hx => j.sub x (by simp [hx]), L := by rw [hL, j.L], A := fun i op t h1 h2 h3 => ?_, B := j.B, will := fun x hx hxl => ?_, heap := ?_,
           ltsN := ?_, lts := fun x hx => ?_, ltsC := fun x hx hxl => ?_, later := fun x hx hxl => ?_, size := j.size, defers := j.defers, stp := j.stp, lo := j.lo }
  · rw [hR, lk_cons_ne (by rintro rfl; rw [hi] at h1; cases h1)]
    exact j.A i op t h1 h2 h3
  · rcases List.mem_append.1 hx with hx | hx
    · have hne := preNe x hx
      have hlk : lk x.i d'.R = lk x.i d.R := by rw [hR, lk_cons_ne (fun e => hne e.symm)]
      have hnd : r.dep x.i o.i = false := (split x hx o (by simp)).2.1
      obtain ⟨γ, g1, g2, g3, hc⟩ := j.will x hx hxl
      refine ⟨γ, fun q hq => ?_, g2, g3, ?_⟩
      · rw [hR, lk_cons_ne (by rintro rfl; rw [hnd] at hq; cases hq)]; exact g1 q hq
      · rw [hlk]
        rcases hc with ⟨y, want, h1, h2, h3, h4⟩ | ⟨h1, h2⟩
        · exact .inl ⟨y, want, h1, h2, h3, fun hl => by rw [hh _ (fun h' => preNm x hx h' hl)]; exact h4 hl⟩
        · refine .inr ⟨h1, ?_⟩
          rcases h2 with ⟨agg, nn, y, e1, e2, e3, e4⟩ | ⟨ro, e1, e2⟩ | ⟨hop, b, e1, e2, e3, e4⟩
          · refine .inl ⟨agg, nn, y, e1, e2, ?_, hp _ e4⟩
            rw [← e3]
            cases hγ : γ y with
            | ptr m sz i' o' =>
              rw [hγ] at e2
              simp only [notRes, Bool.or_eq_true, decide_eq_true_eq] at e2
              have : d'.h[m]? = d.h[m]? := hh m (fun hl e => by have := orderOk_mem F.ord o ho hl; omega)
              simp only [aload, this]
            | _ => rfl
          · exact .inr (.inl ⟨ro, e1, e2⟩)
          · exact .inr (.inr ⟨hop, b, e1, e2, e3, by rw [hh _ (fun h' => preNm x hx h' e2)]; exact e4⟩)
    · have : x = o := by simpa using hx
      subst this; exact hw
  · obtain ⟨hS, g, hs⟩ := j.heap
    refine ⟨hS, g, by rw [hlen]; exact hs.len, hs.lok, fun m hm => ?_, hs.free⟩
    rw [hs.other m hm, hh m (fun hl => hm o ho hl hi)]
  · rcases hlts with ⟨e, _⟩ | ⟨hl, _, sz, es, gr, e, _⟩
    · rw [e]; exact j.ltsN
    · rw [e]
      simp only [List.map_cons, List.nodup_cons, List.mem_map, not_exists, not_and]
      refine ⟨fun x hx e' => ?_, j.ltsN⟩
      obtain ⟨q, q1, q2, q3, q4, _⟩ := j.lts x hx
      exact preNm q q1 hl q2 (by rw [← q4, e'])
  · have old : ∀ x ∈ d.lts, LtOk r lo listed (pre ++ [o]) d'.h d'.R G x := by
      intro x hx
      obtain ⟨q, q1, q2, q3, q4, q5, q6, q7, q8⟩ := j.lts x hx
      refine ⟨q, by simp [q1], q2, q3, q4, q5, fun hq => ?_, q7, ?_⟩
      · rw [hh _ (fun hl e => preNm q q1 hl q2 (by rw [← q4, e]))]
        exact q6 (fun z hz => hq z (by simp [hz]))
      · rw [hR, q3, lk_cons_ne (fun e => preNe q q1 e.symm), ← q3]; exact q8
    rcases hlts with ⟨e, _⟩ | ⟨hl, hv, sz, es, gr, e, hb⟩
    · rw [e] at hx; exact old x hx
    · rw [e] at hx
      rcases List.mem_cons.1 hx with rfl | hx
      · exact ⟨o, by simp, hl, rfl, rfl, ⟨sz, es, gr, rfl⟩, fun _ => hb, (fun h => by rw [hi] at h; cases h), by rw [hR, lk_cons_eq]; exact hv⟩
      · exact old x hx
  · rcases List.mem_append.1 hx with hx | hx
    · rcases j.ltsC x hx hxl with ⟨y, hy, e⟩ | h
      · left
        rcases hlts with ⟨e', _⟩ | ⟨_, _, _, _, _, e', _⟩
        · exact ⟨y, by rw [e']; exact hy, e⟩
        · exact ⟨y, by rw [e']; simp [hy], e⟩
      · right; rw [hh _ (fun hl => preNm x hx hl hxl)]; exact h
    · have : x = o := by simpa using hx
      subst this
      rcases hlts with ⟨_, h⟩ | ⟨_, _, sz, es, gr, e, _⟩
      · exact .inr (h hxl)
      · exact .inl ⟨(x.i, lo + x.nm, .arr sz es gr), by rw [e]; simp, rfl⟩
  · have := (orderOk_split (pre := pre ++ [o]) (rest := rest) (by rw [← hitems]; exact F.ord) o (by simp) x hx).2.2.2
    rw [hh _ (fun hl e => this hl hxl (by omega))]
    exact j.later x (by simp [hx]) hxl

/-- the guard of the next operation lets it be done -/
def GoOk (d : DS) (o : DO) : Prop := o.guard = none ∨ ∃ x want, o.guard = some (x, want) ∧ d.get x = .bool want

theorem rev_any {γ : Opd → AV} {ro : ROp} {v : AV} (hne : ∀ agg nn x, ro ≠ .load agg nn x) (h : rev γ [] ro = some v) : ∀ h', rev γ h' ro = some v := by
  intro h'
  rw [← h]
  cases ro <;> first | rfl | exact absurd rfl (hne _ _ _)

/-- all that acts on no memory is looked at ahead -/
theorem J.advance (F : DF P n keep ops r) {K : DS → Prop} {listed : Array Bool} {G : Gh} {w : World} {a : Act} : ∀ (rest pre : List DO) (d : DS), J P n keep ops r L0 lo G0 w0 listed pre rest d G w a → vcD P r.dep lo r.k rest d K →
    ∃ pre' rest' d', J P n keep ops r L0 lo G0 w0 listed pre' rest' d' G w a ∧
      ((rest' = [] ∧ K d') ∨ ∃ o q, rest' = o :: q ∧ o.hv = true ∧ GoOk d' o ∧ vcDo P r.dep lo r.k o d' fun d'' => vcD P r.dep lo r.k q d'' K) := by
  intro rest
  induction rest with
  | nil => intro pre d j h; exact ⟨pre, [], d, j, .inl ⟨rfl, h⟩⟩
  | cons o rest ih =>
    intro pre d j h
    have ho : o ∈ r.items := by rw [j.items]; simp
    have hL : ∀ t, d.get (.loc t) = lk t L0 := fun t => by simp only [DS.get, j.L]
    obtain ⟨hhv, op, hop, hcop, hcg⟩ := F.item o ho
    have irr : ∀ {q v}, r.dep o.i q = true → lk q ((o.i, v) :: d.R) = lk q d.R := by
      intro q v hq
      have := dep_lt F.edges o.i q (by rw [← F.dep_of]; exact hq)
      exact lk_cons_ne (by omega)
    -- it is passed over
    have skip : ∀ x want, o.guard = some (x, want) → (d.get x = .bool (!want) ∨ ∃ cs, d.get x = .tup cs) → vcD P r.dep lo r.k rest (d.val o.i (.tup [])) K →
        ∃ pre' rest' d', J P n keep ops r L0 lo G0 w0 listed pre' rest' d' G w a ∧
        ((rest' = [] ∧ K d') ∨ ∃ o q, rest' = o :: q ∧ o.hv = true ∧ GoOk d' o ∧ vcDo P r.dep lo r.k o d' fun d'' => vcD P r.dep lo r.k q d'' K) := by
      intro x want hg hx hv
      refine ih (pre ++ [o]) (d.val o.i (.tup [])) (j.consume F (d' := d.val o.i (.tup [])) (v := .tup []) rfl rfl rfl (fun _ _ => rfl) (fun _ h => h) ?_ (.inl ⟨rfl, fun hl => j.later o (by simp) hl⟩)) hv
      exact ⟨d.get, fun q hq => (irr hq).symm, hL, fun _ => rfl, .inl ⟨x, want, hg, hx, lk_cons_eq, fun hl => j.later o (by simp) hl⟩⟩
    -- it is done
    have go : GoOk d o → vcDo P r.dep lo r.k o d (fun d'' => vcD P r.dep lo r.k rest d'' K) → 
        ∃ pre' rest' d', J P n keep ops r L0 lo G0 w0 listed pre' rest' d' G w a ∧
        ((rest' = [] ∧ K d') ∨ ∃ o q, rest' = o :: q ∧ o.hv = true ∧ GoOk d' o ∧ vcDo P r.dep lo r.k o d' fun d'' => vcD P r.dep lo r.k q d'' K) := by
      intro hgo hv
      cases hh : o.hv with
      | true => exact ⟨pre, o :: rest, d, j, .inr ⟨o, rest, rfl, hh, hgo, hv⟩⟩
      | false =>
        have gd : o.guard = none ∨ ∃ x want, o.guard = some (x, want) ∧ d.get x = .bool want := hgo
        simp only [vcDo, hh] at hv
        split at hv
        · rename_i agg nn x _ hop'
          split at hv
          · rename_i u hu
            obtain ⟨hres, hv⟩ := hv
            have hnl : o.op.lightQ = false := by rw [hop']; rfl
            refine ih (pre ++ [o]) _ (j.consume F (d' := { d.val o.i u with pend := (o.i, d.get x, agg, nn, u) :: d.pend }) (v := u) rfl rfl rfl (fun _ _ => rfl) (fun p hp => List.mem_cons_of_mem _ hp) ?_ (.inl ⟨rfl, fun hl => by rw [hnl] at hl; cases hl⟩)) hv
            refine ⟨d.get, fun q hq => (irr hq).symm, hL, fun _ => rfl, .inr ⟨gd, .inl ⟨agg, nn, x, hop', hres, ?_, ?_⟩⟩⟩
            · simp only [DS.val, lk_cons_eq]; exact hu
            · simp only [DS.val, lk_cons_eq]; simp
          · exact hv.elim
        · rename_i ro hne _ hop'
          split at hv
          · rename_i u hu
            have hnl : o.op.lightQ = false := by rw [hop']; rfl
            refine ih (pre ++ [o]) _ (j.consume F (d' := d.val o.i u) (v := u) rfl rfl rfl (fun _ _ => rfl) (fun p hp => hp) ?_ (.inl ⟨rfl, fun hl => by rw [hnl] at hl; cases hl⟩)) hv
            refine ⟨d.get, fun q hq => (irr hq).symm, hL, fun _ => rfl, .inr ⟨gd, .inr (.inl ⟨ro, hop', ?_⟩)⟩⟩
            simp only [DS.val, lk_cons_eq]
            exact rev_any (fun agg nn x e => hne agg nn x e) hu
          · exact hv.elim
        · rename_i ho' _ hop'
          split at hv
          · rename_i u b hu
            obtain ⟨sz, es, gr, rfl⟩ := lightOf_arr hu
            have hlq : o.op.lightQ = true := by rw [hop']; cases ho' <;> first | rfl | (simp [lightOf] at hu)
            have hlen : lo + o.nm < d.h.length := by
              obtain ⟨hS, g, hs⟩ := j.heap
              have := orderOk_mem F.ord o ho hlq
              have := hs.lok
              have := hs.len
              omega
            have hne : u ≠ .tup [] := by
              rintro rfl
              cases ho' <;> simp only [lightOf] at hu <;> (repeat' split at hu) <;> simp at hu
            refine ih (pre ++ [o]) _ (j.consume F (d' := { d.val o.i u with h := d.h.set (lo + o.nm) (some (.arr sz es gr)), lts := (o.i, lo + o.nm, .arr sz es gr) :: d.lts }) (v := u) rfl rfl (by simp) (fun m hm => List.getElem?_set_ne (fun e => hm hlq e.symm)) (fun p hp => hp) ?_ (.inr ⟨hlq, hne, sz, es, gr, rfl, List.getElem?_set_self hlen⟩)) hv
            refine ⟨d.get, fun q hq => (irr hq).symm, hL, fun _ => rfl, .inr ⟨gd, .inr (.inr ⟨ho', .arr sz es gr, hop', hlq, ?_, List.getElem?_set_self hlen⟩)⟩⟩
            simp only [DS.val, lk_cons_eq]; exact hu
          · exact hv.elim
        all_goals first | exact hv.elim | contradiction
    simp only [vcD] at h
    split at h
    · rename_i hg; exact go (.inl hg) h
    · rename_i x want hg
      split at h
      · rename_i b hb
        by_cases e : b = want
        · subst e; exact go (.inr ⟨x, b, hg, hb⟩) (h.1 rfl)
        · have e' : b = (!want) := by cases b <;> cases want <;> simp_all
          subst e'
          exact skip x want hg (.inl hb) (h.2 rfl)
      · rename_i cs hb; exact skip x want hg (.inr ⟨cs, hb⟩) h
      · exact h.elim

end
end Glb
