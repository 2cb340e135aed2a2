/-
  A list of one's own that is appended to, whatever else is one's own.
-/
import Derived.Test.YtoijpkpfgamlpaaGlbStep
set_option linter.unusedSimpArgs false
set_option linter.unusedVariables false
namespace Glb
open Go

theorem own_appF {sz bytes : Nat} {F : Nat → Prop} {ds es : List (List D)} {h0 h : AHeap} {av : AV} {ys : List (List AV)} (ho : Own (.sl sz ds) F h0 av) (hc : canApp h0 av)
    (hx : Ext nof h0 h) (hy : OwnLL es (fun m => h0.length ≤ m) h ys) (hF : ∀ m, h0.length ≤ m → F m) (hb : (ds.length + es.length) * bytes ≤ 2 ^ 46) :
    ∃ av' h', aappendY h sz bytes av ys = some (av', h') ∧ Own (.sl sz (ds ++ es)) F h' av' ∧ canApp h' av' ∧ Ext F h h' := by
  have hyl := OwnLL_length hy
  have fresh : ∀ (hh : AHeap) (dd : List (List D)) (es' : List (List AV)), F hh.length → OwnLL dd F hh es' →
      Own (.sl sz dd) F (append1 hh sz es').2 (append1 hh sz es').1 ∧ canApp (append1 hh sz es').2 (append1 hh sz es').1 := by
    intro hh dd es' hl hd
    have hlen := OwnLL_length hd
    refine ⟨?_, ⟨es', true, by simp [append1], (fun _ => rfl), (fun c hc => by cases hc)⟩⟩
    simp only [Own, append1]
    refine .inr (.inr ⟨hh.length, 0, none, es', true, by rw [hlen], hl, by simp, by omega, (fun c hc => by cases hc), ?_⟩)
    have : (es'.drop 0).take dd.length = es' := by rw [List.drop_zero, List.take_of_length_le (by omega)]
    rw [this]
    refine OwnLL.mono dd (fun m hm => ⟨hm.1, by have := hm.2; omega⟩) ?_ _ (OwnLL.lt dd _ hd)
    intro m hm x hx
    rw [List.getElem?_append_left hm.2]; exact hx
  simp only [Own] at ho
  rcases ho with ⟨rfl, rfl⟩ | ⟨t, c, rfl, rfl⟩ | ⟨n, off, cap, row, g, rfl, hn, hrow, hle, hcl, hd⟩
  · -- nothing yet
    have hy' : OwnLL es F h ys := OwnLL.mono es (fun m hm => hF _ hm) (fun _ _ _ x => x) _ hy
    obtain ⟨a, b⟩ := fresh h es ys (hF _ hx.1) hy'
    refine ⟨_, _, ?_, by simpa using a, b, ?_⟩
    · simp only [aappendY]; rw [if_pos (by rw [hyl]; simpa using hb)]
    · exact Ext.app _ _ _
  · have hc1 : c = true := hc
    subst hc1
    have hy' : OwnLL es F h ys := OwnLL.mono es (fun m hm => hF _ hm) (fun _ _ _ x => x) _ hy
    simp only [aappendY]
    rw [if_pos ⟨trivial, by rw [hyl]; simpa using hb⟩]
    by_cases hy0 : ys.length = 0
    · rw [if_pos hy0]
      have hes : es = [] := List.eq_nil_of_length_eq_zero (by omega)
      subst hes
      refine ⟨_, _, rfl, ?_, rfl, Ext.refl _ _⟩
      simp only [Own]
      exact .inr (.inl ⟨t, true, rfl, rfl⟩)
    · rw [if_neg hy0, if_pos trivial]
      obtain ⟨a, b⟩ := fresh h es ys (hF _ hx.1) hy'
      exact ⟨_, _, rfl, by simpa [append1] using a, b, Ext.app _ _ _⟩
  · obtain ⟨row', g', hrow', hcn, hcs⟩ := hc
    rw [hrow] at hrow'
    obtain ⟨rfl, rfl⟩ : row = row' ∧ g = g' := by simpa using hrow'
    have hnlt := (List.getElem?_eq_some_iff.1 hrow).1
    have hrow1 : h[n]? = some (some (.arr sz row g)) := hx.get hrow
    have hnlt1 := (List.getElem?_eq_some_iff.1 hrow1).1
    have hd1 : OwnLL ds (fun m => F m ∧ m ≠ n) h ((row.drop off).take ds.length) := OwnLL.mono ds (fun m hm => hm) (hx.keep _) _ hd
    have hy1 : OwnLL es (fun m => F m ∧ m ≠ n) h ys := OwnLL.mono es (fun m hm => ⟨hF _ hm, by omega⟩) (fun _ _ _ x => x) _ hy
    have both : OwnLL (ds ++ es) F h ((row.drop off).take ds.length ++ ys) := OwnLL.mono _ (fun m hm => hm.1) (fun _ _ _ x => x) _ (OwnLL_app hd1 hy1)
    simp only [aappendY, hrow1]
    rw [if_pos ⟨trivial, trivial, hle, by rw [hyl]; exact hb⟩]
    cases cap with
    | none =>
      obtain rfl := hcn rfl
      simp only [if_true]
      have both' : OwnLL (ds ++ es) F (h.set n none) (row.take ds.length ++ ys) := by
        have := OwnLL_app hd1 hy1
        rw [List.drop_zero] at this
        exact OwnLL.mono _ (fun m hm => hm.1) (fun m hm x hx => by rw [List.getElem?_set_ne (fun e => hm.2 e.symm)]; exact hx) _ this
      obtain ⟨a, b⟩ := fresh (h.set n none) (ds ++ es) (row.take ds.length ++ ys) (by rw [List.length_set]; exact hF _ hx.1) both'
      exact ⟨_, _, rfl, a, b, (Ext.set none (fun _ => hn)).trans (Ext.app F _ _) (fun _ _ x => x) (fun _ _ x => x)⟩
    | some c =>
      have hc1 := hcl c rfl
      have hc2 := hcs c rfl
      cases c with
      | zero =>
        have h0 : ds.length = 0 := by omega
        have hds : ds = [] := List.eq_nil_of_length_eq_zero h0
        subst hds
        simp only [List.length_nil, if_true]
        by_cases hy0 : ys.length = 0
        · rw [if_pos hy0]
          have hes : es = [] := List.eq_nil_of_length_eq_zero (by omega)
          subst hes
          refine ⟨_, _, rfl, ?_, ⟨row, g, hrow1, (fun e => by cases e), (fun c hc => by cases hc; omega)⟩, Ext.refl _ _⟩
          simp only [Own]
          exact .inr (.inr ⟨n, off, some 0, row, g, rfl, hn, hrow1, by simpa using hle, (fun c hc => by cases hc; simp), by simp [OwnLL]⟩)
        · rw [if_neg hy0]
          have hy2 : OwnLL es F h ys := OwnLL.mono es (fun m hm => hm.1) (fun _ _ _ x => x) _ hy1
          obtain ⟨a, b⟩ := fresh h es ys (hF _ hx.1) hy2
          exact ⟨_, _, rfl, by simpa [append1] using a, b, Ext.app _ _ _⟩
      | succ c =>
        simp only
        by_cases hcap : c + 1 < ds.length + ys.length
        · rw [if_pos hcap]
          obtain ⟨a, b⟩ := fresh h (ds ++ es) _ (hF _ hx.1) both
          exact ⟨_, _, rfl, a, b, Ext.app _ _ _⟩
        · rw [if_neg hcap, if_pos (by omega)]
          have hsl : (splice row (off + ds.length) ys).length = row.length := by simp [splice]; omega
          refine ⟨_, _, rfl, ?_, ⟨_, g, by rw [List.getElem?_set_self hnlt1], (fun e => by cases e), (fun c' hc' => by cases hc'; rw [hsl]; exact hc2)⟩, Ext.set _ (fun _ => hn)⟩
          simp only [Own]
          refine .inr (.inr ⟨n, off, some (c + 1), splice row (off + ds.length) ys, g, by rw [List.length_append, hyl], hn, by rw [List.getElem?_set_self hnlt1], by rw [hsl, List.length_append]; omega,
            (fun c' hc' => by cases hc'; rw [List.length_append]; omega), ?_⟩)
          have e : ((splice row (off + ds.length) ys).drop off).take (ds ++ es).length = (row.drop off).take ds.length ++ ys := by
            apply List.ext_getElem?
            intro i
            simp only [List.getElem?_take, List.getElem?_drop, List.length_append, splice, List.getElem?_append, List.length_take, List.length_append, List.length_drop]
            rw [show min (off + ds.length) row.length = off + ds.length by omega, show min ds.length (row.length - off) = ds.length by omega]
            by_cases h1 : i < ds.length
            · rw [if_pos (by omega), if_pos (by omega), if_pos (by omega), if_pos (by omega), if_pos h1]
              simp [h1]
            · by_cases h2 : i < ds.length + es.length
              · rw [if_pos h2, if_pos (by omega), if_neg (by omega), if_neg h1]
                congr 1; omega
              · rw [if_neg h2, if_neg h1, List.getElem?_eq_none (by omega)]
          rw [e]
          refine OwnLL.mono _ (fun m hm => hm) ?_ _ (OwnLL_app hd1 hy1)
          intro m hm x hx
          rw [List.getElem?_set_ne (fun e => hm.2 e.symm)]; exact hx

end Glb
