/-
  A library of its own, for whatever program: a closed call that the runner has run returns the same in the program, and adds only new blocks.
-/
import Derived.Test.YtoijpkpfgamlpaaGlbEv
set_option linter.unusedSimpArgs false
set_option linter.unusedVariables false
namespace Glb
open Go Go.RowKit

/-- nothing is owned, nothing is named -/
def Gh.zero : Gh := { N := 0, loc := fun _ => none, nil := fun _ => False, live := fun _ => False, tag := fun _ _ => False, S := fun _ => False }

theorem Gam.zero (w : World) : Gam Gh.zero w [] where
  len := rfl
  live n := ⟨fun h => h.elim, fun ⟨⟨_, _, _, h⟩, _⟩ => by simp at h⟩
  tag _ _ h := h.elim
  inj _ _ _ h := h.elim
  liveTag _ _ _ h := h.elim
  liveS _ _ h := h.elim
  tagInj _ _ _ h := h.elim
  tagS _ _ h := h.elim
  tagLt _ _ h := h.elim
  sLt _ h := h.elim
  arr _ _ _ _ _ h := by simp at h
  nil _ _ _ _ h := by simp at h
  nilLoc _ h := h.elim

theorem Stp.grown {G w G' w'} (s : Stp G w G' w') (hno : ∀ b, ¬ G.owned b) : Grown w w' := by
  refine ⟨⟨s.rest.1, s.rest.2.1, fun i hi => ?_⟩, s.rest.2.2, s.size⟩
  rw [s.frame i hi (hno i)]
  cases w.heap[i]? with
  | none => rfl
  | some o => cases o <;> simp

theorem TabOk.nil (P : Program) : TabOk P [] := fun f fn h => by simp [Tab.find] at h

theorem TabOk.cons {P : Program} {T : Tab} {f : FuncId} {fn : AFn} (h : cFn P fn.keep f = some fn) (h' : isFn P f = true) (t : TabOk P T) : TabOk P ((f, fn) :: T) := by
  intro g x hx
  simp only [Tab.find] at hx
  split at hx
  · rename_i e; subst e; cases hx; exact ⟨h, h'⟩
  · exact t g x hx

theorem closed {P : Program} {T : Tab} {fuel d : Nat} {f : FuncId} (hT : TabOk P T) (h : (evF T fuel d f [] []).map (·.1) = some (.bool true)) (w : World) :
    Calls P f #[] w fun e w' => e = .returned (.bool true) ∧ Grown w w' := by
  cases hv : evF T fuel d f [] [] with
  | none => rw [hv] at h; cases h
  | some x =>
    obtain ⟨v, h'⟩ := x
    rw [hv] at h
    simp only [Option.map_some, Option.some.injEq] at h
    subst h
    obtain ⟨_, hc⟩ := evF_sound hT fuel d f [] [] _ _ hv
    refine (hc Gh.zero w #[] (Gam.zero w) ⟨rfl, fun j c v h => by simp at h⟩).mono ?_
    rintro e w' ⟨v, r, h'', G', rfl, ⟨rfl, _⟩, _, hV, hs⟩
    cases hV
    exact ⟨rfl, hs.grown (fun b hb => by rcases hb with ⟨n, hn, _⟩ | ⟨n, hn⟩ <;> exact hn.elim)⟩

end Glb
