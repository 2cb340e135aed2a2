/-
  A library of its own, for whatever program: a closed call that was run answers the same in whatever state, and leaves it as it is.
-/
import Derived.Test.YtoijpkpfgamlpaaGlbTrunc
import Derived.Test.YtoijpkpfgamlpaaGlbTop
set_option linter.unusedSimpArgs false
set_option linter.unusedVariables false
namespace Glb
open Go

theorem ACalls.closed {P : Program} {f : FuncId} {b : Bool} (hc : ACalls P f [] [] fun r _ => r = .bool b) (h : AHeap) : ACalls P f [] h fun r h' => r = .bool b ∧ h' = h := by
  intro G w vs g hv
  have hvs : vs = #[] := by have := hv.1; simp at this; exact Array.eq_empty_of_size_eq_zero this.symm
  subst hvs
  refine (hc Gh.zero w #[] (Gam.zero w) (VL.nil _ _)).mono ?_
  rintro e w' ⟨v, r, h'', G', rfl, rfl, _, hV, s⟩
  cases hV
  have hno : ∀ b, ¬ Gh.zero.owned b := fun b hb => by rcases hb with ⟨n, hn, _⟩ | ⟨n, hn⟩ <;> exact hn.elim
  have same : ∀ b, b < w.heap.size → w'.heap[b]? = w.heap[b]? := fun b hb => s.frame b hb (hno b)
  have shp : ∀ b, (w.shape? b).isSome → w'.shape? b = w.shape? b := s.keep.shape
  have k : Keeps G w G w' := ⟨Nat.le_refl _, fun _ _ _ h => h, fun _ _ h => h, fun _ _ h => h, fun t b hp => same b (g.protLt hp), shp⟩
  have g' : Gam G w' h :=
    { len := g.len, live := g.live, tag := g.tag, inj := g.inj, liveTag := g.liveTag, liveS := g.liveS, tagInj := g.tagInj, tagS := g.tagS,
      tagLt := fun n b hb => Nat.lt_of_lt_of_le (g.tagLt n b hb) s.size, sLt := fun b hb => Nat.lt_of_lt_of_le (g.sLt b hb) s.size,
      arr := fun n sz es gr b hn hb => (g.arr n sz es gr b hn hb).keep k (same b (g.locLt (g.mkLive hn hb) hb)), nil := g.nil, nilLoc := g.nilLoc }
  exact ⟨_, _, h, G, rfl, ⟨rfl, rfl⟩, g', .bool b, k, ⟨fun _ h => h, fun _ h => .inl h⟩, fun _ _ => rfl, fun _ _ => Iff.rfl, s.size, fun b hb _ => same b hb, fun b hb => .inl hb, s.rest⟩

/-- a closed function that answers yes -/
def YesOk (P : Program) (f : FuncId) : Prop := isFn P f = true ∧ ∀ h, ACalls P f [] h fun r h' => r = .bool true ∧ h' = h

theorem yes_of_run {P : Program} {T : Tab} (hT : TabOk P T) {fuel d : Nat} {f : FuncId} (h : (evF T fuel d f [] []).map (·.1) = some (.bool true)) : YesOk P f := by
  cases hv : evF T fuel d f [] [] with
  | none => rw [hv] at h; cases h
  | some x =>
    obtain ⟨v, h'⟩ := x
    rw [hv] at h
    simp only [Option.map_some, Option.some.injEq] at h
    subst h
    obtain ⟨hi, hc⟩ := evF_sound hT fuel d f [] [] _ _ hv
    exact ⟨hi, ACalls.closed (hc.mono fun r h'' hk => hk.1)⟩

end Glb
