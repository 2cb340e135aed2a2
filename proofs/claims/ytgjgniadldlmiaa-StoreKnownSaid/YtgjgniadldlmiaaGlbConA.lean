/-
  A library of its own: its parts, one behind the other.
-/
import Derived.Test.YtgjgniadldlmiaaGlbQuoB
import Derived.Test.YtgjgniadldlmiaaGlbMorA
import Derived.Test.YtgjgniadldlmiaaGlbLibB
set_option linter.unusedSimpArgs false
set_option linter.unusedVariables false
/-
  The library's Clone, Delete and ContainsFunc on numbers.
-/
namespace Glb
open Go
set_option maxRecDepth 10000
set_option maxHeartbeats 4000000

/-- where nothing that was there has changed -/
theorem Gam.stay {G : Gh} {w w' : World} {h : AHeap} (g : Gam G w h) (hr : Rest w w') (same : ∀ b, b < w.heap.size → w'.heap[b]? = w.heap[b]?) : Gam G w' h ∧ Stp G w G w' := by
  have hsz := hr.2.2.1
  have sh : ∀ b, (w.shape? b).isSome → w'.shape? b = w.shape? b := fun b hb => by
    have hlt : b < w.heap.size := by
      apply Classical.byContradiction; intro hn
      simp only [World.shape?, Array.getElem?_eq_none (Nat.le_of_not_lt hn)] at hb
      exact absurd hb (by simp)
    simp only [World.shape?, same b hlt]
  have k : Keeps G w G w' := ⟨Nat.le_refl _, fun _ _ _ h => h, fun _ _ h => h, fun _ _ h => h, fun t b hp => same b (g.protLt hp), sh⟩
  exact ⟨{ len := g.len, live := g.live, tag := g.tag, inj := g.inj, liveTag := g.liveTag, liveS := g.liveS, tagInj := g.tagInj, tagS := g.tagS,
           tagLt := fun n b hb => Nat.lt_of_lt_of_le (g.tagLt n b hb) hsz, sLt := fun b hb => Nat.lt_of_lt_of_le (g.sLt b hb) hsz,
           arr := fun n sz es gr b hn hb => (g.arr n sz es gr b hn hb).keep k (same b (g.locLt (g.mkLive hn hb) hb)), nil := g.nil, nilLoc := g.nilLoc,
           map := fun n es b hn hb => (g.map n es b hn hb).keep k (same b (g.locLt (g.mkLiveM hn hb) hb)) },
    k, ⟨fun _ h => h, fun _ h => .inl h⟩, fun _ _ => rfl, fun _ _ => Iff.rfl, hsz, fun b hb _ => same b hb, fun b hb => .inl hb, hr⟩

/-- the library's contract for a list without items that is not nil -/
structure CloneKit (P : Program) (f : FuncId) : Prop where
  zero : ∀ (a : Addr) (c : Nat) (w : World), Calls P f #[.slice (some a) 0 c] w fun e w' => ∃ a' c', e = .returned (.slice (some a') 0 c') ∧ a'.spot = none ∧ Rest w w' ∧ ∀ k, k < w.heap.size → w'.heap[k]? = w.heap[k]?

def anileq (b : Bool) (x : AV) : Option AV := if sliceish x then (anil x).map fun c => .bool (c != b) else none
theorem rev_nileq (g : Opd → AV) (h : AHeap) (b : Bool) (x : Opd) : rev g h (.nileq b x) = anileq b (g x) := Eq.trans rfl rfl

theorem one_arg {G w} {a : AV} {vs : Array Value} (hv : VL G w [a] vs) : ∃ v, vs = #[v] ∧ V G w a v := by
  have := hv.1
  match vs with
  | ⟨[v]⟩ => exact ⟨v, rfl, hv.2 0 a v rfl rfl⟩
  | ⟨[]⟩ => simp at this
  | ⟨_ :: _ :: _⟩ => simp at this
theorem one_args {G w} {a : AV} {v : Value} (hv : V G w a v) : VL G w [a] #[v] := ⟨rfl, fun j c v' hc hv' => by
  cases j with
  | zero => simp at hc hv'; subst hc; subst hv'; exact hv
  | succ j => simp at hc⟩

end Glb

/-
  How members change: the program's functions and the document's.
-/
namespace Glb
open Go
set_option maxRecDepth 10000
set_option maxHeartbeats 8000000

end Glb

/-
  A node goes: the program's function and the document's.
-/
namespace Glb
open Go
set_option maxRecDepth 10000
set_option maxHeartbeats 8000000

end Glb
