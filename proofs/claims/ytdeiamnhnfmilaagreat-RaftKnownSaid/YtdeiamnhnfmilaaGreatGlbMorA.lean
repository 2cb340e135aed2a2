/-
  A library of its own: its parts, one behind the other.
-/
import Derived.Test.YtdeiamnhnfmilaaGreatGlbLibE
set_option linter.unusedSimpArgs false
set_option linter.unusedVariables false
namespace Glb
open Go
theorem rev_bclo (g : Opd -> AV) (h : AHeap) (f : FuncId) (fs cs : List Opd) : rev g h (.x (.bclo f fs cs)) = some (.clo f (fs.map g) (cs.map g)) := Eq.trans rfl rfl
theorem hideL_cons (i n : Nat) (b : ABlk) (r : List (Nat × Nat × ABlk)) (h : AHeap) : hideL ((i, n, b) :: r) h = hideL r (h.set n none) := Eq.trans rfl rfl
theorem showL_cons (i n : Nat) (b : ABlk) (r : List (Nat × Nat × ABlk)) (h : AHeap) : showL ((i, n, b) :: r) h = (showL r h).set n (some b) := Eq.trans rfl rfl
theorem decide_False' : decide False = false := rfl
theorem notRes1 (n k sz i o : Nat) : notRes (n + 1) k (.ptr n sz i o) = true := by simp [notRes]
theorem notRes20 (n k sz i o : Nat) : notRes (n + 1 + 1) k (.ptr n sz i o) = true := by simp [notRes]; omega
theorem notRes30 (n k sz i o : Nat) : notRes (n + 1 + 1 + 1) k (.ptr n sz i o) = true := by simp [notRes]; omega
theorem notRes31 (n k sz i o : Nat) : notRes (n + 1 + 1 + 1) k (.ptr (n + 1) sz i o) = true := by simp [notRes]
attribute [go_sem] notRes1 notRes20 notRes30 notRes31 true_and rev_bclo hideL_cons showL_cons decide_False'
theorem closedA {P : Program} {f : FuncId} (hc : ACalls P f [] [] fun r _ => r = .bool true) (w : World) :
  Calls P f #[] w fun e w' => e = .returned (.bool true) /\ GrownB w w' := by
 refine (hc Gh.zero w #[] (Gam.zero w) ⟨rfl, fun j c v h => by simp at h⟩).mono ?_
 rintro e w' ⟨v, r, h'', G', rfl, rfl, _, hV, hs⟩
 cases hV
 exact ⟨rfl, hs.grown (fun b hb => by rcases hb with ⟨n, hn, _⟩ | ⟨n, hn⟩ <;> exact hn.elim)⟩
end Glb
