/-
  More steps: a field of a struct.
-/
import Derived.Test.YtodbhmdfmdfiaaaGreatGlbMorA
set_option linter.unusedSimpArgs false
set_option linter.unusedVariables false
namespace Glb
open Go

def afld (o n : Nat) (agg : Bool) : AV → Option AV
  | .agg cs => if agg then (if o + n ≤ cs.length then some (.agg ((cs.drop o).take n)) else none) else cs[o]?
  | _ => none
theorem rev_fld (g : Opd → AV) (h : AHeap) (o n : Nat) (agg : Bool) (x : Opd) : rev g h (.x (.fld o n agg x)) = afld o n agg (g x) := by
  simp only [rev, xev, afld]
  cases g x <;> rfl
theorem afld_one (o n : Nat) (cs : List AV) : afld o n false (.agg cs) = cs[o]? := Eq.trans rfl rfl
theorem afld_agg (o n : Nat) (cs : List AV) : afld o n true (.agg cs) = if o + n ≤ cs.length then some (.agg ((cs.drop o).take n)) else none := Eq.trans rfl rfl
attribute [go_sem] rev_fld afld_one afld_agg

end Glb
