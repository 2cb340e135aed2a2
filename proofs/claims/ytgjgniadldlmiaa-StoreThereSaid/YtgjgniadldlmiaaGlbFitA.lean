/-
  A library of its own: its parts, one behind the other.
-/
import Derived.Test.YtgjgniadldlmiaaGlbKitA
import Derived.Test.YtgjgniadldlmiaaGlbLibD
import Derived.Test.YtgjgniadldlmiaaGlbKitB
set_option linter.unusedSimpArgs false
set_option linter.unusedVariables false
/-
  Arguments that read as logs, entries and numbers.
-/
namespace Glb
open Go

theorem FitsL_cons {d : List D} {t : Ty} {ts : List Ty} (h : FitsL d (t :: ts)) : ∃ x r, d = x :: r ∧ Fits x t ∧ FitsL r ts := by
  cases d with
  | nil => simp [FitsL] at h
  | cons x r =>
    simp only [FitsL] at h
    obtain ⟨_, _, e, h1, h2⟩ := h
    cases e
    exact ⟨x, r, rfl, h1, h2⟩

theorem FitsL_nil {d : List D} (h : FitsL d []) : d = [] := by
  cases d with
  | nil => rfl
  | cons x r => simp [FitsL] at h

theorem Fits_int {x : D} {k : IntKind} (h : Fits x (.int k)) : ∃ n, x = .int k n ∧ (Lit.int k n).wf = true := by
  cases x with
  | int k' n => simp only [Fits] at h; obtain ⟨e, h⟩ := h; cases e; exact ⟨n, rfl, h⟩
  | bool b => simp [Fits] at h
  | str s => simp [Fits] at h
  | sl sz es => simp [Fits] at h

theorem Fits_sl {x : D} {sz : Nat} {ts : List Ty} (h : Fits x (.sl sz ts)) : ∃ es, x = .sl sz es ∧ FitsLL es ts := by
  cases x with
  | int k' n => simp [Fits] at h
  | bool b => simp [Fits] at h
  | str s => simp [Fits] at h
  | sl sz' es =>
    simp only [Fits] at h
    obtain ⟨_, e, h⟩ := h
    cases e
    exact ⟨es, rfl, h⟩

theorem FitsAll_cons {dss : List (List D)} {s : Bool × List Ty} {r : List (Bool × List Ty)} (h : FitsAll dss (s :: r)) : ∃ d q, dss = d :: q ∧ FitsL d s.2 ∧ FitsAll q r := by
  cases dss with
  | nil => simp [FitsAll] at h
  | cons d q =>
    simp only [FitsAll] at h
    obtain ⟨_, _, e, h1, h2⟩ := h
    cases e
    exact ⟨d, q, rfl, h1, h2⟩

theorem FitsAll_nil {dss : List (List D)} (h : FitsAll dss []) : dss = [] := by
  cases dss with
  | nil => rfl
  | cons d q => simp [FitsAll] at h

end Glb

/-
  Arguments that are members.
-/
namespace Glb
open Go

end Glb
