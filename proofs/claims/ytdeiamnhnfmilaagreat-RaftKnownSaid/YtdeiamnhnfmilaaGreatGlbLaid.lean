/-
  A group's log behind entries that are laid: what stands there.
-/
import Derived.Test.YtdeiamnhnfmilaaGreatGlbLogA
set_option linter.unusedSimpArgs false
set_option linter.unusedVariables false
namespace Glb
open Go
set_option maxRecDepth 10000
theorem has_iff {l : Log} {i : Int} : l.has i = true ↔ l.base <= i /\ i <= l.last := by simp [Log.has]
theorem agree_all (l : Log) : ∀ (e : List Entry) (i : Int) (j : Nat) (hj : j < e.length), j < l.agree i e -> l.has (i + j) = true /\ l.term (i + j) = e[j].term := by
 intro e
 induction e with
 | nil => intro i j hj; simp at hj
 | cons x r ih =>
  intro i j hj h
  simp only [Log.agree] at h
  split at h
  next c =>
   cases j with
   | zero => simpa using c
   | succ j =>
    have := ih (i + 1) j (by simpa using hj) (by omega)
    rw [show i + ((j + 1 : Nat) : Int) = i + 1 + (j : Int) by omega]
    simpa using this
  ·omega
theorem laid_yes {l : Log} {p : Int} {e : List Entry} (hp : l.has p = true) (h : l.agree (p + 1) e < e.length) :
  l.laid p e = ⟨l.base, l.bterm, l.es.take (p + l.agree (p + 1) e - l.base).toNat ++ e.drop (l.agree (p + 1) e)⟩ /\ l.laidAt p e = p + 1 + l.agree (p + 1) e := by simp [Log.laid, Log.laidAt, h, hp]
theorem laid_base (l : Log) (p : Int) (e : List Entry) : (l.laid p e).base = l.base /\ (l.laid p e).bterm = l.bterm := by
 simp only [Log.laid]; split <;> exact ⟨rfl, rfl⟩
theorem agree_in {l : Log} {p : Int} {e : List Entry} (hp : l.has p = true) : p + l.agree (p + 1) e <= l.last := by
 by_cases h0 : l.agree (p + 1) e = 0
 ·have := has_iff.1 hp; omega
 ·have hle := agree_le l e (p + 1)
  have := (agree_all l e (p + 1) (l.agree (p + 1) e - 1) (by omega) (by omega)).1
  have := has_iff.1 this
  omega
theorem laid_last {l : Log} {p : Int} {e : List Entry} (hp : l.has p = true) (h : l.agree (p + 1) e < e.length) : (l.laid p e).last = p + e.length := by
 have h1 := has_iff.1 hp
 have h2 := agree_in (e := e) hp
 rw [(laid_yes hp h).1]
 simp only [Log.last, List.length_append, List.length_take, List.length_drop] at *
 omega
end Glb
