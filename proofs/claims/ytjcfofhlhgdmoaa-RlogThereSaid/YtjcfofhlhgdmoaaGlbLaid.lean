/-
  A group's log behind entries that are laid: what stands there.
-/
import Derived.Test.YtjcfofhlhgdmoaaGlbLaw11c
set_option linter.unusedSimpArgs false
set_option linter.unusedVariables false
namespace Glb
open Go
set_option maxRecDepth 10000

theorem agree_all (l : Log) : ∀ (e : List Entry) (i : Int) (j : Nat) (hj : j < e.length), j < l.agree i e → l.has (i + j) = true ∧ l.term (i + j) = e[j].term := by
  intro e
  induction e with
  | nil => intro i j hj; simp at hj
  | cons x r ih =>
    intro i j hj h
    simp only [Log.agree] at h
    split at h
    next c =>
      cases j with
      | zero => simpa using c
      | succ j =>
        have := ih (i + 1) j (by simpa using hj) (by omega)
        rw [show i + ((j + 1 : Nat) : Int) = i + 1 + (j : Int) by omega]
        simpa using this
    · omega

theorem agree_full (l : Log) (e : List Entry) (i : Int) (h : ∀ (j : Nat) (hj : j < e.length), l.has (i + j) = true ∧ l.term (i + j) = e[j].term) : l.agree i e = e.length :=
  agree_is l e i e.length (Nat.le_refl _) (fun j hj _ => by simp [h j hj]) (fun hk => by omega)

theorem laid_no {l : Log} {p : Int} {e : List Entry} (h : l.has p = false) : l.laid p e = l ∧ l.laidAt p e = 0 := by simp [Log.laid, Log.laidAt, h]

theorem laid_same {l : Log} {p : Int} {e : List Entry} (h : l.agree (p + 1) e = e.length) : l.laid p e = l ∧ l.laidAt p e = 0 := by simp [Log.laid, Log.laidAt, h]

theorem laid_yes {l : Log} {p : Int} {e : List Entry} (hp : l.has p = true) (h : l.agree (p + 1) e < e.length) :
    l.laid p e = ⟨l.base, l.bterm, l.es.take (p + l.agree (p + 1) e - l.base).toNat ++ e.drop (l.agree (p + 1) e)⟩ ∧ l.laidAt p e = p + 1 + l.agree (p + 1) e := by simp [Log.laid, Log.laidAt, h, hp]

theorem laid_base (l : Log) (p : Int) (e : List Entry) : (l.laid p e).base = l.base ∧ (l.laid p e).bterm = l.bterm := by
  simp only [Log.laid]; split <;> exact ⟨rfl, rfl⟩

/-- what was there of it -/
theorem agree_in {l : Log} {p : Int} {e : List Entry} (hp : l.has p = true) : p + l.agree (p + 1) e ≤ l.last := by
  by_cases h0 : l.agree (p + 1) e = 0
  · have := has_iff.1 hp; omega
  · have hle := agree_le l e (p + 1)
    have := (agree_all l e (p + 1) (l.agree (p + 1) e - 1) (by omega) (by omega)).1
    have := has_iff.1 this
    omega

theorem laid_last {l : Log} {p : Int} {e : List Entry} (hp : l.has p = true) (h : l.agree (p + 1) e < e.length) : (l.laid p e).last = p + e.length := by
  have h1 := has_iff.1 hp
  have h2 := agree_in (e := e) hp
  rw [(laid_yes hp h).1]
  simp only [Log.last, List.length_append, List.length_take, List.length_drop] at *
  omega

theorem laid_there {l : Log} {p : Int} {e : List Entry} (hp : l.has p = true) (j : Nat) (hj : j < e.length) : (l.laid p e).has (p + 1 + j) = true ∧ (l.laid p e).term (p + 1 + j) = e[j].term := by
  have h1 := has_iff.1 hp
  have h2 := agree_in (e := e) hp
  have h3 := agree_le l e (p + 1)
  by_cases h : l.agree (p + 1) e < e.length
  · have hh : (l.laid p e).has (p + 1 + j) = true := has_iff.2 ⟨by rw [(laid_base l p e).1]; omega, by rw [laid_last hp h]; omega⟩
    refine ⟨hh, ?_⟩
    rw [term_eq, hh, if_pos rfl, (laid_yes hp h).1]
    simp only
    rw [if_neg (by omega)]
    by_cases c : j < l.agree (p + 1) e
    · have h4 := agree_all l e (p + 1) j hj c
      have h5 := h4.2
      rw [term_eq, h4.1, if_pos rfl, if_neg (by omega)] at h5
      rw [List.getElem?_append_left (by simp [Log.last] at *; omega), List.getElem?_take_of_lt (by omega)]
      exact h5
    · have hl : (l.es.take (p + l.agree (p + 1) e - l.base).toNat).length = (p + l.agree (p + 1) e - l.base).toNat := by simp [Log.last] at *; omega
      rw [List.getElem?_append_right (by rw [hl]; omega), hl, List.getElem?_drop]
      rw [show l.agree (p + 1) e + ((p + 1 + (j : Int) - l.base - 1).toNat - (p + l.agree (p + 1) e - l.base).toNat) = j by omega]
      rw [List.getElem?_eq_getElem hj]
      rfl
  · have h4 : l.agree (p + 1) e = e.length := by omega
    rw [(laid_same h4).1]
    exact agree_all l e (p + 1) j hj (by omega)

theorem laid_again {l : Log} {p : Int} {e : List Entry} (hp : l.has p = true) : (l.laid p e).laid p e = l.laid p e ∧ (l.laid p e).laidAt p e = 0 :=
  laid_same (agree_full _ e (p + 1) fun j hj => laid_there hp j hj)

theorem laid_take {l : Log} {p : Int} {e : List Entry} (hp : l.has p = true) : (l.laid p e).es.take (p - l.base).toNat = l.es.take (p - l.base).toNat ∧ (p - l.base).toNat ≤ (l.laid p e).es.length := by
  have h1 := has_iff.1 hp
  have h2 := agree_in (e := e) hp
  have h3 := agree_le l e (p + 1)
  by_cases h : l.agree (p + 1) e < e.length
  · rw [(laid_yes hp h).1]
    simp only [Log.last] at *
    constructor
    · rw [List.take_append_of_le_length (by simp; omega), List.take_take, Nat.min_eq_left (by omega)]
    · simp; omega
  · rw [(laid_same (by omega)).1]
    simp only [Log.last] at *
    exact ⟨trivial, by omega⟩

theorem laid_drop {l : Log} {p : Int} {e : List Entry} (hp : l.has p = true) (h : l.agree (p + 1) e < e.length) : (l.laid p e).es.drop (p + l.agree (p + 1) e - l.base).toNat = e.drop (l.agree (p + 1) e) := by
  have h1 := has_iff.1 hp
  have h2 := agree_in (e := e) hp
  rw [(laid_yes hp h).1]
  simp only [Log.last] at *
  have hl : (l.es.take (p + l.agree (p + 1) e - l.base).toNat).length = (p + l.agree (p + 1) e - l.base).toNat := by simp; omega
  rw [List.drop_append_of_le_length (by rw [hl]; exact Nat.le_refl _), List.drop_of_length_le (by rw [hl]; exact Nat.le_refl _), List.nil_append]

end Glb
