/-
  A library of its own: its parts, one behind the other.
-/
import Derived.Test.YtdlklnoffbfjmaaGlbChkA
import Derived.Test.YtdlklnoffbfjmaaGlbSecD
set_option linter.unusedSimpArgs false
set_option linter.unusedVariables false
/-
  Layer 8: what a Save leaves, where it is done and where the power fails.
-/
namespace Glb
open Go
set_option maxRecDepth 10000
set_option maxHeartbeats 8000000

/- sectors stay bytes -/
theorem Dk.spend_bts {d : Dk} (h : d.bts) : d.spend.2.bts := by unfold Dk.bts; rw [Dk.spend_lasts, Dk.spend_cache]; exact h
theorem bts_put {l : List Sec} (h : ∀ s ∈ l, bytesOk s.b) {x : Sec} (hx : bytesOk x.b) : ∀ s ∈ sput l x, bytesOk s.b := fun s hs => by
  rcases mem_sput hs with rfl | hs
  · exact hx
  · exact h s hs
theorem bts_fold {c : List Sec} (hc : ∀ s ∈ c, bytesOk s.b) : ∀ {l : List Sec}, (∀ s ∈ l, bytesOk s.b) → ∀ s ∈ c.foldl sput l, bytesOk s.b := by
  induction c with
  | nil => intro l h; exact h
  | cons y r ih => intro l h; exact ih (fun s hs => hc s (List.mem_cons_of_mem _ hs)) (bts_put h (hc y (by simp)))
theorem Dk.write_bts {d : Dk} (h : d.bts) (i : Int) {b : List Int} (hb : bytesOk b) : (d.write i b).1.bts := by
  unfold Dk.write
  split
  · exact h
  · split
    · exact h
    · split
      · exact h
      · split
        · exact ⟨by rw [Dk.spend_lasts]; exact h.1, bts_put h.2 hb⟩
        · exact Dk.spend_bts h
theorem Dk.flush_bts {d : Dk} (h : d.bts) : d.flush.1.bts := by
  unfold Dk.flush
  split
  · exact h
  · split
    · exact ⟨bts_fold h.2 h.1, by simp⟩
    · exact Dk.spend_bts h
theorem Dk.new_bts (n : Int) : (Dk.new n).bts := ⟨by simp [Dk.new], by simp [Dk.new]⟩
/- one operation -/
theorem Dk.spend_cases (d : Dk) : (d.spend.1 = true ∧ d.spend.2.off = d.off ∧ (d.left < 0 → d.spend.2.left < 0)) ∨ (d.spend.1 = false ∧ d.spend.2.off = true ∧ 0 ≤ d.left) := by
  unfold Dk.spend
  split
  · rename_i c; exact .inr ⟨rfl, rfl, by omega⟩
  · split
    · rename_i c; exact .inl ⟨rfl, rfl, fun x => by simp only; omega⟩
    · exact .inl ⟨rfl, rfl, fun x => x⟩
theorem Dk.write_cases {d : Dk} (ho : d.off = false) {i : Int} (hi : 0 ≤ i ∧ i < d.n) {b : List Int} (hb : b.length ≤ 64) :
    (∃ e, d.write i b = (e, 0) ∧ e.n = d.n ∧ e.off = false ∧ e.lasts = d.lasts ∧ e.cache = sput d.cache ⟨i, b, false⟩ ∧ (d.left < 0 → e.left < 0)) ∨
    (∃ e, d.write i b = (e, 10) ∧ e.n = d.n ∧ e.off = true ∧ e.lasts = d.lasts ∧ e.cache = d.cache ∧ 0 ≤ d.left) := by
  unfold Dk.write
  rw [if_neg (by rw [ho]; simp), if_neg (by omega), if_neg (by omega)]
  rcases Dk.spend_cases d with ⟨h1, h2, h3⟩ | ⟨h1, h2, h3⟩
  · rw [h1, if_pos rfl]
    exact .inl ⟨_, rfl, Dk.spend_n d, by rw [← ho]; exact h2, Dk.spend_lasts d, rfl, h3⟩
  · rw [h1, if_neg (by simp)]
    exact .inr ⟨_, rfl, Dk.spend_n d, h2, Dk.spend_lasts d, Dk.spend_cache d, h3⟩
theorem Dk.flush_cases {d : Dk} (ho : d.off = false) :
    (∃ e, d.flush = (e, 0) ∧ e.n = d.n ∧ e.off = false ∧ e.lasts = d.cache.foldl sput d.lasts ∧ e.cache = [] ∧ (d.left < 0 → e.left < 0)) ∨
    (∃ e, d.flush = (e, 10) ∧ e.n = d.n ∧ e.off = true ∧ e.lasts = d.lasts ∧ e.cache = d.cache ∧ 0 ≤ d.left) := by
  unfold Dk.flush
  rw [if_neg (by rw [ho]; simp)]
  rcases Dk.spend_cases d with ⟨h1, h2, h3⟩ | ⟨h1, h2, h3⟩
  · rw [h1, if_pos rfl]
    exact .inl ⟨_, rfl, Dk.spend_n d, by rw [← ho]; exact h2, rfl, rfl, h3⟩
  · rw [h1, if_neg (by simp)]
    exact .inr ⟨_, rfl, Dk.spend_n d, h2, Dk.spend_lasts d, Dk.spend_cache d, h3⟩

/-- what lasts, by numbers -/
abbrev Dk.last (d : Dk) (j : Int) : Option Sec := sfind d.lasts j
theorem crash_last (d : Dk) (how : List Int) (h : rises d.lasts) {j : Int} (hj : sfind d.cache j = none) : (d.crash how).last j = d.last j :=
  crashed_not h (sfind_none.1 hj)

end Glb

/-
  Layer 8: slots behind a Save, and what is loaded.
-/
namespace Glb
open Go
set_option maxRecDepth 10000
set_option maxHeartbeats 8000000

theorem Dk.read_last {d : Dk} (hc : d.cache = []) {j : Int} (hj : 0 ≤ j ∧ j < d.n) : d.read j = readL (d.last j) := by
  unfold Dk.read
  rw [if_neg (by omega), hc]
  rfl
end Glb
