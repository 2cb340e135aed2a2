/-
  A library of its own: its parts, one behind the other.
-/
import Derived.Test.YtgjgniadldlmiaaGlbSecC
set_option linter.unusedSimpArgs false
set_option linter.unusedVariables false
/-
  Layer 4: Row, SameRows, shown and in.
-/
namespace Glb
open Go
set_option maxRecDepth 10000
set_option maxHeartbeats 8000000

def dRows (l : List (List Int)) : D := .sl 1 (l.map fun b => [dBytes b])
def arows (l : List (List Int)) : AV := (dRows l).av
theorem rd_arows (F : Nat → Prop) (h : AHeap) (l : List (List Int)) : Rd F h (dRows l) (arows l) := rd_av _ _ _
theorem len_arows (l : List (List Int)) : alen (arows l) = some (.int .i64 l.length) := by simpa using (rd_arows nof [] l).len
end Glb

/-
  Layer 4: shown, in, and the laws of reading, in plain lists.
-/
namespace Glb
open Go
set_option maxRecDepth 10000
set_option maxHeartbeats 8000000

/-! the plain laws -/

theorem sfind_fold {c l : List Sec} (hc : rises c) (hl : rises l) (k : Int) : sfind (c.foldl sput l) k = match sfind c k with | some s => some s | none => sfind l k := by
  induction c generalizing l with
  | nil => rfl
  | cons y r ih =>
    unfold rises at hc ih
    rw [List.pairwise_cons] at hc
    rw [List.foldl_cons, ih hc.2 (rises_sput hl y)]
    simp only [sfind]
    by_cases e : y.no = k
    · rw [if_pos e]
      have hn : sfind r k = none := sfind_none.2 fun s hs => by have := hc.1 s hs; omega
      rw [hn, sfind_sput hl]
      simp only
      rw [if_pos e.symm]
    · rw [if_neg e]
      cases sfind r k with
      | some s => rfl
      | none => simp only; rw [sfind_sput hl, if_neg (fun x => e x.symm)]

theorem Dk.flush_n (d : Dk) : d.flush.1.n = d.n := by unfold Dk.flush; split; rfl; split; exact Dk.spend_n d; exact Dk.spend_n d
end Glb

/-
  Layer 4: the laws SectorFlushed and SectorFails.
-/
namespace Glb
open Go
set_option maxRecDepth 10000
set_option maxHeartbeats 8000000

end Glb

/-
  Layer 4: the law SectorFails.
-/
namespace Glb
open Go
set_option maxRecDepth 10000
set_option maxHeartbeats 8000000

end Glb

/-
  Layer 4: the law SectorCrashed.
-/
namespace Glb
open Go
set_option maxRecDepth 10000
set_option maxHeartbeats 16000000

def cwant (x : Option Int) (c : Sec) (o : Option Sec) : Option Sec :=
  match x with
  | none => o
  | some v => if v = 0 then o else if v = 1 then some c else some ⟨c.no, [], true⟩
theorem sfind_cstep {l : List Sec} (hl : rises l) (x : Option Int) (c : Sec) (k : Int) : sfind (cstep x c l) k = if k = c.no then cwant x c (sfind l k) else sfind l k := by
  cases x with
  | none => simp [cstep, cwant]
  | some v =>
    simp only [cstep, cwant]
    by_cases h0 : v = 0
    · simp [h0]
    · by_cases h1 : v = 1
      · simp only [if_neg h0, if_pos h1]; rw [sfind_sput hl]
      · simp only [if_neg h0, if_neg h1]; rw [sfind_sput hl]
theorem rises_cstep {l : List Sec} (hl : rises l) (x : Option Int) (c : Sec) : rises (cstep x c l) := by
  cases x with
  | none => exact hl
  | some v => simp only [cstep]; split; exact hl; split <;> exact rises_sput hl _

theorem crashed_not {c l : List Sec} {how : List Int} (hl : rises l) {k : Int} (hk : ∀ s ∈ c, s.no ≠ k) : sfind (crashed c how l) k = sfind l k := by
  induction c generalizing l how with
  | nil => rfl
  | cons y r ih =>
    simp only [crashed]
    rw [ih (rises_cstep hl _ _) fun s hs => hk s (List.mem_cons_of_mem _ hs), sfind_cstep hl, if_neg]
    exact fun x => hk y (by simp) x.symm
theorem crashed_in {c l : List Sec} {how : List Int} (hc : rises c) (hl : rises l) {j : Nat} (hj : j < c.length) : sfind (crashed c how l) c[j].no = cwant how[j]? c[j] (sfind l c[j].no) := by
  induction c generalizing l how j with
  | nil => simp at hj
  | cons y r ih =>
    have hc' := hc
    unfold rises at hc
    rw [List.pairwise_cons] at hc
    simp only [crashed]
    cases j with
    | zero =>
      simp only [List.getElem_cons_zero]
      rw [crashed_not (rises_cstep hl _ _) fun s hs => by have := hc.1 s hs; omega, sfind_cstep hl, if_pos rfl, List.head?_eq_getElem?]
    | succ j =>
      simp only [List.getElem_cons_succ]
      have hj' : j < r.length := by simpa using hj
      rw [ih hc.2 (rises_cstep hl _ _) hj', sfind_cstep hl, if_neg (by have := hc.1 _ (List.getElem_mem hj'); omega)]
      simp

end Glb
