/-
  A library of its own: its parts, one behind the other.
-/
import Derived.Test.YtdlklnoffbfjmaaGlbSecC
import Derived.Test.YtdlklnoffbfjmaaGlbImgA
import Derived.Test.YtdlklnoffbfjmaaGlbLibB
set_option linter.unusedSimpArgs false
set_option linter.unusedVariables false
/-
  Layer 8: checkpoints on two slots, in plain lists.
-/
namespace Glb
open Go
set_option maxRecDepth 10000

/-- how many pieces bytes have -/
def many (p : List Int) : Nat := max 1 ((p.length + 39) / 40)
def cutAt (p : List Int) (k : Nat) : List Int := (p.drop (40 * k)).take 40
def maxNo : Int := 1099511627776

def fitE (e : Int) (slot : Int) : Prop := 1 ≤ e ∧ e ≤ maxNo ∧ e % 2 = slot
instance (e slot : Int) : Decidable (fitE e slot) := by unfold fitE; infer_instance
def Dk.may (d : Dk) (at' n : Int) : Prop := 0 ≤ at' ∧ 1 ≤ n ∧ at' + 2 * n ≤ d.n
instance (d : Dk) (a n : Int) : Decidable (d.may a n) := by unfold Dk.may; infer_instance
/- pieces -/
theorem many_pos (p : List Int) : 1 ≤ many p := by unfold many; omega
theorem cut_full {p : List Int} {k : Nat} (h : k + 1 < many p) : (cutAt p k).length = 40 := by
  unfold many at h; unfold cutAt; rw [List.length_take, List.length_drop]; omega
theorem cut_len (p : List Int) (k : Nat) : (cutAt p k).length ≤ 40 := by unfold cutAt; simp; omega
theorem cut_bytes {p : List Int} (h : bytesOk p) (k : Nat) : bytesOk (cutAt p k) := (h.drop _).take _
end Glb

/-
  Layer 8: the program's pieces.
-/
namespace Glb
open Go
set_option maxRecDepth 10000
set_option maxHeartbeats 8000000

/-- sectors are bytes -/
def Dk.bts (d : Dk) : Prop := (∀ s ∈ d.lasts, bytesOk s.b) ∧ ∀ s ∈ d.cache, bytesOk s.b
theorem nl_rd8 (h : AHeap) : Rd (fun _ => True) h (.sl 1 []) .nils := ⟨[], .inl ⟨rfl, rfl⟩, rfl⟩
theorem bytesOk_nil : bytesOk [] := fun x hx => by cases hx
theorem Dk.read_bytes {d : Dk} (h : d.bts) (i : Int) : bytesOk (d.read i).1 := by
  unfold Dk.read
  split
  · exact bytesOk_nil
  · split
    · rename_i s hs
      exact h.2 _ (sfind_some hs).1
    · cases hs : sfind d.lasts i with
      | none => exact bytesOk_nil
      | some s =>
        simp only [readL]
        split
        · exact bytesOk_nil
        · exact h.1 _ (sfind_some hs).1
theorem Dk.read_len8 {d : Dk} (h : d.ok) (i : Int) : (d.read i).1.length ≤ 64 := by
  unfold Dk.read
  split
  · simp
  · split
    · rename_i s hs
      exact (h.cache.2 _ (sfind_some hs).1).2.2.1
    · cases hs : sfind d.lasts i with
      | none => simp [readL]
      | some s =>
        simp only [readL]
        split
        · simp
        · exact (h.lasts.2 _ (sfind_some hs).1).2.2

theorem Frz.tup3 {k h a a' b b' c c'} (h1 : Frz k h a a') (h2 : Frz k h b b') (h3 : Frz k h c c') : Frz k h (.tup [a, b, c]) (.tup [a', b', c']) := by
  refine .tup rfl fun j x hj => ?_
  match j with
  | 0 => simp at hj; subst hj; exact ⟨_, rfl, h1⟩
  | 1 => simp at hj; subst hj; exact ⟨_, rfl, h2⟩
  | 2 => simp at hj; subst hj; exact ⟨_, rfl, h3⟩
  | j + 3 => simp at hj
theorem rInt_some {l : List Int} (h : 8 ≤ l.length) : rInt (some l) = (valOf (l.take 8), some (l.drop 8)) := by simp only [rInt]; rw [if_neg (by omega)]
end Glb

/-
  Layer 8: the program's slots.
-/
namespace Glb
open Go
set_option maxRecDepth 10000
set_option maxHeartbeats 8000000

end Glb

/-
  Layer 8: Save.
-/
namespace Glb
open Go
set_option maxRecDepth 10000
set_option maxHeartbeats 8000000

def box1 (h : AHeap) (n : Nat) (v : AV) : Prop := h[n]? = some (some (.arr 1 [[v]] false))
end Glb
