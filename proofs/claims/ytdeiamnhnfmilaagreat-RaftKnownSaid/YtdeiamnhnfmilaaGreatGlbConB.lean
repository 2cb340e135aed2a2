/-
  A library of its own: its parts, one behind the other.
-/
import Derived.Test.YtdeiamnhnfmilaaGreatGlbConA
import Derived.Test.YtdeiamnhnfmilaaGreatGlbQuoA
import Derived.Test.YtdeiamnhnfmilaaGreatGlbQuoB
import Derived.Test.YtdeiamnhnfmilaaGreatGlbKitB
set_option linter.unusedSimpArgs false
set_option linter.unusedVariables false
namespace Glb
open Go
set_option maxRecDepth 10000
set_option maxHeartbeats 8000000
attribute [go_sem] rev_clo
theorem own_confL {x : Conf} {F : Nat -> Prop} {h : AHeap} {a : List AV} (hh : OwnL x.c F h a) : ∃ o n e, a = [o, n, e] /\ Own (dInts x.old) F h o /\ Own (dInts x.new) F h n /\ Own (dInts x.learners) F h e := by
 simp only [Conf.c, OwnL] at hh
 obtain ⟨o, _, rfl, ho, n, _, rfl, hn, e, _, rfl, he, rfl⟩ := hh
 exact ⟨o, n, e, rfl, ho, hn, he⟩
end Glb
namespace Glb
open Go
set_option maxRecDepth 10000
set_option maxHeartbeats 8000000
end Glb
namespace Glb
open Go
set_option maxRecDepth 10000
set_option maxHeartbeats 4000000
theorem rise_iff : ∀ {l : List Int} {p : Option Int}, rise p l = true ↔ Rises l /\ (∀ y, p = some y -> ∀ m ∈ l, y < m) /\ ∀ m ∈ l, 1 <= m /\ m <= 7
 | l, p => by
  refine ⟨rise_spec, ?_⟩
  induction l generalizing p with
  | nil => intro _; rfl
  | cons x r ih =>
   rintro ⟨h1, h2, h3⟩
   have h4 := List.pairwise_cons.1 h1
   have h5 := h3 x (by simp)
   simp only [rise, Bool.and_eq_true, Bool.not_eq_true', Bool.or_eq_false_iff, decide_eq_false_iff_not]
   refine ⟨⟨⟨by omega, by omega⟩, ?_⟩, ih _ ⟨h4.2, fun y hy m hm => ?_, fun m hm => h3 m (by simp [hm])⟩⟩
   ·cases p with
    | none => rfl
    | some y => have := h2 y rfl x (by simp); simp; omega
   ·cases hy; exact h4.1 m hm
theorem right_iff {x : Conf} : x.right = true ↔ x.old ≠ [] /\ (Rises x.old /\ ∀ m ∈ x.old, 1 <= m /\ m <= 7) /\ (Rises x.new /\ ∀ m ∈ x.new, 1 <= m /\ m <= 7) /\ (Rises x.learners /\ ∀ m ∈ x.learners, 1 <= m /\ m <= 7) /\ ∀ m ∈ x.learners, m ∉ x.old /\ m ∉ x.new := by
 constructor
 ·intro h
  obtain ⟨h0, h1, h2, h3, h4, h5, h6, h7⟩ := right_spec h
  exact ⟨fun e => h0 (by rw [e]; rfl), ⟨h1, h4⟩, ⟨h2, h5⟩, ⟨h3, h6⟩, h7⟩
 ·rintro ⟨h0, ⟨h1, h4⟩, ⟨h2, h5⟩, ⟨h3, h6⟩, h7⟩
  have r1 : rise none x.old = true := rise_iff.2 ⟨h1, by simp, h4⟩
  have r2 : rise none x.new = true := rise_iff.2 ⟨h2, by simp, h5⟩
  have r3 : rise none x.learners = true := rise_iff.2 ⟨h3, by simp, h6⟩
  have r4 : x.learners.any x.votes = false := by
   rw [<- Bool.not_eq_true, List.any_eq_true]
   rintro ⟨n, g1, g2⟩
   have := h7 n g1
   simp [Conf.votes, this.1, this.2] at g2
  have r0 : x.old.length ≠ 0 := fun e => h0 (List.eq_nil_of_length_eq_zero e)
  simp [Conf.right_eq, r0, r1, r2, r3, r4]
end Glb
