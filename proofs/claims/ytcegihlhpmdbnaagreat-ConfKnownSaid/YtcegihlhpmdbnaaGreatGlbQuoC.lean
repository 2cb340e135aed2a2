/-
  A library of its own: its parts, one behind the other.
-/
import Derived.Test.YtcegihlhpmdbnaaGreatGlbQuoA
import Derived.Test.YtcegihlhpmdbnaaGreatGlbQuoB
import Derived.Test.YtcegihlhpmdbnaaGreatGlbKitB
set_option linter.unusedSimpArgs false
set_option linter.unusedVariables false
/-
  The statement on what enough have reached.
-/
namespace Glb
open Go
set_option maxRecDepth 10000
set_option maxHeartbeats 8000000

end Glb

/-
  Two that are enough have a voter in common.
-/
namespace Glb
open Go
set_option maxRecDepth 10000
set_option maxHeartbeats 4000000

theorem countP_two (p q : Int → Bool) : ∀ l : List Int, l.countP p + l.countP q ≤ l.length + l.countP fun n => p n && q n
  | [] => by simp
  | x :: r => by
    have := countP_two p q r
    simp only [List.countP_cons, List.length_cons]
    cases p x <;> cases q x <;> simp <;> omega

theorem enough_meet {l a b : List Int} (ha : enough l a = true) (hb : enough l b = true) : ∃ n ∈ l, n ∈ a ∧ n ∈ b := by
  simp only [enough, decide_eq_true_eq] at ha hb
  have h1 := countP_two (fun n => decide (n ∈ a)) (fun n => decide (n ∈ b)) l
  have h2 : 0 < l.countP fun n => decide (n ∈ a) && decide (n ∈ b) := by omega
  obtain ⟨n, hn, hp⟩ := List.countP_pos_iff.1 h2
  simp at hp
  exact ⟨n, hn, hp⟩

theorem won_old {x : Conf} {a : List Int} (h : x.won a = true) : enough x.old a = true := by
  simp only [Conf.won, Bool.and_eq_true] at h; exact h.1
theorem won_new {x : Conf} {a : List Int} (h : x.won a = true) (hn : x.new ≠ []) : enough x.new a = true := by
  simp only [Conf.won, Bool.and_eq_true, Bool.or_eq_true, decide_eq_true_eq] at h
  exact h.2.resolve_left fun e => hn (List.eq_nil_of_length_eq_zero e)
theorem mem_voters {x : Conf} {n : Int} : n ∈ x.voters ↔ n ∈ x.old ∨ n ∈ x.new := by
  rw [Conf.voters, (uni_rises _).2, List.mem_append]

end Glb

/-
  Who is enough stays so with more; what is told of members.
-/
namespace Glb
open Go
set_option maxRecDepth 10000
set_option maxHeartbeats 8000000

end Glb

/-
  What is told of members.
-/
namespace Glb
open Go
set_option maxRecDepth 10000
set_option maxHeartbeats 8000000

theorem own_int_ty {F : Nat → Prop} {h : AHeap} {l : List Int} {a : AV} (ho : Own (dInts l) F h a) (hl : l.length ≤ 2^40) : OwnT (.sl 1 [.int .i64]) F h a := by
  refine Own.ty _ _ _ ?_ ho
  simp only [dInts, HasTy]
  refine ⟨_, rfl, by simpa using hl, HasTyLL_mk fun d hd => ?_⟩
  obtain ⟨n, _, rfl⟩ := List.mem_map.1 hd
  simp [HasTyL, HasTy]

end Glb
