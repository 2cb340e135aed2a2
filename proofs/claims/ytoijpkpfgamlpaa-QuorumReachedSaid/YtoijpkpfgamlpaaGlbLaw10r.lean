/-
  What is agreed: of it enough have reached it, and of no greater number.
-/
import Derived.Test.YtoijpkpfgamlpaaGlbQuorum3
set_option linter.unusedSimpArgs false
set_option linter.unusedVariables false
namespace Glb
open Go
set_option maxRecDepth 10000
set_option maxHeartbeats 4000000

theorem enough_mono {l a b : List Int} (h : ∀ n ∈ a, n ∈ b) (he : enough l a = true) : enough l b = true := by
  simp only [enough, decide_eq_true_eq] at he ⊢
  have : (l.countP fun n => decide (n ∈ a)) ≤ l.countP fun n => decide (n ∈ b) := List.countP_mono_left fun x _ hx => by simpa using h x (by simpa using hx)
  omega
theorem won_mono {x : Conf} {a b : List Int} (h : ∀ n ∈ a, n ∈ b) (he : x.won a = true) : x.won b = true := by
  simp only [Conf.won, Bool.and_eq_true, Bool.or_eq_true] at he ⊢
  exact ⟨enough_mono h he.1, he.2.imp id (enough_mono h)⟩

theorem best_ge (x : Conf) (all : List (Int × Int)) : ∀ (r : List (Int × Int)) (b : Int), b ≤ x.best all r b
  | [], b => Int.le_refl _
  | p :: r, b => by
    simp only [Conf.best]
    split
    · rename_i h; have := best_ge x all r p.2; omega
    · exact best_ge x all r b
theorem best_all (x : Conf) (all : List (Int × Int)) : ∀ (r : List (Int × Int)) (b : Int) (p : Int × Int), p ∈ r → x.won (yesOf p.2 all) = true → p.2 ≤ x.best all r b
  | [], b, p, h, _ => by simp at h
  | q :: r, b, p, h, hw => by
    simp only [Conf.best]
    rcases List.mem_cons.1 h with rfl | h
    · split
      · exact best_ge x all r _
      · rename_i hn
        have : ¬ b < p.2 := fun hlt => hn ⟨hlt, hw⟩
        have := best_ge x all r b
        omega
    · exact best_all x all r _ p h hw
theorem best_is (x : Conf) (all : List (Int × Int)) : ∀ (r : List (Int × Int)) (b : Int), x.best all r b = b ∨ ∃ p ∈ r, x.best all r b = p.2 ∧ b < p.2 ∧ x.won (yesOf p.2 all) = true
  | [], b => .inl rfl
  | q :: r, b => by
    simp only [Conf.best]
    split
    · rename_i h
      rcases best_is x all r q.2 with e | ⟨p, hp, e, h1, h2⟩
      · exact .inr ⟨q, by simp, e, h.1, h.2⟩
      · exact .inr ⟨p, by simp [hp], e, by omega, h2⟩
    · rcases best_is x all r b with e | ⟨p, hp, e, h1, h2⟩
      · exact .inl e
      · exact .inr ⟨p, by simp [hp], e, h1, h2⟩

theorem mem_yesOf {v n : Int} {ps : List (Int × Int)} : n ∈ yesOf v ps ↔ ∃ p ∈ ps, v ≤ p.2 ∧ p.1 = n := by
  simp only [yesOf, List.mem_map, List.mem_filter, decide_eq_true_eq]
  constructor
  · rintro ⟨p, ⟨h1, h2⟩, h3⟩; exact ⟨p, h1, h2, h3⟩
  · rintro ⟨p, h1, h2, h3⟩; exact ⟨p, ⟨h1, h2⟩, h3⟩

/-- the least of some -/
theorem least {ps : List (Int × Int)} {v : Int} (h : ∃ p ∈ ps, v ≤ p.2) : ∃ p ∈ ps, v ≤ p.2 ∧ ∀ q ∈ ps, v ≤ q.2 → p.2 ≤ q.2 := by
  induction ps with
  | nil => obtain ⟨p, hp, _⟩ := h; simp at hp
  | cons a r ih =>
    by_cases hr : ∃ p ∈ r, v ≤ p.2
    · obtain ⟨p, hp, h1, h2⟩ := ih hr
      by_cases ha : v ≤ a.2 ∧ a.2 < p.2
      · refine ⟨a, by simp, ha.1, fun q hq hv => ?_⟩
        rcases List.mem_cons.1 hq with rfl | hq
        · exact Int.le_refl _
        · have := h2 q hq hv; omega
      · refine ⟨p, by simp [hp], h1, fun q hq hv => ?_⟩
        rcases List.mem_cons.1 hq with rfl | hq
        · omega
        · exact h2 q hq hv
    · obtain ⟨p, hp, h1⟩ := h
      rcases List.mem_cons.1 hp with rfl | hp
      · refine ⟨p, by simp, h1, fun q hq hv => ?_⟩
        rcases List.mem_cons.1 hq with rfl | hq
        · exact Int.le_refl _
        · exact absurd ⟨q, hq, hv⟩ hr
      · exact absurd ⟨p, hp, h1⟩ hr

theorem agreed_nonneg (x : Conf) (n r : List Int) : 0 ≤ x.agreed n r := best_ge x _ _ 0
theorem agreed_in {x : Conf} {n r : List Int} (h : 0 < x.agreed n r) : x.agreed n r ∈ r := by
  rcases best_is x (n.zip r) (n.zip r) 0 with e | ⟨p, hp, e, h1, h2⟩
  · simp only [Conf.agreed] at h; omega
  · simp only [Conf.agreed]; rw [e]; exact (List.of_mem_zip hp).2
theorem agreed_most {x : Conf} {n r : List Int} {k : Nat} (hl : n.length = r.length) (hk : k < r.length) (hw : x.won (yesOf r[k] (n.zip r)) = true) : r[k] ≤ x.agreed n r := by
  have hm : (n[k]'(by omega), r[k]) ∈ n.zip r := by
    have : (n.zip r)[k]'(by simp [hl]; omega) = (n[k]'(by omega), r[k]) := by simp
    rw [← this]; exact List.getElem_mem _
  exact best_all x _ _ 0 _ hm hw
theorem agreed_won {x : Conf} {n r : List Int} (h : 0 < x.agreed n r) : x.won (yesOf (x.agreed n r) (n.zip r)) = true := by
  rcases best_is x (n.zip r) (n.zip r) 0 with e | ⟨p, hp, e, h1, h2⟩
  · simp only [Conf.agreed] at h; omega
  · simp only [Conf.agreed]; rw [e]; exact h2

theorem agreed_rises {x : Conf} {n r : List Int} {k : Nat} (by_ : Int) (hl : n.length = r.length) (hk : k < r.length) : x.agreed n r ≤ x.agreed n (r.set k (max r[k] by_)) := by
  by_cases h0 : 0 < x.agreed n r
  · have hw := agreed_won h0
    generalize hv : x.agreed n r = v at *
    have sub : ∀ m ∈ yesOf v (n.zip r), m ∈ yesOf v (n.zip (r.set k (max r[k] by_))) := by
      intro m hm
      obtain ⟨p, hp, h1, h2⟩ := mem_yesOf.1 hm
      obtain ⟨i, hi, rfl⟩ := List.getElem_of_mem hp
      simp only [List.length_zip] at hi
      refine mem_yesOf.2 ⟨(n.zip (r.set k (max r[k] by_)))[i]'(by simp; omega), List.getElem_mem _, ?_, ?_⟩
      · simp only [List.getElem_zip] at h1 ⊢
        rw [List.getElem_set]
        split
        · rename_i e; subst e; omega
        · exact h1
      · simp only [List.getElem_zip] at h2 ⊢; exact h2
    have hw' := won_mono sub hw
    have hin : ∃ p ∈ n.zip (r.set k (max r[k] by_)), v ≤ p.2 := by
      have hvr := agreed_in (x := x) (n := n) (r := r) (by omega)
      rw [hv] at hvr
      obtain ⟨i, hi, hri⟩ := List.getElem_of_mem hvr
      refine ⟨(n.zip (r.set k (max r[k] by_)))[i]'(by simp; omega), List.getElem_mem _, ?_⟩
      simp only [List.getElem_zip]
      rw [List.getElem_set]
      split
      · rename_i e; subst e; omega
      · omega
    obtain ⟨p, hp, h1, h2⟩ := least hin
    have hyes : x.won (yesOf p.2 (n.zip (r.set k (max r[k] by_)))) = true := won_mono (fun m hm => by
      obtain ⟨q, hq, g1, g2⟩ := mem_yesOf.1 hm
      exact mem_yesOf.2 ⟨q, hq, h2 q hq g1, g2⟩) hw'
    have := best_all x _ _ 0 p hp hyes
    simp only [Conf.agreed]
    omega
  · have := agreed_nonneg x n (r.set k (max r[k] by_)); omega

/-- one of one's own numbers written over -/
theorem own_set_int {F : Nat → Prop} {h : AHeap} {l : List Int} {a : AV} (ho : Own (dInts l) F h a) {k : Nat} (hk : k < l.length) (v : Int) :
    ∃ p h', aindex 1 a (.int .i64 k) = some p ∧ aload h false 1 p = some (.int .i64 l[k]) ∧ astore h 1 p (.int .i64 v) = some h' ∧ Own (dInts (l.set k v)) F h' a ∧ Ext F h h' := by
  simp only [dInts, Own] at ho
  rcases ho with ⟨_, e⟩ | ⟨_, _, _, e⟩ | ⟨n, off, cap, row, g, rfl, hF, hrow, hle, hcap, hes⟩
  · simp at e; subst e; simp at hk
  · simp at e; subst e; simp at hk
  · rw [List.length_map] at hes hle hcap ⊢
    have hr := ownLL_ints_eq hes
    have hk2 : row[off + k]? = some [.int .i64 l[k]] := by
      have : ((row.drop off).take l.length)[k]? = some [.int .i64 l[k]] := by rw [hr]; simp [hk]
      rw [List.getElem?_take_of_lt hk, List.getElem?_drop] at this
      exact this
    have hlt := (List.getElem?_eq_some_iff.1 hrow).1
    refine ⟨.ptr n 1 (off + k) 0, _, ?_, ?_, astore_elem (x := .int .i64 v) hrow hk2 rfl rfl rfl rfl, ?_, Ext.set _ (fun _ => hF)⟩
    · simp only [aindex]; rw [if_pos ⟨trivial, by omega, by omega⟩]; simp
    · rw [aload_ptr, hrow, rowGet_arr, hk2]; rfl
    · simp only [dInts, Own]
      refine .inr (.inr ⟨n, off, cap, _, g, ?_, hF, List.getElem?_set_self hlt, ?_, ?_, ?_⟩)
      · simp
      · simpa using hle
      · simpa using hcap
      · have : ((row.set (off + k) [.int .i64 v]).drop off).take (l.set k v).length = (l.set k v).map fun n => [.int .i64 n] := by
          rw [List.drop_set, if_neg (by omega), List.length_set, List.take_set, hr, List.map_set, show off + k - off = k by omega]
        simp only [List.length_map]
        rw [this]
        exact ownLL_ints .i64 _ _ _

end Glb
