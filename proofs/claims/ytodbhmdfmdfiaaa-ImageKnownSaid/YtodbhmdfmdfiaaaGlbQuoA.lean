/-
  A library of its own: its parts, one behind the other.
-/
import Derived.Test.YtodbhmdfmdfiaaaGlbKitB
import Derived.Test.YtodbhmdfmdfiaaaGlbLibE
import Derived.Test.YtodbhmdfmdfiaaaGlbCquorum
import Derived.Test.YtodbhmdfmdfiaaaGlbCgleberef10
import Derived.Test.YtodbhmdfmdfiaaaGlbCglebelaw10
import Derived.Test.YtodbhmdfmdfiaaaGlbLibD
set_option linter.unusedSimpArgs false
set_option linter.unusedVariables false
/-
  Who is enough: the program's functions and the document's answer so.
-/
namespace Glb
open Go
set_option maxRecDepth 10000
set_option maxHeartbeats 4000000

theorem Rd.int_at {F : Nat → Prop} {h : AHeap} {l : List Int} {a : AV} (hx : Rd F h (dInts l) a) {i : Nat} (hi : i < l.length) :
    ∃ p, aindex 1 a (.int .i64 i) = some p ∧ aload h false 1 p = some (.int .i64 l[i]) := by
  obtain ⟨p, cs, hp, hpc, hcs⟩ := hx.index .i64 (i := i) (d := [.int .i64 l[i]]) (by omega) (by simp [hi])
  simp only [RdL, Rd] at hcs
  obtain ⟨_, _, rfl, rfl, rfl⟩ := hcs
  exact ⟨p, hp, by rw [aload_p hpc]; exact take_one _ _ _⟩
theorem Rd.ints_len {F : Nat → Prop} {h : AHeap} {l : List Int} {a : AV} (hx : Rd F h (dInts l) a) : alen a = some (.int .i64 l.length) := by simpa using hx.len

def findAt (n : Int) : List Int → Nat → Int
  | [], _ => -1
  | x :: r, k => if n = x then k else findAt n r (k + 1)
theorem findAt_has (n : Int) : ∀ (l : List Int) (k : Nat), decide (0 ≤ findAt n l k) = decide (n ∈ l) := by
  intro l
  induction l with
  | nil => intro k; simp [findAt]
  | cons x r ih =>
    intro k
    simp only [findAt]
    split
    · rename_i e; subst e; simp
    · rename_i e; rw [ih]; simp [e]

def IndexOk (P : Program) (f : FuncId) : Prop :=
  isFn P f = true ∧ ∀ (F : Nat → Prop) (h : AHeap) (l : List Int) (a : AV) (n : Int), Rd F h (dInts l) a → l.length ≤ 2^40 → ACalls P f [a, .int .i64 n] h fun r h' => r = .int .i64 (findAt n l 0) ∧ h' = h

theorem Index_ok {P : Program} {f : FuncId} (hf : Is P f c_slices_Index_int_int) : IndexOk P f := by
  refine ⟨hf.2, fun F h l a n ha hl => fun_sound hf.1 (Nat.le_of_ble_eq_true rfl) ?_⟩
  show vc P c_slices_Index_int_int.code ⟨[(0, a), (1, .int .i64 n)], [], h⟩ (atEnd c_slices_Index_int_int.res _)
  have la := ha.ints_len
  simp only [c_slices_Index_int_int, go_sem, reduceIte, Nat.reduceEqDiff, Nat.reduceAdd, Nat.reduceLeDiff, Nat.reducePow, Nat.reduceDiv, Nat.reduceMod, decide_true, la]
  refine vc_loop (fun m L h' => ∃ i : Nat, lk 0 L = a ∧ lk 1 L = .int .i64 n ∧ lk 7 L = .int .i64 l.length ∧ lk 8 L = .int .i64 i ∧ h' = h ∧ i ≤ l.length ∧ m = l.length - i ∧ findAt n (l.drop i) i = findAt n l 0) l.length ?_ ?_
  · exact ⟨0, by simp [lk_ins, lk_cons], by simp [lk_ins, lk_cons], by simp [lk_ins], by simp [lk_ins], rfl, by omega, by omega, rfl⟩
  · rintro m L h' ⟨i, h0, h1, h7, h8, rfl, hi, rfl, hq⟩
    simp only [c_slices_Index_int_int_l0, go_sem, reduceIte, Nat.reduceEqDiff, Nat.reduceAdd, Nat.reduceLeDiff, Nat.reducePow, Nat.reduceDiv, Nat.reduceMod, decide_true, h0, h1, h7, h8]
    refine wCond_split (fun ci => ?_) (fun ci => ?_)
    · simp at ci
      obtain ⟨p, hp, hv⟩ := ha.int_at ci
      have e : IntKind.i64.wrap (↑i + 1) = (i : Int) + 1 := wrap_i64 (by omega)
      simp only [go_sem, reduceIte, Nat.reduceEqDiff, Nat.reduceAdd, Nat.reduceLeDiff, Nat.reducePow, Nat.reduceDiv, Nat.reduceMod, decide_true, h0, h1, h7, h8, hp, hv]
      rw [List.drop_eq_getElem_cons ci] at hq
      simp only [findAt] at hq
      by_cases c : n = l[i]
      · simp only [go_sem, reduceIte, Nat.reduceEqDiff, Nat.reduceAdd, Nat.reduceLeDiff, Nat.reducePow, Nat.reduceDiv, Nat.reduceMod, decide_true, decide_eq_true c]
        rw [if_pos c] at hq
        rw [← hq]
      · simp only [go_sem, reduceIte, Nat.reduceEqDiff, Nat.reduceAdd, Nat.reduceLeDiff, Nat.reducePow, Nat.reduceDiv, Nat.reduceMod, decide_true, decide_eq_false c, h0, h1, h7, h8, e]
        rw [if_neg c] at hq
        exact ⟨_, by omega, i + 1, by simp, ci, rfl, hq⟩
    · simp at ci
      simp only [go_sem, reduceIte, Nat.reduceEqDiff, Nat.reduceAdd, Nat.reduceLeDiff, Nat.reducePow, Nat.reduceDiv, Nat.reduceMod, decide_true]
      obtain rfl : i = l.length := by omega
      rw [List.drop_length] at hq
      rw [← hq]; rfl

def HasOk (P : Program) (f : FuncId) : Prop :=
  isFn P f = true ∧ ∀ (F : Nat → Prop) (h : AHeap) (l : List Int) (a : AV) (n : Int), Rd F h (dInts l) a → l.length ≤ 2^40 → ACalls P f [a, .int .i64 n] h fun r h' => r = .bool (decide (n ∈ l)) ∧ h' = h

theorem Contains_ok {P : Program} {f g : FuncId} (hf : Is P f (c_slices_Contains_int_int g)) (hg : IndexOk P g) : HasOk P f := by
  refine ⟨hf.2, fun F h l a n ha hl => fun_sound hf.1 (Nat.le_of_ble_eq_true rfl) ?_⟩
  show vc P (c_slices_Contains_int_int g).code ⟨[(0, a), (1, .int .i64 n)], [], h⟩ (atEnd (c_slices_Contains_int_int g).res _)
  simp only [c_slices_Contains_int_int, go_sem, reduceIte, Nat.reduceEqDiff, Nat.reduceAdd, Nat.reduceLeDiff, Nat.reducePow, Nat.reduceDiv, Nat.reduceMod, decide_true]
  refine wCall_use ⟨hg.1, hg.2 F _ l a n ha hl⟩ ?_
  rintro _ _ ⟨rfl, rfl⟩
  simp only [go_sem, reduceIte, Nat.reduceEqDiff, Nat.reduceAdd, Nat.reduceLeDiff, Nat.reducePow, Nat.reduceDiv, Nat.reduceMod, decide_true, findAt_has]

/-- of how many items something is so -/
def CountOk (P : Program) (f : FuncId) : Prop :=
  isFn P f = true ∧ ∀ (F : Nat → Prop) (h : AHeap) (l : List Int) (a : AV) (g : FuncId) (fs cs : List AV) (p : Int → Bool), Rd F h (dInts l) a → l.length ≤ 2^40 → isFn P g = true →
    (∀ n, ACalls P g (fs ++ [.int .i64 n] ++ cs) h fun r h' => r = .bool (p n) ∧ h' = h) → ACalls P f [a, .clo g fs cs] h fun r h' => r = .int .i64 (l.countP p) ∧ h' = h

theorem count_ok {P : Program} {f : FuncId} (hf : Is P f c_quorum_count_int) : CountOk P f := by
  refine ⟨hf.2, fun F h l a g fs cs p ha hl hi hg => fun_sound hf.1 (Nat.le_of_ble_eq_true rfl) ?_⟩
  show vc P c_quorum_count_int.code ⟨[(0, a), (1, .clo g fs cs)], [], h⟩ (atEnd c_quorum_count_int.res _)
  have la := ha.ints_len
  simp only [c_quorum_count_int, go_sem, reduceIte, Nat.reduceEqDiff, Nat.reduceAdd, Nat.reduceLeDiff, Nat.reducePow, Nat.reduceDiv, Nat.reduceMod, decide_true, la]
  refine vc_loop (fun m L h' => ∃ i c : Nat, lk 1 L = .clo g fs cs ∧ lk 5 L = .int .i64 c ∧ lk 8 L = a ∧ lk 9 L = .int .i64 l.length ∧ lk 10 L = .int .i64 i ∧ h' = h ∧ i ≤ l.length ∧ c ≤ i ∧ m = l.length - i ∧ c + (l.drop i).countP p = l.countP p) l.length ?_ ?_
  · exact ⟨0, 0, by simp [lk_ins, lk_cons], by simp [lk_ins, lk_cons], by simp [lk_ins, lk_cons], by simp [lk_ins, lk_cons], by simp [lk_ins], rfl, by omega, by omega, by omega, by simp⟩
  · rintro m L h' ⟨i, c, h1, h5, h8, h9, h10, rfl, hi2, hci, rfl, hq⟩
    simp only [c_quorum_count_int_l0, go_sem, reduceIte, Nat.reduceEqDiff, Nat.reduceAdd, Nat.reduceLeDiff, Nat.reducePow, Nat.reduceDiv, Nat.reduceMod, decide_true, h1, h5, h8, h9, h10]
    refine wCond_split (fun ci => ?_) (fun ci => ?_)
    · simp at ci
      obtain ⟨q, hp, hv⟩ := ha.int_at ci
      have e : IntKind.i64.wrap (↑i + 1) = (i : Int) + 1 := wrap_i64 (by omega)
      have e2 : IntKind.i64.wrap (↑c + 1) = ((c + 1 : Nat) : Int) := by rw [wrap_i64 (by omega)]; omega
      simp only [go_sem, reduceIte, Nat.reduceEqDiff, Nat.reduceAdd, Nat.reduceLeDiff, Nat.reducePow, Nat.reduceDiv, Nat.reduceMod, decide_true, h1, h5, h8, h9, h10, hp, hv]
      rw [List.drop_eq_getElem_cons ci, List.countP_cons] at hq
      refine wCall_use ⟨hi, hg _⟩ ?_
      rintro _ _ ⟨rfl, rfl⟩
      cases hpb : p l[i]
      · simp only [go_sem, reduceIte, Nat.reduceEqDiff, Nat.reduceAdd, Nat.reduceLeDiff, Nat.reducePow, Nat.reduceDiv, Nat.reduceMod, decide_true, h1, h5, h8, h9, h10, e]
        exact ⟨_, by omega, i + 1, c, by simp, by simp, ci, by omega, rfl, by simpa [hpb] using hq⟩
      · simp only [go_sem, reduceIte, Nat.reduceEqDiff, Nat.reduceAdd, Nat.reduceLeDiff, Nat.reducePow, Nat.reduceDiv, Nat.reduceMod, decide_true, h1, h5, h8, h9, h10, e, e2]
        exact ⟨_, by omega, i + 1, c + 1, by simp, by simp, ci, by omega, rfl, by simp only [hpb, if_true] at hq; omega⟩
    · simp at ci
      simp only [go_sem, reduceIte, Nat.reduceEqDiff, Nat.reduceAdd, Nat.reduceLeDiff, Nat.reducePow, Nat.reduceDiv, Nat.reduceMod, decide_true, h5]
      obtain rfl : i = l.length := by omega
      rw [List.drop_length] at hq
      simp at hq
      rw [hq]

theorem quo64 (a b : Int) : abin .quo (.int .i64 a) (.int .i64 b) = if b = 0 then none else some (.int .i64 (IntKind.i64.wrap (a.tdiv b))) := Eq.trans rfl rfl
theorem natCast_eq_zero (n : Nat) : decide ((n : Int) = 0) = decide (n = 0) := by simp

end Glb

/-
  What enough have reached: the program's function and the document's answer so.
-/
namespace Glb
open Go
set_option maxRecDepth 10000
set_option maxHeartbeats 4000000

end Glb

/-
  Lists lent and kept, a number picked; what is told of those that have reached a number.
-/
namespace Glb
open Go
set_option maxRecDepth 10000
set_option maxHeartbeats 4000000

def pick (k n : Int) : Int := if n < 1 then 0 else k % n
theorem ownLL_ints (k : IntKind) (F : Nat → Prop) (h : AHeap) : ∀ l : List Int, OwnLL (l.map fun n => [.int k n]) F h (l.map fun n => [AV.int k n])
  | [] => by simp only [List.map_nil, OwnLL]
  | n :: l => by simp only [List.map_cons, OwnLL, OwnL, Own]; exact ⟨_, _, rfl, ⟨_, _, rfl, rfl, rfl⟩, ownLL_ints k F h l⟩
end Glb

/-
  What is agreed: of it enough have reached it, and of no greater number.
-/
namespace Glb
open Go
set_option maxRecDepth 10000
set_option maxHeartbeats 4000000

end Glb
