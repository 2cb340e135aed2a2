/-
  A library of its own: its parts, one behind the other.
-/
import Derived.Test.YtodbhmdfmdfiaaaGlbQuoA
import Derived.Sort.Grow
set_option linter.unusedSimpArgs false
set_option linter.unusedVariables false
/-
  A list of numbers of one's own, sorted by the library.
-/
namespace Glb
open Go
set_option maxRecDepth 10000
set_option maxHeartbeats 4000000

end Glb

/-
  Numbers of lists, rising, each once: what they are, and the library's way.
-/
namespace Glb
open Go
set_option maxRecDepth 10000
set_option maxHeartbeats 4000000

/-! rising lists -/

/-! each once, of a list in order -/

end Glb

/-
  Numbers of lists, rising, each once: the program's functions and the document's.
-/
namespace Glb
open Go
set_option maxRecDepth 10000
set_option maxHeartbeats 4000000

theorem rev_xo (g : Opd → AV) (h : AHeap) (x : XOp) : rev g h (.x x) = xev g x := Eq.trans rfl rfl
end Glb

/-
  Each number once: the library's slices.Compact.
-/
namespace Glb
open Go
set_option maxRecDepth 10000
set_option maxHeartbeats 4000000

end Glb

/-
  Who votes, who belongs to members, whether they are right: the program's functions and the document's.
-/
namespace Glb
open Go
set_option maxRecDepth 10000
set_option maxHeartbeats 4000000

/-! the document's -/

/-! right members -/

def rise : Option Int → List Int → Bool
  | _, [] => true
  | p, x :: r => !(decide (x < 1) || decide (7 < x) || (match p with | none => false | some y => decide (x ≤ y))) && rise (some x) r
def prev (l : List Int) : Nat → Option Int
  | 0 => none
  | i + 1 => l[i]?
def Conf.right (x : Conf) : Bool := !(decide (x.old.length = 0) || !rise none x.old || !rise none x.new || !rise none x.learners || x.learners.any fun n => decide (n ∈ x.old) || decide (n ∈ x.new))

def RisesOk (P : Program) (f : FuncId) : Prop :=
  isFn P f = true ∧ ∀ (F : Nat → Prop) (h : AHeap) (l : List Int) (a : AV), Rd F h (dInts l) a → l.length ≤ 2^40 → ACalls P f [a] h fun r h' => r = .bool (rise none l) ∧ h' = h

theorem rises_ok {P : Program} {f : FuncId} (hf : Is P f c_quorum_rises) : RisesOk P f := by
  refine ⟨hf.2, fun F h l a ha hl => fun_sound hf.1 (Nat.le_of_ble_eq_true rfl) ?_⟩
  show vc P c_quorum_rises.code ⟨[(0, a)], [], h⟩ (atEnd c_quorum_rises.res _)
  have la := ha.ints_len
  simp only [c_quorum_rises, go_sem, reduceIte, Nat.reduceEqDiff, Nat.reduceAdd, Nat.reduceLeDiff, Nat.reducePow, Nat.reduceDiv, Nat.reduceMod, decide_true, la]
  refine vc_loop (fun m L h' => ∃ i : Nat, lk 0 L = a ∧ lk 5 L = a ∧ lk 6 L = .int .i64 l.length ∧ lk 7 L = .int .i64 i ∧ h = h' ∧ i ≤ l.length ∧ m = l.length - i ∧ rise (prev l i) (l.drop i) = rise none l) l.length ?_ ?_
  · exact ⟨0, by simp [lk_ins, lk_cons], by simp [lk_ins, lk_cons], by simp [lk_ins, lk_cons], by simp [lk_ins], rfl, by omega, by omega, rfl⟩
  · rintro m L h1 ⟨i, k0, k5, k6, k7, rfl, hi, rfl, hq⟩
    simp only [c_quorum_rises_l0, go_sem, reduceIte, Nat.reduceEqDiff, Nat.reduceAdd, Nat.reduceLeDiff, Nat.reducePow, Nat.reduceDiv, Nat.reduceMod, decide_true, k0, k5, k6, k7]
    refine wCond_split (fun ci => ?_) (fun ci => ?_)
    · simp at ci
      obtain ⟨p, hp, hv⟩ := ha.int_at ci
      have e1 : IntKind.i64.wrap (↑i + 1) = (i : Int) + 1 := wrap_i64 (by omega)
      rw [List.drop_eq_getElem_cons ci] at hq
      simp only [rise] at hq
      have hp1 : prev l (i + 1) = some l[i] := by simp [prev, ci]
      simp only [go_sem, reduceIte, Nat.reduceEqDiff, Nat.reduceAdd, Nat.reduceLeDiff, Nat.reducePow, Nat.reduceDiv, Nat.reduceMod, decide_true, k0, k5, k6, k7, hp, hv]
      by_cases c1 : l[i] < 1
      · simp only [go_sem, reduceIte, Nat.reduceEqDiff, Nat.reduceAdd, Nat.reduceLeDiff, Nat.reducePow, Nat.reduceDiv, Nat.reduceMod, decide_true, decide_eq_true c1]
        rw [← hq]; simp [c1]
      by_cases c2 : 7 < l[i]
      · simp only [go_sem, reduceIte, Nat.reduceEqDiff, Nat.reduceAdd, Nat.reduceLeDiff, Nat.reducePow, Nat.reduceDiv, Nat.reduceMod, decide_true, decide_eq_false c1, decide_eq_true c2]
        rw [← hq]; simp [c2]
      by_cases c3 : 0 < (i : Int)
      · obtain ⟨j, rfl⟩ : ∃ j, i = j + 1 := ⟨i - 1, by omega⟩
        obtain ⟨p2, hp2, hv2⟩ := ha.int_at (i := j) (by omega)
        have e2 : IntKind.i64.wrap (((j + 1 : Nat) : Int) - 1) = (j : Int) := by rw [wrap_i64 (by omega)]; omega
        have hpj : prev l (j + 1) = some (l[j]'(by omega)) := by simp only [prev]; exact List.getElem?_eq_getElem (by omega)
        rw [hpj] at hq
        simp only [go_sem, reduceIte, Nat.reduceEqDiff, Nat.reduceAdd, Nat.reduceLeDiff, Nat.reducePow, Nat.reduceDiv, Nat.reduceMod, decide_true, decide_eq_false c1, decide_eq_false c2, decide_eq_true c3, k0, e2, hp2, hv2]
        by_cases c4 : l[j + 1] ≤ l[j]'(by omega)
        · simp only [go_sem, reduceIte, Nat.reduceEqDiff, Nat.reduceAdd, Nat.reduceLeDiff, Nat.reducePow, Nat.reduceDiv, Nat.reduceMod, decide_true, decide_eq_true c4]
          rw [← hq]; simp [c4]
        · simp only [go_sem, reduceIte, Nat.reduceEqDiff, Nat.reduceAdd, Nat.reduceLeDiff, Nat.reducePow, Nat.reduceDiv, Nat.reduceMod, decide_true, decide_eq_false c4, k0, k5, k6, k7, e1]
          refine ⟨_, by omega, j + 1 + 1, by simp, by omega, rfl, ?_⟩
          rw [hp1, ← hq]; simp [c1, c2, c4]
      · obtain rfl : i = 0 := by omega
        simp only [go_sem, reduceIte, Nat.reduceEqDiff, Nat.reduceAdd, Nat.reduceLeDiff, Nat.reducePow, Nat.reduceDiv, Nat.reduceMod, decide_true, decide_eq_false c1, decide_eq_false c2, decide_eq_false c3, k0, k5, k6, k7, e1]
        refine ⟨_, by omega, 1, by simp, by omega, rfl, ?_⟩
        rw [hp1, ← hq]; simp [c1, c2, prev]
    · simp at ci
      obtain rfl : i = l.length := by omega
      rw [List.drop_length] at hq
      simp only [go_sem, reduceIte, Nat.reduceEqDiff, Nat.reduceAdd, Nat.reduceLeDiff, Nat.reducePow, Nat.reduceDiv, Nat.reduceMod, decide_true]
      rw [← hq]; rfl

end Glb

/-
  Whether members are right: the program's function and the document's.
-/
namespace Glb
open Go
set_option maxRecDepth 10000
set_option maxHeartbeats 4000000

def Conf.votes (x : Conf) (n : Int) : Bool := decide (n ∈ x.old) || decide (n ∈ x.new)
theorem Conf.right_eq (x : Conf) : x.right = !(decide (x.old.length = 0) || !rise none x.old || !rise none x.new || !rise none x.learners || x.learners.any x.votes) := rfl

theorem Check_f1_ok {P : Program} {f g : FuncId} (hf : Is P f (c_quorum_Check_f1 g)) (hg : HasOk P g) {F : Nat → Prop} {h : AHeap} {x : Conf} {o n e : AV} {m : Nat} (ho : Rd F h (dInts x.old) o) (hn : Rd F h (dInts x.new) n) (hx : x.few (2^38))
    (hq : h[m]? = some (some (.arr 3 [[o, n, e]] false))) (k : Int) : ACalls P f [.int .i64 k, .ptr m 3 0 0] h fun r h' => r = .bool (x.votes k) ∧ h' = h := by
  refine fun_sound hf.1 (Nat.le_of_ble_eq_true rfl) ?_
  show vc P (c_quorum_Check_f1 g).code ⟨[(0, .int .i64 k), (1, .ptr m 3 0 0)], [], h⟩ (atEnd (c_quorum_Check_f1 g).res _)
  obtain ⟨h1, h2, h3⟩ := hx
  simp only [c_quorum_Check_f1, go_sem, reduceIte, Nat.reduceEqDiff, Nat.reduceAdd, Nat.reduceLeDiff, Nat.reducePow, Nat.reduceDiv, Nat.reduceMod, decide_true, hq]
  refine use1 hg.1 (hg.2 F _ x.old o k ho (by omega)) ?_
  by_cases c : k ∈ x.old
  · simp only [go_sem, reduceIte, Nat.reduceEqDiff, Nat.reduceAdd, Nat.reduceLeDiff, Nat.reducePow, Nat.reduceDiv, Nat.reduceMod, decide_true, decide_eq_true c]
    simp [Conf.votes, c]
  · simp only [go_sem, reduceIte, Nat.reduceEqDiff, Nat.reduceAdd, Nat.reduceLeDiff, Nat.reducePow, Nat.reduceDiv, Nat.reduceMod, decide_true, decide_eq_false c, hq]
    refine use1 hg.1 (hg.2 F _ x.new n k hn (by omega)) ?_
    simp only [go_sem, reduceIte, Nat.reduceEqDiff, Nat.reduceAdd, Nat.reduceLeDiff, Nat.reducePow, Nat.reduceDiv, Nat.reduceMod, decide_true]
    simp [Conf.votes, c]

def CheckOk (P : Program) (f : FuncId) : Prop :=
  isFn P f = true ∧ ∀ (F : Nat → Prop) (h : AHeap) (x : Conf) (a : List AV), RdL F h x.c a → x.few (2^38) → ACalls P f [.agg a] h fun r h' => r = .int .i64 (if x.right then 0 else 29) ∧ h' = h

theorem rev_clo (g : Opd → AV) (h : AHeap) (f : FuncId) (cs : List Opd) : rev g h (.clo f cs) = some (.clo f [] (cs.map g)) := Eq.trans rfl rfl

theorem quorum_Check_ok {P : Program} {f k g c s : FuncId} (hf : Is P f (c_quorum_Check k g c)) (hk : Is P k (c_quorum_Check_f1 s)) (hs : HasOk P s) (hg : RisesOk P g) (hc : CountOk P c) : CheckOk P f := by
  refine ⟨hf.2, fun F h x a ha hx => obs rfl (fun_sound hf.1 (Nat.le_of_ble_eq_true rfl) ?_)⟩
  show vc P (c_quorum_Check k g c).code ⟨[(0, .agg a)], [], h⟩ (atEnd (c_quorum_Check k g c).res _)
  obtain ⟨o, n, e, rfl, ho, hn, he⟩ := rd_conf ha
  have hx' := hx
  obtain ⟨h1, h2, h3⟩ := hx
  have lo := ho.ints_len
  simp only [c_quorum_Check, go_sem, reduceIte, Nat.reduceEqDiff, Nat.reduceAdd, Nat.reduceLeDiff, Nat.reducePow, Nat.reduceDiv, Nat.reduceMod, decide_true, rev_clo, List.map_cons, List.map_nil, ho.scalar, hn.scalar, he.scalar, lo, natCast_eq_zero]
  by_cases c0 : x.old.length = 0
  · simp only [go_sem, reduceIte, Nat.reduceEqDiff, Nat.reduceAdd, Nat.reduceLeDiff, Nat.reducePow, Nat.reduceDiv, Nat.reduceMod, decide_true, decide_eq_true c0]
    exact ⟨by simp [Conf.right_eq, c0], Ext.b1 _⟩
  simp only [go_sem, reduceIte, Nat.reduceEqDiff, Nat.reduceAdd, Nat.reduceLeDiff, Nat.reducePow, Nat.reduceDiv, Nat.reduceMod, decide_true, decide_eq_false c0]
  refine use1 hg.1 (hg.2 F _ x.old o (ho.up (Ext.b1 _)) (by omega)) ?_
  cases c1 : rise none x.old
  · simp only [go_sem, reduceIte, Nat.reduceEqDiff, Nat.reduceAdd, Nat.reduceLeDiff, Nat.reducePow, Nat.reduceDiv, Nat.reduceMod, decide_true]
    exact ⟨by simp [Conf.right_eq, c1], Ext.b1 _⟩
  simp only [go_sem, reduceIte, Nat.reduceEqDiff, Nat.reduceAdd, Nat.reduceLeDiff, Nat.reducePow, Nat.reduceDiv, Nat.reduceMod, decide_true]
  refine use1 hg.1 (hg.2 F _ x.new n (hn.up (Ext.b1 _)) (by omega)) ?_
  cases c2 : rise none x.new
  · simp only [go_sem, reduceIte, Nat.reduceEqDiff, Nat.reduceAdd, Nat.reduceLeDiff, Nat.reducePow, Nat.reduceDiv, Nat.reduceMod, decide_true]
    exact ⟨by simp [Conf.right_eq, c2], Ext.b1 _⟩
  simp only [go_sem, reduceIte, Nat.reduceEqDiff, Nat.reduceAdd, Nat.reduceLeDiff, Nat.reducePow, Nat.reduceDiv, Nat.reduceMod, decide_true]
  refine use1 hg.1 (hg.2 F _ x.learners e (he.up (Ext.b1 _)) (by omega)) ?_
  cases c3 : rise none x.learners
  · simp only [go_sem, reduceIte, Nat.reduceEqDiff, Nat.reduceAdd, Nat.reduceLeDiff, Nat.reducePow, Nat.reduceDiv, Nat.reduceMod, decide_true]
    exact ⟨by simp [Conf.right_eq, c3], Ext.b1 _⟩
  simp only [go_sem, reduceIte, Nat.reduceEqDiff, Nat.reduceAdd, Nat.reduceLeDiff, Nat.reducePow, Nat.reduceDiv, Nat.reduceMod, decide_true]
  refine use1 hc.1 (hc.2 F _ x.learners e k [] [.ptr h.length 3 0 0] x.votes (he.up (Ext.b1 _)) (by omega) hk.2 (fun m => Check_f1_ok hk hs (ho.up (Ext.b1 _)) (hn.up (Ext.b1 _)) hx' (bx10 _ _) m)) ?_
  by_cases c4 : 0 < x.learners.countP x.votes
  · have c5 : (0 : Int) < x.learners.countP x.votes := by omega
    have : x.learners.any x.votes = true := by rw [List.any_eq_true]; exact List.countP_pos_iff.1 c4
    simp only [go_sem, reduceIte, Nat.reduceEqDiff, Nat.reduceAdd, Nat.reduceLeDiff, Nat.reducePow, Nat.reduceDiv, Nat.reduceMod, decide_true, decide_eq_true c5]
    exact ⟨by simp only [Conf.right_eq, this, Bool.or_true]; rfl, Ext.b1 _⟩
  · have c5 : ¬ (0 : Int) < x.learners.countP x.votes := by omega
    have : x.learners.any x.votes = false := by rw [← Bool.not_eq_true, List.any_eq_true]; exact fun h => c4 (List.countP_pos_iff.2 h)
    simp only [go_sem, reduceIte, Nat.reduceEqDiff, Nat.reduceAdd, Nat.reduceLeDiff, Nat.reducePow, Nat.reduceDiv, Nat.reduceMod, decide_true, decide_eq_false c5]
    exact ⟨by simp only [Conf.right_eq, this, c1, c2, c3, decide_eq_false c0]; rfl, Ext.b1 _⟩

end Glb
