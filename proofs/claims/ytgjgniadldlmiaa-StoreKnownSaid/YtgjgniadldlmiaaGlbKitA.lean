/-
  A library of its own: its parts, one behind the other.
-/
import Derived.Test.YtgjgniadldlmiaaGlbLibD
import Derived.Test.YtgjgniadldlmiaaGlbCglebekit
set_option linter.unusedSimpArgs false
set_option linter.unusedVariables false
/-
  The data of the program.
-/
namespace Glb
open Go

def dBytes (l : List Int) : D := .sl 1 (l.map fun n => [.int .u8 n])
def dInts (l : List Int) : D := .sl 1 (l.map fun n => [.int .i64 n])

structure Entry where
  term : Int
  kind : Int
  data : List Int
  deriving DecidableEq

def Entry.c (e : Entry) : List D := [.int .i64 e.term, .int .i64 e.kind, dBytes e.data]
def dEntries (l : List Entry) : D := .sl 3 (l.map Entry.c)

structure Log where
  base : Int
  bterm : Int
  es : List Entry
  deriving DecidableEq

end Glb

/-
  Functions of the kit of the statements: lists held against one another, copied, written over.
-/
namespace Glb
open Go
set_option maxRecDepth 10000


/-- two lists of numbers are the same -/
def SameOk (P : Program) (f : FuncId) (k : IntKind) : Prop :=
  isFn P f = true ∧ ∀ (F : Nat → Prop) (h : AHeap) (x y : List Int) (a b : AV), Rd F h (.sl 1 (x.map fun n => [.int k n])) a → Rd F h (.sl 1 (y.map fun n => [.int k n])) b → x.length ≤ 2^40 →
    ACalls P f [a, b] h fun r h' => r = .bool (decide (x = y)) ∧ h' = h

theorem same_ok {P : Program} {f : FuncId} (k : IntKind) (hf : Is P f c_glebekit_SameBytes) : SameOk P f k := by
  refine ⟨hf.2, fun F h x y a b hx hy hl => fun_sound hf.1 (Nat.le_of_ble_eq_true rfl) ?_⟩
  show vc P c_glebekit_SameBytes.code ⟨[(0, a), (1, b)], [], h⟩ (atEnd c_glebekit_SameBytes.res _)
  have lx := hx.len
  have ly := hy.len
  simp only [List.length_map] at lx ly
  simp only [c_glebekit_SameBytes, go_sem, reduceIte, Nat.reduceEqDiff, Nat.reduceAdd, Nat.reduceLeDiff, Nat.reducePow, Nat.reduceDiv, Nat.reduceMod, decide_true, lx, ly]
  refine wCond_split (fun c => ?_) (fun c => ?_)
  · simp only [go_sem, reduceIte, Nat.reduceEqDiff, Nat.reduceAdd, Nat.reduceLeDiff, Nat.reducePow, Nat.reduceDiv, Nat.reduceMod, decide_true]
    simp at c
    simp; rintro rfl; exact c rfl
  · simp only [go_sem, reduceIte, Nat.reduceEqDiff, Nat.reduceAdd, Nat.reduceLeDiff, Nat.reducePow, Nat.reduceDiv, Nat.reduceMod, decide_true]
    simp at c
    have c' : x.length = y.length := by omega
    refine vc_loop (fun m L h' => ∃ i : Nat, lk 0 L = a ∧ lk 1 L = b ∧ lk 5 L = .int .i64 i ∧ h' = h ∧ i ≤ x.length ∧ m = x.length - i ∧ ∀ j : Nat, j < i → x[j]? = y[j]?) x.length ?_ ?_
    · exact ⟨0, by simp [lk_ins, lk_cons], by simp [lk_ins, lk_cons], by simp [lk_ins], rfl, by omega, by omega, by omega⟩
    · rintro m L h' ⟨i, h0, h1, h5, rfl, hi, rfl, hj⟩
      simp only [c_glebekit_SameBytes_l0, go_sem, reduceIte, Nat.reduceEqDiff, Nat.reduceAdd, Nat.reduceLeDiff, Nat.reducePow, Nat.reduceDiv, Nat.reduceMod, decide_true, lx, h0, h1, h5]
      refine wCond_split (fun ci => ?_) (fun ci => ?_)
      · simp at ci
        have iy : i < y.length := by omega
        obtain ⟨p, cs, hp, hpc, hcs⟩ := hx.index .i64 (i := i) (d := [.int k x[i]]) (by omega) (by simp [ci])
        obtain ⟨q, cs', hq, hqc, hcs'⟩ := hy.index .i64 (i := i) (d := [.int k y[i]]) (by omega) (by simp [iy])
        simp only [RdL, Rd] at hcs hcs'
        obtain ⟨_, _, rfl, rfl, rfl⟩ := hcs
        obtain ⟨_, _, rfl, rfl, rfl⟩ := hcs'
        have e : IntKind.i64.wrap (↑i + 1) = (i : Int) + 1 := wrap_i64 (by omega)
        simp only [go_sem, reduceIte, Nat.reduceEqDiff, Nat.reduceAdd, Nat.reduceLeDiff, Nat.reducePow, Nat.reduceDiv, Nat.reduceMod, decide_true, h0, h1, h5, hp, hq, aload_p hpc, aload_p hqc]
        refine wCond_split (fun ce => ?_) (fun ce => ?_)
        · simp only [go_sem, reduceIte, Nat.reduceEqDiff, Nat.reduceAdd, Nat.reduceLeDiff, Nat.reducePow, Nat.reduceDiv, Nat.reduceMod, decide_true]
          simp at ce
          simp; rintro rfl; exact ce rfl
        · simp only [go_sem, reduceIte, Nat.reduceEqDiff, Nat.reduceAdd, Nat.reduceLeDiff, Nat.reducePow, Nat.reduceDiv, Nat.reduceMod, decide_true, h0, h1, h5, e]
          simp at ce
          refine ⟨_, ?_, i + 1, by simp, ci, rfl, fun j hj' => ?_⟩
          · omega
          · rcases Nat.lt_or_ge j i with hlt | hge
            · exact hj j hlt
            · obtain rfl : j = i := by omega
              simp [ci, iy, ce]
      · simp at ci
        simp only [go_sem, reduceIte, Nat.reduceEqDiff, Nat.reduceAdd, Nat.reduceLeDiff, Nat.reducePow, Nat.reduceDiv, Nat.reduceMod, decide_true, lx, h0, h1, h5]
        obtain rfl : i = x.length := by omega
        have : x = y := by
          apply List.ext_getElem?
          intro j
          rcases Nat.lt_or_ge j x.length with hlt | hge
          · exact hj j hlt
          · rw [List.getElem?_eq_none hge, List.getElem?_eq_none (by omega)]
        simp [this]

theorem SameBytes_ok {P : Program} {f : FuncId} (hf : Is P f c_glebekit_SameBytes) : SameOk P f .u8 := same_ok .u8 hf
end Glb

/-
  Functions of the kit of the statements: entries and logs.
-/
namespace Glb
open Go
set_option maxRecDepth 10000

theorem mnmx_min (k : IntKind) (a b : Int) : amnmx false [.int k a, .int k b] = some (.int k (min a b)) := by
  simp only [amnmx, amnmx.aux]
  by_cases h : b < a
  · simp [h]; omega
  · simp [h]; omega
theorem mnmx_max (k : IntKind) (a b : Int) : amnmx true [.int k a, .int k b] = some (.int k (max a b)) := by
  simp only [amnmx, amnmx.aux]
  by_cases h : a < b
  · simp [h]; omega
  · simp [h]; omega
theorem rev_mnmx (g : Opd → AV) (h : AHeap) (m : Bool) (xs : List Opd) : rev g h (.mnmx m xs) = amnmx m (xs.map g) := rfl

end Glb

/-
  Functions of the kit of the statements: entries and logs, copied and written over.
-/
namespace Glb
open Go
set_option maxRecDepth 10000

end Glb

/-
  Messages and flows; whether a message is big, a message copied.
-/
namespace Glb
open Go
set_option maxRecDepth 10000
set_option maxHeartbeats 4000000

end Glb
