/-
  A library of its own: its parts, one behind the other.
-/
import Derived.Test.YtdlklnoffbfjmaaGlbKitB
import Derived.Test.YtdlklnoffbfjmaaGlbLibE
import Derived.Test.YtdlklnoffbfjmaaGlbLibB
import Derived.Test.YtdlklnoffbfjmaaGlbLibD
set_option linter.unusedSimpArgs false
set_option linter.unusedVariables false
/-
  Who is enough: the program's functions and the document's answer so.
-/
namespace Glb
open Go
set_option maxRecDepth 10000
set_option maxHeartbeats 4000000

theorem Rd.int_at {F : Nat → Prop} {h : AHeap} {l : List Int} {a : AV} (hx : Rd F h (dInts l) a) {i : Nat} (hi : i < l.length) :
    ∃ p, aindex 1 a (.int .i64 i) = some p ∧ aload h false 1 p = some (.int .i64 l[i]) := by
  obtain ⟨p, cs, hp, hpc, hcs⟩ := hx.index .i64 (i := i) (d := [.int .i64 l[i]]) (by omega) (by simp [hi])
  simp only [RdL, Rd] at hcs
  obtain ⟨_, _, rfl, rfl, rfl⟩ := hcs
  exact ⟨p, hp, by rw [aload_p hpc]; exact take_one _ _ _⟩
theorem Rd.ints_len {F : Nat → Prop} {h : AHeap} {l : List Int} {a : AV} (hx : Rd F h (dInts l) a) : alen a = some (.int .i64 l.length) := by simpa using hx.len

theorem quo64 (a b : Int) : abin .quo (.int .i64 a) (.int .i64 b) = if b = 0 then none else some (.int .i64 (IntKind.i64.wrap (a.tdiv b))) := Eq.trans rfl rfl
theorem rem64 (a b : Int) : abin .rem (.int .i64 a) (.int .i64 b) = if b = 0 then none else some (.int .i64 (a.tmod b)) := Eq.trans rfl rfl

end Glb

/-
  What enough have reached: the program's function and the document's answer so.
-/
namespace Glb
open Go
set_option maxRecDepth 10000
set_option maxHeartbeats 4000000

end Glb

/-
  Lists lent and kept, a number picked; what is told of those that have reached a number.
-/
namespace Glb
open Go
set_option maxRecDepth 10000
set_option maxHeartbeats 4000000

def pick (k n : Int) : Int := if n < 1 then 0 else k % n
theorem pick_lt {k n : Int} (h : 0 < n) : 0 ≤ pick k n ∧ pick k n < n := by
  simp only [pick]; rw [if_neg (by omega)]
  exact ⟨Int.emod_nonneg _ (by omega), Int.emod_lt_of_pos _ h⟩

def PickOk (P : Program) (f : FuncId) : Prop := isFn P f = true ∧ ∀ (k n : Int), n ≤ 2^40 → Pure P f [.int .i64 k, .int .i64 n] (.int .i64 (pick k n))

theorem Pick_ok {P : Program} {f : FuncId} (hf : Is P f c_glebekit_Pick) : PickOk P f := by
  refine ⟨hf.2, fun k n hn h => fun_sound hf.1 (Nat.le_of_ble_eq_true rfl) ?_⟩
  show vc P c_glebekit_Pick.code ⟨[(0, .int .i64 k), (1, .int .i64 n)], [], h⟩ (atEnd c_glebekit_Pick.res _)
  simp only [c_glebekit_Pick, go_sem, reduceIte, Nat.reduceEqDiff, Nat.reduceAdd, Nat.reduceLeDiff, Nat.reducePow, Nat.reduceDiv, Nat.reduceMod, decide_true]
  by_cases c : n < 1
  · simp only [go_sem, reduceIte, Nat.reduceEqDiff, Nat.reduceAdd, Nat.reduceLeDiff, Nat.reducePow, Nat.reduceDiv, Nat.reduceMod, decide_true, decide_eq_true c, pick, if_pos c]
  · have z : ∀ {x : Option AV}, (if n = 0 then none else x) = x := fun {x} => if_neg (by omega)
    simp only [go_sem, reduceIte, Nat.reduceEqDiff, Nat.reduceAdd, Nat.reduceLeDiff, Nat.reducePow, Nat.reduceDiv, Nat.reduceMod, decide_true, decide_eq_false c, rem64, z, pick, if_neg c]
    have h1 : k.tmod n = if 0 ≤ k then k % n else -((-k) % n) := by
      split
      · rename_i h; exact Int.tmod_eq_emod_of_nonneg h
      · rename_i h
        have : k.tmod n = -((-k).tmod n) := by rw [Int.neg_tmod]; omega
        rw [this, Int.tmod_eq_emod_of_nonneg (by omega)]
    have h2 := Int.emod_nonneg k (show n ≠ 0 by omega)
    have h3 := Int.emod_lt_of_pos k (show 0 < n by omega)
    have h4 := Int.emod_nonneg (-k) (show n ≠ 0 by omega)
    have h5 := Int.emod_lt_of_pos (-k) (show 0 < n by omega)
    by_cases ck : k.tmod n < 0
    · have e : IntKind.i64.wrap (k.tmod n + n) = k % n := by
        have hk : ¬ 0 ≤ k := by intro hk; rw [if_pos hk] at h1; omega
        rw [if_neg hk] at h1
        rw [wrap_i64 (by omega), h1]
        have h6 : (-k) % n ≠ 0 := by omega
        have : k % n = (n - (-k) % n) % n := by
          have : n - (-k) % n = k + n * (1 + (-k) / n) := by have := Int.mul_ediv_add_emod (-k) n; rw [Int.mul_add]; omega
          rw [this, Int.add_mul_emod_self_left]
        rw [this, Int.emod_eq_of_lt (a := n - -k % n) (b := n) (by omega) (by omega)]; omega
      simp only [go_sem, reduceIte, Nat.reduceEqDiff, Nat.reduceAdd, Nat.reduceLeDiff, Nat.reducePow, Nat.reduceDiv, Nat.reduceMod, decide_true, decide_eq_true ck, e]
    · have e : k.tmod n = k % n := by
        by_cases hk : 0 ≤ k
        · rw [if_pos hk] at h1; exact h1
        · rw [if_neg hk] at h1
          have h7 : (-k) % n = 0 := by omega
          have : k % n = 0 := by have := Int.dvd_of_emod_eq_zero h7; exact Int.emod_eq_zero_of_dvd ((Int.dvd_neg).1 this)
          omega
      rw [e] at ck
      simp only [go_sem, reduceIte, Nat.reduceEqDiff, Nat.reduceAdd, Nat.reduceLeDiff, Nat.reducePow, Nat.reduceDiv, Nat.reduceMod, decide_true, e, decide_eq_false ck]

theorem ownLL_ints (k : IntKind) (F : Nat → Prop) (h : AHeap) : ∀ l : List Int, OwnLL (l.map fun n => [.int k n]) F h (l.map fun n => [AV.int k n])
  | [] => by simp only [List.map_nil, OwnLL]
  | n :: l => by simp only [List.map_cons, OwnLL, OwnL, Own]; exact ⟨_, _, rfl, ⟨_, _, rfl, rfl, rfl⟩, ownLL_ints k F h l⟩
end Glb

/-
  What is agreed: of it enough have reached it, and of no greater number.
-/
namespace Glb
open Go
set_option maxRecDepth 10000
set_option maxHeartbeats 4000000

end Glb
