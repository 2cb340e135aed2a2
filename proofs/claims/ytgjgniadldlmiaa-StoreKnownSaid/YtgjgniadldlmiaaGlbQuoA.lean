/-
  A library of its own: its parts, one behind the other.
-/
import Derived.Test.YtgjgniadldlmiaaGlbKitB
import Derived.Test.YtgjgniadldlmiaaGlbLibE
import Derived.Test.YtgjgniadldlmiaaGlbLibB
import Derived.Test.YtgjgniadldlmiaaGlbLibD
set_option linter.unusedSimpArgs false
set_option linter.unusedVariables false
/-
  Who is enough: the program's functions and the document's answer so.
-/
namespace Glb
open Go
set_option maxRecDepth 10000
set_option maxHeartbeats 4000000

theorem Rd.int_at {F : Nat → Prop} {h : AHeap} {l : List Int} {a : AV} (hx : Rd F h (dInts l) a) {i : Nat} (hi : i < l.length) :
    ∃ p, aindex 1 a (.int .i64 i) = some p ∧ aload h false 1 p = some (.int .i64 l[i]) := by
  obtain ⟨p, cs, hp, hpc, hcs⟩ := hx.index .i64 (i := i) (d := [.int .i64 l[i]]) (by omega) (by simp [hi])
  simp only [RdL, Rd] at hcs
  obtain ⟨_, _, rfl, rfl, rfl⟩ := hcs
  exact ⟨p, hp, by rw [aload_p hpc]; exact take_one _ _ _⟩
theorem Rd.ints_len {F : Nat → Prop} {h : AHeap} {l : List Int} {a : AV} (hx : Rd F h (dInts l) a) : alen a = some (.int .i64 l.length) := by simpa using hx.len

theorem quo64 (a b : Int) : abin .quo (.int .i64 a) (.int .i64 b) = if b = 0 then none else some (.int .i64 (IntKind.i64.wrap (a.tdiv b))) := Eq.trans rfl rfl
end Glb

/-
  What enough have reached: the program's function and the document's answer so.
-/
namespace Glb
open Go
set_option maxRecDepth 10000
set_option maxHeartbeats 4000000

end Glb

/-
  Lists lent and kept, a number picked; what is told of those that have reached a number.
-/
namespace Glb
open Go
set_option maxRecDepth 10000
set_option maxHeartbeats 4000000

def pick (k n : Int) : Int := if n < 1 then 0 else k % n
theorem ownLL_ints (k : IntKind) (F : Nat → Prop) (h : AHeap) : ∀ l : List Int, OwnLL (l.map fun n => [.int k n]) F h (l.map fun n => [AV.int k n])
  | [] => by simp only [List.map_nil, OwnLL]
  | n :: l => by simp only [List.map_cons, OwnLL, OwnL, Own]; exact ⟨_, _, rfl, ⟨_, _, rfl, rfl, rfl⟩, ownLL_ints k F h l⟩
end Glb

/-
  What is agreed: of it enough have reached it, and of no greater number.
-/
namespace Glb
open Go
set_option maxRecDepth 10000
set_option maxHeartbeats 4000000

end Glb
