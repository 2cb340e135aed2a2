/-
  The chapter's examples of layer 13: the law ImageKnown.
-/
import Derived.Test.YtgjgniadldlmiaaGlbTurA
set_option linter.unusedSimpArgs false
set_option linter.unusedVariables false
namespace Glb
open Go
set_option maxRecDepth 10000
set_option maxHeartbeats 16000000

theorem amks_z (h : AHeap) (n : Nat) (hn : n ≤ 2^20) : amks h 1 1 [.int .u8 0] (.int .i64 n) (.int .i64 n) = some (.ref h.length 1 0 n (some n), h ++ [some (.arr 1 (List.replicate n [.int .u8 0]) false)]) := by
  rw [amks_int (by omega) (by omega) (by omega)]; simp
theorem rd_lit {H : AHeap} {n len : Nat} {k : IntKind} {xs : List Int} {g : Bool} (hb : H[n]? = some (some (.arr 1 (xs.map fun n => [AV.int k n]) g))) (hl : xs.length = len) : Rd (fun _ => True) H (.sl 1 (xs.map fun n => [.int k n])) (.ref n 1 0 len (some len)) :=
  Own.rd (F := fun _ => True) _ (fun _ x => x) _ (own_row hb (by simpa using hl) (by simpa using hl) trivial (ownLL_ints k _ H xs))

theorem ix_lit (n len i : Nat) (cap : Option Nat) (k : IntKind) (hi : i < len) : aindex 1 (.ref n 1 0 len cap) (.int k i) = some (.ptr n 1 i 0) := by
  simp only [aindex]; rw [if_pos ⟨trivial, by omega, by omega⟩]; simp
theorem ld_lit {H : AHeap} {n i : Nat} {xs : List Int} {g : Bool} (hb : H[n]? = some (some (.arr 1 (xs.map fun n => [AV.int .i64 n]) g))) (hi : i < xs.length) : aload H false 1 (.ptr n 1 i 0) = some (.int .i64 xs[i]) := by
  obtain ⟨p, hp, hv⟩ := (rd_lit (k := .i64) hb rfl).int_at hi
  rw [ix_lit n xs.length i _ _ hi] at hp
  cases hp
  exact hv

end Glb
