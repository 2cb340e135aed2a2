/-
  Layer 7: JournalKnown.
-/
import Derived.Test.YtgjgniadldlmiaaGlbJouB
import Derived.Test.YtgjgniadldlmiaaGlbKnown13
set_option linter.unusedSimpArgs false
set_option linter.unusedVariables false
namespace Glb
open Go
set_option maxRecDepth 10000
set_option maxHeartbeats 8000000

def zrow (n : Nat) : List (List AV) := List.replicate n [.int .u8 0]
def zlist (n : Nat) : List Int := List.replicate n 0
theorem zlist_len (n : Nat) : (zlist n).length = n := List.length_replicate
theorem amks_zr (h : AHeap) (n : Nat) (hn : n ≤ 2^20) : amks h 1 1 [.int .u8 0] (.int .i64 n) (.int .i64 n) = some (.ref h.length 1 0 n (some n), h ++ [some (.arr 1 (zrow n) false)]) := amks_z h n hn
theorem rd_zs {F : Nat → Prop} {H : AHeap} {m n : Nat} {g : Bool} (hb : H[m]? = some (some (.arr 1 (zrow n) g))) (hF : F m) : Rd F H (dBytes (zlist n)) (.ref m 1 0 n (some n)) :=
  rd_litF (k := .u8) (xs := List.replicate n 0) (g := g) (by rw [hb, List.map_replicate]; rfl) (by simp) hF
theorem bytes_zs (n : Nat) : bytesOk (zlist n) := fun x hx => by obtain ⟨-, rfl⟩ := List.mem_replicate.1 hx; omega
theorem many_zs (n : Nat) : many (zlist n) = max 1 ((n + 39) / 40) := by unfold many; rw [zlist_len]

end Glb
