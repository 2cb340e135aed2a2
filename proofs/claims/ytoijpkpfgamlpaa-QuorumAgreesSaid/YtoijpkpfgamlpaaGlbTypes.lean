/-
  The data of the program.
-/
import Derived.Test.YtoijpkpfgamlpaaGlbOwnT
set_option linter.unusedSimpArgs false
set_option linter.unusedVariables false
namespace Glb
open Go

def dBytes (l : List Int) : D := .sl 1 (l.map fun n => [.int .u8 n])
def dInts (l : List Int) : D := .sl 1 (l.map fun n => [.int .i64 n])

structure Entry where
  term : Int
  kind : Int
  data : List Int
  deriving DecidableEq

theorem Entry.dec (x y : Entry) : decide (x = y) = (decide (x.term = y.term) && (decide (x.kind = y.kind) && decide (x.data = y.data))) := by
  cases x; cases y; simp [Bool.decide_and]
def Entry.c (e : Entry) : List D := [.int .i64 e.term, .int .i64 e.kind, dBytes e.data]
def dEntries (l : List Entry) : D := .sl 3 (l.map Entry.c)

structure Log where
  base : Int
  bterm : Int
  es : List Entry
  deriving DecidableEq

theorem Log.dec (x y : Log) : decide (x = y) = (decide (x.base = y.base) && (decide (x.bterm = y.bterm) && decide (x.es = y.es))) := by
  cases x; cases y; simp [Bool.decide_and]
def Log.c (l : Log) : List D := [.int .i64 l.base, .int .i64 l.bterm, dEntries l.es]

/-- an answer that is told by a value that names nothing, whatever was made on the way -/
theorem obs {P : Program} {f : FuncId} {avs : List AV} {h : AHeap} {b : AV} (hb : b.upto h.length = true) (hc : ACalls P f avs h fun r h' => r = b ∧ Ext nof h h') : ACalls P f avs h fun r h' => r = b ∧ h' = h :=
  (ACalls.trunc (K' := fun r => r = b) hc fun r h' hk => ⟨hk.2, by rw [hk.1]; exact hb, hk.1⟩).mono fun _ _ hk => ⟨hk.2, hk.1⟩

theorem upto_int (n : Nat) (k : IntKind) (x : Int) : (AV.int k x).upto n = true := by simp only [AV.upto]
theorem upto_bool (n : Nat) (b : Bool) : (AV.bool b).upto n = true := by simp only [AV.upto]
theorem upto_tup2 {n : Nat} {x y : AV} (h : x.upto n = true) (h' : y.upto n = true) : (AV.tup [x, y]).upto n = true := by simp only [AV.upto, AV.uptoL, h, h', Bool.and_self]

end Glb
