/-
  A library of its own: its parts, one behind the other.
-/
import Derived.Test.YtdeiamnhnfmilaaGreatGlbLibD
import Derived.Test.YtdeiamnhnfmilaaGreatGlbLibB
set_option linter.unusedSimpArgs false
set_option linter.unusedVariables false
namespace Glb
open Go
def dBytes (l : List Int) : D := .sl 1 (l.map fun n => [.int .u8 n])
def dInts (l : List Int) : D := .sl 1 (l.map fun n => [.int .i64 n])
structure Entry where
 term : Int
 kind : Int
 data : List Int
 deriving DecidableEq
def Entry.c (e : Entry) : List D := [.int .i64 e.term, .int .i64 e.kind, dBytes e.data]
def dEntries (l : List Entry) : D := .sl 3 (l.map Entry.c)
structure Log where
 base : Int
 bterm : Int
 es : List Entry
 deriving DecidableEq
def Log.c (l : Log) : List D := [.int .i64 l.base, .int .i64 l.bterm, dEntries l.es]
theorem obs {P : Program} {f : FuncId} {avs : List AV} {h : AHeap} {b : AV} (hb : b.upto h.length = true) (hc : ACalls P f avs h fun r h' => r = b /\ Ext nof h h') : ACalls P f avs h fun r h' => r = b /\ h' = h :=
 (ACalls.trunc (K' := fun r => r = b) hc fun r h' hk => ⟨hk.2, by rw [hk.1]; exact hb, hk.1⟩).mono fun _ _ hk => ⟨hk.2, hk.1⟩
theorem upto_int (n : Nat) (k : IntKind) (x : Int) : (AV.int k x).upto n = true := by simp only [AV.upto]
theorem upto_bool (n : Nat) (b : Bool) : (AV.bool b).upto n = true := by simp only [AV.upto]
theorem upto_tup2 {n : Nat} {x y : AV} (h : x.upto n = true) (h' : y.upto n = true) : (AV.tup [x, y]).upto n = true := by simp only [AV.upto, AV.uptoL, h, h', Bool.and_self]
end Glb
namespace Glb
open Go
set_option maxRecDepth 10000
end Glb
namespace Glb
open Go
set_option maxRecDepth 10000
theorem mnmx_min (k : IntKind) (a b : Int) : amnmx false [.int k a, .int k b] = some (.int k (min a b)) := by
 simp only [amnmx, amnmx.aux]
 by_cases h : b < a
 ·simp [h]; omega
 ·simp [h]; omega
theorem mnmx_max (k : IntKind) (a b : Int) : amnmx true [.int k a, .int k b] = some (.int k (max a b)) := by
 simp only [amnmx, amnmx.aux]
 by_cases h : a < b
 ·simp [h]; omega
 ·simp [h]; omega
theorem rev_mnmx (g : Opd -> AV) (h : AHeap) (m : Bool) (xs : List Opd) : rev g h (.mnmx m xs) = amnmx m (xs.map g) := rfl
end Glb
namespace Glb
open Go
set_option maxRecDepth 10000
def SmallEntries (l : List Entry) : Prop := l.length <= 2^30 /\ ∀ e ∈ l, e.data.length <= 2^40
def CopyEntriesOk (P : Program) (f : FuncId) : Prop :=
 isFn P f = true /\ ∀ (F : Nat -> Prop) (h : AHeap) (x : List Entry) (a : AV), Rd F h (dEntries x) a -> SmallEntries x ->
  ACalls P f [a] h fun r h' => Own (dEntries x) (fun m => h.length <= m) h' r /\ canApp h' r /\ Ext nof h h'
end Glb
namespace Glb
open Go
set_option maxRecDepth 10000
set_option maxHeartbeats 4000000
structure Msg where
 kind : Int
 from_ : Int
 to : Int
 group : Int
 term : Int
 index : Int
 prev : Int
 commit : Int
 round : Int
 txn : Int
 part : Int
 ballot : Int
 value : Int
 seq : Int
 ok : Bool
 es : List Entry
 data : List Int
 deriving DecidableEq
def Msg.c (m : Msg) : List D := [.int .i64 m.kind, .int .i64 m.from_, .int .i64 m.to, .int .i64 m.group, .int .i64 m.term, .int .i64 m.index, .int .i64 m.prev, .int .i64 m.commit, .int .i64 m.round, .int .i64 m.txn, .int .i64 m.part, .int .i64 m.ballot,
 .int .i64 m.value, .int .i64 m.seq, .bool m.ok, dEntries m.es, dBytes m.data]
def Msg.cells (m : Msg) (e d : AV) : List AV := [.int .i64 m.kind, .int .i64 m.from_, .int .i64 m.to, .int .i64 m.group, .int .i64 m.term, .int .i64 m.index, .int .i64 m.prev, .int .i64 m.commit, .int .i64 m.round, .int .i64 m.txn, .int .i64 m.part, .int .i64 m.ballot,
 .int .i64 m.value, .int .i64 m.seq, .bool m.ok, e, d]
theorem rdL_int {F h k n ds a} : RdL F h (.int k n :: ds) a ↔ ∃ r, a = .int k n :: r /\ RdL F h ds r := by
 simp only [RdL, Rd]
 constructor
 ·rintro ⟨x, r, h1, h2, h3⟩; subst h2; exact ⟨r, h1, h3⟩
 ·rintro ⟨r, h1, h3⟩; exact ⟨_, r, h1, rfl, h3⟩
theorem rdL_bool {F h n ds a} : RdL F h (.bool n :: ds) a ↔ ∃ r, a = .bool n :: r /\ RdL F h ds r := by
 simp only [RdL, Rd]
 constructor
 ·rintro ⟨x, r, h1, h2, h3⟩; subst h2; exact ⟨r, h1, h3⟩
 ·rintro ⟨r, h1, h3⟩; exact ⟨_, r, h1, rfl, h3⟩
theorem rd_msg {m : Msg} {F : Nat -> Prop} {h : AHeap} {a : List AV} (hh : RdL F h m.c a) : ∃ e d, a = m.cells e d /\ Rd F h (dEntries m.es) e /\ Rd F h (dBytes m.data) d := by
 simp only [Msg.c, rdL_int, rdL_bool] at hh
 obtain ⟨_, rfl, _, rfl, _, rfl, _, rfl, _, rfl, _, rfl, _, rfl, _, rfl, _, rfl, _, rfl, _, rfl, _, rfl, _, rfl, _, rfl, _, rfl, hh⟩ := hh
 simp only [RdL] at hh
 obtain ⟨e, _, rfl, he, d, _, rfl, hd, rfl⟩ := hh
 exact ⟨e, d, rfl, he, hd⟩
end Glb
