/-
  A library of its own: its parts, one behind the other.
-/
import Derived.Test.YtodbhmdfmdfiaaaGlbQuoA
import Derived.Sort.Grow
set_option linter.unusedSimpArgs false
set_option linter.unusedVariables false
/-
  A list of numbers of one's own, sorted by the library.
-/
namespace Glb
open Go
set_option maxRecDepth 10000
set_option maxHeartbeats 4000000

/-- the library's contract -/
structure SortKit (P : Program) (f : FuncId) : Prop where
  is : isFn P f = true
  some_ : ∀ (blk off cap : Nat) (zs : List Int) (w : World), Go.Sort.Holds (Value.int .i64) w blk off zs.toArray → blk < w.heap.size → zs.length < 4611686018427387904 →
    Calls P f #[.slice (some ⟨blk, off, none⟩) zs.length cap] w fun e w' => e = .returned (.tuple #[]) ∧ ∃ n os, w' = Go.Sort.grow (Go.Sort.putRow (Value.int .i64) (Go.Sort.ahead w n) blk off (zs.mergeSort fun x y => decide (x ≤ y)).toArray) os
  none_ : ∀ (p : Option Addr) (cap : Nat) (w : World), Calls P f #[.slice p 0 cap] w fun e w' => e = .returned (.tuple #[]) ∧ w' = w

def sorted (l : List Int) : List Int := l.mergeSort fun x y => decide (x ≤ y)
end Glb

/-
  Numbers of lists, rising, each once: what they are, and the library's way.
-/
namespace Glb
open Go
set_option maxRecDepth 10000
set_option maxHeartbeats 4000000

/-! rising lists -/

/-! each once, of a list in order -/

end Glb

/-
  Numbers of lists, rising, each once: the program's functions and the document's.
-/
namespace Glb
open Go
set_option maxRecDepth 10000
set_option maxHeartbeats 4000000

theorem rev_xo (g : Opd → AV) (h : AHeap) (x : XOp) : rev g h (.x x) = xev g x := Eq.trans rfl rfl
end Glb

/-
  Each number once: the library's slices.Compact.
-/
namespace Glb
open Go
set_option maxRecDepth 10000
set_option maxHeartbeats 4000000

/-- numbers at a place of a row of one's own -/
def OwnI (n off : Nat) (cap : Option Nat) (l : List Int) (F : Nat → Prop) (h : AHeap) : Prop :=
  F n ∧ ∃ row g, h[n]? = some (some (.arr 1 row g)) ∧ off + l.length ≤ row.length ∧ capLe cap l.length ∧ (row.drop off).take l.length = l.map fun n => [.int .i64 n]

theorem OwnI.own {n off : Nat} {cap : Option Nat} {l : List Int} {F : Nat → Prop} {h : AHeap} (ho : OwnI n off cap l F h) {k : Nat} (hk : k ≤ l.length) : Own (dInts (l.take k)) F h (.ref n 1 off k cap) := by
  obtain ⟨hF, row, g, hrow, hle, hcap, hes⟩ := ho
  have hl : (l.take k).length = k := by simp; omega
  simp only [dInts, Own, List.length_map, hl]
  refine .inr (.inr ⟨n, off, cap, row, g, rfl, hF, hrow, by omega, fun c hc => by have := hcap c hc; omega, ?_⟩)
  have : (row.drop off).take k = (l.take k).map fun n => [.int .i64 n] := by
    have := congrArg (List.take k) hes
    rw [List.take_take, Nat.min_eq_left hk, ← List.map_take] at this
    exact this
  rw [this]
  exact ownLL_ints .i64 _ _ _

theorem OwnI.put {n off : Nat} {cap : Option Nat} {l : List Int} {F : Nat → Prop} {h : AHeap} (ho : OwnI n off cap l F h) {k : Nat} (hk : k < l.length) (v : Int) :
    ∃ h', astore h 1 (.ptr n 1 (off + k) 0) (.int .i64 v) = some h' ∧ OwnI n off cap (l.set k v) F h' ∧ Ext F h h' := by
  obtain ⟨hF, row, g, hrow, hle, hcap, hes⟩ := ho
  have h1 : ((row.drop off).take l.length)[k]? = some [.int .i64 l[k]] := by rw [hes]; simp [hk]
  rw [List.getElem?_take_of_lt hk, List.getElem?_drop] at h1
  have hlt := (List.getElem?_eq_some_iff.1 hrow).1
  refine ⟨_, astore_elem (x := .int .i64 v) hrow h1 rfl rfl rfl rfl, ⟨hF, _, g, List.getElem?_set_self hlt, by simpa using hle, by simpa using hcap, ?_⟩, Ext.set _ (fun _ => hF)⟩
  rw [List.drop_set, if_neg (by omega), List.length_set, List.take_set, hes, List.map_set, show off + k - off = k by omega]

end Glb

/-
  Who votes, who belongs to members, whether they are right: the program's functions and the document's.
-/
namespace Glb
open Go
set_option maxRecDepth 10000
set_option maxHeartbeats 4000000

/-! the document's -/

/-- a list told, or none where it is empty -/
def ReadsI (l : List Int) (a : AV) : Prop := (a = .nils ∧ l = []) ∨ a = aints l
theorem ReadsI.nils : ReadsI [] .nils := .inl ⟨rfl, rfl⟩
theorem ReadsI.a (l : List Int) : ReadsI l (aints l) := .inr rfl
theorem ReadsI.rd {l : List Int} {a : AV} (h : ReadsI l a) (F : Nat → Prop) (H : AHeap) : Rd F H (dInts l) a := by
  rcases h with ⟨rfl, rfl⟩ | rfl
  · exact Rd.nils 1
  · exact rd_aints _ _ _
theorem ReadsI.upto {l : List Int} {a : AV} (h : ReadsI l a) (k : Nat) : a.upto k = true := by
  rcases h with ⟨rfl, _⟩ | rfl
  · rfl
  · exact upto_av _ _

/-! right members -/

def rise : Option Int → List Int → Bool
  | _, [] => true
  | p, x :: r => !(decide (x < 1) || decide (7 < x) || (match p with | none => false | some y => decide (x ≤ y))) && rise (some x) r
def prev (l : List Int) : Nat → Option Int
  | 0 => none
  | i + 1 => l[i]?
def Conf.right (x : Conf) : Bool := !(decide (x.old.length = 0) || !rise none x.old || !rise none x.new || !rise none x.learners || x.learners.any fun n => decide (n ∈ x.old) || decide (n ∈ x.new))

end Glb

/-
  Whether members are right: the program's function and the document's.
-/
namespace Glb
open Go
set_option maxRecDepth 10000
set_option maxHeartbeats 4000000

def Conf.votes (x : Conf) (n : Int) : Bool := decide (n ∈ x.old) || decide (n ∈ x.new)
theorem rev_clo (g : Opd → AV) (h : AHeap) (f : FuncId) (cs : List Opd) : rev g h (.clo f cs) = some (.clo f [] (cs.map g)) := Eq.trans rfl rfl

end Glb
