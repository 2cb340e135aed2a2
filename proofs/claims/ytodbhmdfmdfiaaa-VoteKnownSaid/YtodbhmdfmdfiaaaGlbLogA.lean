/-
  A library of its own: its parts, one behind the other.
-/
import Derived.Test.YtodbhmdfmdfiaaaGlbKitA
import Derived.Test.YtodbhmdfmdfiaaaGlbCrlog
import Derived.Test.YtodbhmdfmdfiaaaGlbCgleberef11
set_option linter.unusedSimpArgs false
set_option linter.unusedVariables false
/-
  A group's log: what it tells of itself; the program's functions and the document's do so.
-/
namespace Glb
open Go
set_option maxRecDepth 10000

/-- a log that may be -/
def LogOk (l : Log) : Prop := 0 ≤ l.base ∧ l.base ≤ 2^41 ∧ SmallEntries l.es

def Log.last (l : Log) : Int := l.base + l.es.length
def Log.lastTerm (l : Log) : Int := match l.es[l.es.length - 1]? with
  | some e => e.term
  | none => l.bterm
def LastOk (P : Program) (f : FuncId) : Prop :=
  isFn P f = true ∧ ∀ (F : Nat → Prop) (h : AHeap) (l : Log) (a : List AV), RdL F h l.c a → LogOk l →
    ACalls P f [.agg a] h fun r h' => r = .tup [.int .i64 l.last, .int .i64 l.lastTerm] ∧ h' = h

theorem rlog_Last_ok {P : Program} {f : FuncId} (hf : Is P f c_rlog_Last) : LastOk P f := by
  refine ⟨hf.2, fun F h l a hl ok => obs (upto_tup2 (upto_int _ _ _) (upto_int _ _ _)) (fun_sound hf.1 (Nat.le_of_ble_eq_true rfl) ?_)⟩
  show vc P c_rlog_Last.code ⟨[(0, .agg a)], [], h⟩ (atEnd c_rlog_Last.res _)
  simp only [Log.c, RdL, Rd] at hl
  obtain ⟨_, _, rfl, rfl, _, _, rfl, rfl, d, _, rfl, hl, rfl⟩ := hl
  have ll := hl.len
  simp only [List.length_map] at ll
  obtain ⟨o1, o2, o3, o4⟩ := ok
  simp only [c_rlog_Last, go_sem, reduceIte, Nat.reduceEqDiff, Nat.reduceAdd, Nat.reduceLeDiff, Nat.reducePow, Nat.reduceDiv, Nat.reduceMod, decide_true, hl.scalar, cells_of hl.scalar, ll]
  refine wCond_split (fun c => ?_) (fun c => ?_)
  · simp at c
    have e1 : IntKind.i64.wrap (l.base + ↑l.es.length) = l.base + ↑l.es.length := wrap_i64 (by omega)
    have e2 : IntKind.i64.wrap ((l.es.length : Int) - 1) = (l.es.length : Int) - 1 := wrap_i64 (by omega)
    have hlt : l.es.length - 1 < l.es.length := by first | omega | (have := List.length_pos_iff.2 c; omega)
    have ht : ((l.es.length : Int) - 1).toNat = l.es.length - 1 := by omega
    obtain ⟨p, cs, hp, hpc, hcs⟩ := hl.index .i64 (i := (l.es.length : Int) - 1) (d := (l.es[l.es.length - 1]).c) (by omega) (by rw [ht]; simp [hlt])
    simp only [Entry.c, RdL, Rd] at hcs
    obtain ⟨_, _, rfl, rfl, _, _, rfl, rfl, d', _, rfl, _, rfl⟩ := hcs
    have hpc1 := pup hpc (Ext.b1 (some (.arr 3 [[.int .i64 l.base, .int .i64 l.bterm, d]] false)))
    simp only [go_sem, reduceIte, Nat.reduceEqDiff, Nat.reduceAdd, Nat.reduceLeDiff, Nat.reducePow, Nat.reduceDiv, Nat.reduceMod, decide_true, e1, e2, hp, afield_p hpc, aload_off hpc1]
    refine ⟨?_, Ext.b1 _⟩
    simp [Log.last, Log.lastTerm, hlt]
  · simp at c
    simp only [go_sem, reduceIte, Nat.reduceEqDiff, Nat.reduceAdd, Nat.reduceLeDiff, Nat.reducePow, Nat.reduceDiv, Nat.reduceMod, decide_true]
    refine ⟨?_, Ext.b1 _⟩
    simp [Log.last, Log.lastTerm, c]

/-- is a last entry not elder than a log's -/
def Log.newer (l : Log) (index term : Int) : Bool := decide (l.lastTerm < term) || (decide (term = l.lastTerm) && decide (l.last ≤ index))

def NewerOk (P : Program) (f : FuncId) : Prop :=
  isFn P f = true ∧ ∀ (F : Nat → Prop) (h : AHeap) (l : Log) (a : List AV) (i t : Int), RdL F h l.c a → LogOk l →
    ACalls P f [.agg a, .int .i64 i, .int .i64 t] h fun r h' => r = .bool (l.newer i t) ∧ h' = h

theorem rlog_Newer_ok {P : Program} {f g : FuncId} (hf : Is P f (c_rlog_Newer g)) (hg : LastOk P g) : NewerOk P f := by
  refine ⟨hf.2, fun F h l a i t hl ok => obs (upto_bool _ _) (fun_sound hf.1 (Nat.le_of_ble_eq_true rfl) ?_)⟩
  show vc P (c_rlog_Newer g).code ⟨[(0, .agg a), (1, .int .i64 i), (2, .int .i64 t)], [], h⟩ (atEnd (c_rlog_Newer g).res _)
  have hl0 := hl
  simp only [Log.c, RdL, Rd] at hl
  obtain ⟨_, _, rfl, rfl, _, _, rfl, rfl, d, _, rfl, hl, rfl⟩ := hl
  simp only [c_rlog_Newer, go_sem, reduceIte, Nat.reduceEqDiff, Nat.reduceAdd, Nat.reduceLeDiff, Nat.reducePow, Nat.reduceDiv, Nat.reduceMod, decide_true, hl.scalar, cells_of hl.scalar]
  refine wCall_use ⟨hg.1, hg.2 F _ l _ (hl0.up (Ext.b1 _)) ok⟩ ?_
  rintro _ _ ⟨rfl, rfl⟩
  simp only [go_sem, reduceIte, Nat.reduceEqDiff, Nat.reduceAdd, Nat.reduceLeDiff, Nat.reducePow, Nat.reduceDiv, Nat.reduceMod, decide_true]
  repeat' (first
    | refine wGuardT (fun _ => ?_) (fun _ => ?_)
    | refine wGuardF (fun _ => ?_) (fun _ => ?_)
    | refine wCond_split (fun _ => ?_) (fun _ => ?_)
    | simp only [go_sem, reduceIte, Nat.reduceEqDiff, Nat.reduceAdd, Nat.reduceLeDiff, Nat.reducePow, Nat.reduceDiv, Nat.reduceMod, decide_true, *])
  all_goals refine ⟨?_, Ext.b1 _⟩
  all_goals simp_all [Log.newer]
end Glb

/-
  A group's log: entries laid behind an index, and a log cut; the program's functions and the document's do so.
-/
namespace Glb
open Go
set_option maxRecDepth 10000

end Glb

/-
  A group's log: what the document says of entries that are laid behind an index; and logs cut.
-/
namespace Glb
open Go
set_option maxRecDepth 10000

end Glb
