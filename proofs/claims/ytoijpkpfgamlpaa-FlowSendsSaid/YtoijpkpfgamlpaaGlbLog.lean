/-
  A group's log: what it tells of itself; the program's functions and the document's do so.
-/
import Derived.Test.YtoijpkpfgamlpaaGlbKit3
import Derived.Test.YtoijpkpfgamlpaaGlbCrlog
import Derived.Test.YtoijpkpfgamlpaaGlbCgleberef11
set_option linter.unusedSimpArgs false
set_option linter.unusedVariables false
namespace Glb
open Go
set_option maxRecDepth 10000

/-- a log that may be -/
def LogOk (l : Log) : Prop := 0 ≤ l.base ∧ l.base ≤ 2^41 ∧ SmallEntries l.es

def Log.last (l : Log) : Int := l.base + l.es.length
def Log.lastTerm (l : Log) : Int := match l.es[l.es.length - 1]? with
  | some e => e.term
  | none => l.bterm
/-- is there a term at an index -/
def Log.has (l : Log) (i : Int) : Bool := decide (l.base ≤ i) && decide (i ≤ l.last)
/-- the term at an index; 0 where there is none -/
def Log.term (l : Log) (i : Int) : Int := if l.has i then (if i = l.base then l.bterm else match l.es[(i - l.base - 1).toNat]? with
  | some e => e.term
  | none => 0) else 0

def LastOk (P : Program) (f : FuncId) : Prop :=
  isFn P f = true ∧ ∀ (F : Nat → Prop) (h : AHeap) (l : Log) (a : List AV), RdL F h l.c a → LogOk l →
    ACalls P f [.agg a] h fun r h' => r = .tup [.int .i64 l.last, .int .i64 l.lastTerm] ∧ h' = h

theorem rlog_Last_ok {P : Program} {f : FuncId} (hf : Is P f c_rlog_Last) : LastOk P f := by
  refine ⟨hf.2, fun F h l a hl ok => obs (upto_tup2 (upto_int _ _ _) (upto_int _ _ _)) (fun_sound hf.1 (Nat.le_of_ble_eq_true rfl) ?_)⟩
  show vc P c_rlog_Last.code ⟨[(0, .agg a)], [], h⟩ (atEnd c_rlog_Last.res _)
  simp only [Log.c, RdL, Rd] at hl
  obtain ⟨_, _, rfl, rfl, _, _, rfl, rfl, d, _, rfl, hl, rfl⟩ := hl
  have ll := hl.len
  simp only [List.length_map] at ll
  obtain ⟨o1, o2, o3, o4⟩ := ok
  simp only [c_rlog_Last, go_sem, reduceIte, Nat.reduceEqDiff, Nat.reduceAdd, Nat.reduceLeDiff, Nat.reducePow, Nat.reduceDiv, Nat.reduceMod, decide_true, hl.scalar, cells_of hl.scalar, ll]
  refine wCond_split (fun c => ?_) (fun c => ?_)
  · simp at c
    have e1 : IntKind.i64.wrap (l.base + ↑l.es.length) = l.base + ↑l.es.length := wrap_i64 (by omega)
    have e2 : IntKind.i64.wrap ((l.es.length : Int) - 1) = (l.es.length : Int) - 1 := wrap_i64 (by omega)
    have hlt : l.es.length - 1 < l.es.length := by first | omega | (have := List.length_pos_iff.2 c; omega)
    have ht : ((l.es.length : Int) - 1).toNat = l.es.length - 1 := by omega
    obtain ⟨p, cs, hp, hpc, hcs⟩ := hl.index .i64 (i := (l.es.length : Int) - 1) (d := (l.es[l.es.length - 1]).c) (by omega) (by rw [ht]; simp [hlt])
    simp only [Entry.c, RdL, Rd] at hcs
    obtain ⟨_, _, rfl, rfl, _, _, rfl, rfl, d', _, rfl, _, rfl⟩ := hcs
    have hpc1 := pup hpc (Ext.b1 (some (.arr 3 [[.int .i64 l.base, .int .i64 l.bterm, d]] false)))
    simp only [go_sem, reduceIte, Nat.reduceEqDiff, Nat.reduceAdd, Nat.reduceLeDiff, Nat.reducePow, Nat.reduceDiv, Nat.reduceMod, decide_true, e1, e2, hp, afield_p hpc, aload_off hpc1]
    refine ⟨?_, Ext.b1 _⟩
    simp [Log.last, Log.lastTerm, hlt]
  · simp at c
    simp only [go_sem, reduceIte, Nat.reduceEqDiff, Nat.reduceAdd, Nat.reduceLeDiff, Nat.reducePow, Nat.reduceDiv, Nat.reduceMod, decide_true]
    refine ⟨?_, Ext.b1 _⟩
    simp [Log.last, Log.lastTerm, c]

theorem gleberef11_Last_ok {P : Program} {f : FuncId} (hf : Is P f c_gleberef11_Last) : LastOk P f := by
  refine ⟨hf.2, fun F h l a hl ok => obs (upto_tup2 (upto_int _ _ _) (upto_int _ _ _)) (fun_sound hf.1 (Nat.le_of_ble_eq_true rfl) ?_)⟩
  show vc P c_gleberef11_Last.code ⟨[(0, .agg a)], [], h⟩ (atEnd c_gleberef11_Last.res _)
  simp only [Log.c, RdL, Rd] at hl
  obtain ⟨_, _, rfl, rfl, _, _, rfl, rfl, d, _, rfl, hl, rfl⟩ := hl
  have ll := hl.len
  simp only [List.length_map] at ll
  obtain ⟨o1, o2, o3, o4⟩ := ok
  simp only [c_gleberef11_Last, go_sem, reduceIte, Nat.reduceEqDiff, Nat.reduceAdd, Nat.reduceLeDiff, Nat.reducePow, Nat.reduceDiv, Nat.reduceMod, decide_true, hl.scalar, cells_of hl.scalar, ll]
  refine wCond_split (fun c => ?_) (fun c => ?_)
  · simp at c
    simp only [go_sem, reduceIte, Nat.reduceEqDiff, Nat.reduceAdd, Nat.reduceLeDiff, Nat.reducePow, Nat.reduceDiv, Nat.reduceMod, decide_true]
    refine ⟨?_, Ext.b1 _⟩
    simp [Log.last, Log.lastTerm, c]
  · simp at c
    have e1 : IntKind.i64.wrap (l.base + ↑l.es.length) = l.base + ↑l.es.length := wrap_i64 (by omega)
    have e2 : IntKind.i64.wrap ((l.es.length : Int) - 1) = (l.es.length : Int) - 1 := wrap_i64 (by omega)
    have hlt : l.es.length - 1 < l.es.length := by first | omega | (have := List.length_pos_iff.2 c; omega)
    have ht : ((l.es.length : Int) - 1).toNat = l.es.length - 1 := by omega
    obtain ⟨p, cs, hp, hpc, hcs⟩ := hl.index .i64 (i := (l.es.length : Int) - 1) (d := (l.es[l.es.length - 1]).c) (by omega) (by rw [ht]; simp [hlt])
    simp only [Entry.c, RdL, Rd] at hcs
    obtain ⟨_, _, rfl, rfl, _, _, rfl, rfl, d', _, rfl, _, rfl⟩ := hcs
    have hpc1 := pup hpc (Ext.b1 (some (.arr 3 [[.int .i64 l.base, .int .i64 l.bterm, d]] false)))
    simp only [go_sem, reduceIte, Nat.reduceEqDiff, Nat.reduceAdd, Nat.reduceLeDiff, Nat.reducePow, Nat.reduceDiv, Nat.reduceMod, decide_true, e1, e2, hp, afield_p hpc, aload_off hpc1]
    refine ⟨?_, Ext.b1 _⟩
    simp [Log.last, Log.lastTerm, hlt]

def TermOk (P : Program) (f : FuncId) : Prop :=
  isFn P f = true ∧ ∀ (F : Nat → Prop) (h : AHeap) (l : Log) (a : List AV) (i : Int), RdL F h l.c a → LogOk l →
    ACalls P f [.agg a, .int .i64 i] h fun r h' => r = .tup [.int .i64 (l.term i), .bool (l.has i)] ∧ h' = h

theorem rlog_Term_ok {P : Program} {f g : FuncId} (hf : Is P f (c_rlog_Term g)) (hg : LastOk P g) : TermOk P f := by
  refine ⟨hf.2, fun F h l a i hl ok => obs (upto_tup2 (upto_int _ _ _) (upto_bool _ _)) (fun_sound hf.1 (Nat.le_of_ble_eq_true rfl) ?_)⟩
  show vc P (c_rlog_Term g).code ⟨[(0, .agg a), (1, .int .i64 i)], [], h⟩ (atEnd (c_rlog_Term g).res _)
  have hl0 := hl
  simp only [Log.c, RdL, Rd] at hl
  obtain ⟨_, _, rfl, rfl, _, _, rfl, rfl, d, _, rfl, hl, rfl⟩ := hl
  have ok' := ok
  obtain ⟨o1, o2, o3, o4⟩ := ok
  simp only [c_rlog_Term, go_sem, reduceIte, Nat.reduceEqDiff, Nat.reduceAdd, Nat.reduceLeDiff, Nat.reducePow, Nat.reduceDiv, Nat.reduceMod, decide_true, hl.scalar, cells_of hl.scalar]
  refine wCall_use ⟨hg.1, hg.2 F _ l _ (hl0.up (Ext.b1 _)) ok'⟩ ?_
  rintro _ _ ⟨rfl, rfl⟩
  have hlast : l.last = l.base + l.es.length := rfl
  by_cases h1 : i < l.base
  · have c1 : decide (i < l.base) = true := decide_eq_true h1
    have hh : l.has i = false := by simp [Log.has]; omega
    simp only [go_sem, reduceIte, Nat.reduceEqDiff, Nat.reduceAdd, Nat.reduceLeDiff, Nat.reducePow, Nat.reduceDiv, Nat.reduceMod, decide_true, c1, Log.term, hh]
    exact Ext.b1 _
  have c1 : decide (i < l.base) = false := decide_eq_false h1
  by_cases h2 : l.last < i
  · have c2 : decide (l.last < i) = true := decide_eq_true h2
    have hh : l.has i = false := by simp [Log.has]; omega
    simp only [go_sem, reduceIte, Nat.reduceEqDiff, Nat.reduceAdd, Nat.reduceLeDiff, Nat.reducePow, Nat.reduceDiv, Nat.reduceMod, decide_true, c1, c2, Log.term, hh]
    exact Ext.b1 _
  have c2 : decide (l.last < i) = false := decide_eq_false h2
  have hh : l.has i = true := by simp [Log.has]; omega
  by_cases h3 : i = l.base
  · have c3 : decide (i = l.base) = true := decide_eq_true h3
    simp only [go_sem, reduceIte, Nat.reduceEqDiff, Nat.reduceAdd, Nat.reduceLeDiff, Nat.reducePow, Nat.reduceDiv, Nat.reduceMod, decide_true, c1, c2, c3, Log.term, hh]
    refine ⟨?_, Ext.b1 _⟩
    rw [if_pos h3]
  have c3 : decide (i = l.base) = false := decide_eq_false h3
  have hlt : (i - l.base - 1).toNat < l.es.length := by omega
  have e1 : IntKind.i64.wrap (i - l.base) = i - l.base := wrap_i64 (by omega)
  have e2 : IntKind.i64.wrap (i - l.base - 1) = i - l.base - 1 := wrap_i64 (by omega)
  obtain ⟨p, cs, hp, hpc, hcs⟩ := hl.index .i64 (i := i - l.base - 1) (d := (l.es[(i - l.base - 1).toNat]).c) (by omega) (by rw [List.getElem?_map, List.getElem?_eq_getElem hlt]; rfl)
  simp only [Entry.c, RdL, Rd] at hcs
  obtain ⟨_, _, rfl, rfl, _, _, rfl, rfl, d', _, rfl, _, rfl⟩ := hcs
  have hpc1 := pup hpc (Ext.b1 (some (.arr 3 [[.int .i64 l.base, .int .i64 l.bterm, d]] false)))
  simp only [go_sem, reduceIte, Nat.reduceEqDiff, Nat.reduceAdd, Nat.reduceLeDiff, Nat.reducePow, Nat.reduceDiv, Nat.reduceMod, decide_true, c1, c2, c3, e1, e2, hp, afield_p hpc, aload_off hpc1, Log.term, hh]
  refine ⟨?_, Ext.b1 _⟩
  rw [if_neg h3, List.getElem?_eq_getElem hlt]
theorem gleberef11_Term_ok {P : Program} {f g : FuncId} (hf : Is P f (c_gleberef11_Term g)) (hg : LastOk P g) : TermOk P f := by
  refine ⟨hf.2, fun F h l a i hl ok => obs (upto_tup2 (upto_int _ _ _) (upto_bool _ _)) (fun_sound hf.1 (Nat.le_of_ble_eq_true rfl) ?_)⟩
  show vc P (c_gleberef11_Term g).code ⟨[(0, .agg a), (1, .int .i64 i)], [], h⟩ (atEnd (c_gleberef11_Term g).res _)
  have hl0 := hl
  simp only [Log.c, RdL, Rd] at hl
  obtain ⟨_, _, rfl, rfl, _, _, rfl, rfl, d, _, rfl, hl, rfl⟩ := hl
  have ok' := ok
  obtain ⟨o1, o2, o3, o4⟩ := ok
  simp only [c_gleberef11_Term, go_sem, reduceIte, Nat.reduceEqDiff, Nat.reduceAdd, Nat.reduceLeDiff, Nat.reducePow, Nat.reduceDiv, Nat.reduceMod, decide_true, hl.scalar, cells_of hl.scalar]
  refine wCall_use ⟨hg.1, hg.2 F _ l _ (hl0.up (Ext.b1 _)) ok'⟩ ?_
  rintro _ _ ⟨rfl, rfl⟩
  have hlast : l.last = l.base + l.es.length := rfl
  by_cases h1 : i < l.base
  · have c1 : decide (i < l.base) = true := decide_eq_true h1
    have hh : l.has i = false := by simp [Log.has]; omega
    simp only [go_sem, reduceIte, Nat.reduceEqDiff, Nat.reduceAdd, Nat.reduceLeDiff, Nat.reducePow, Nat.reduceDiv, Nat.reduceMod, decide_true, c1, Log.term, hh]
    exact Ext.b1 _
  have c1 : decide (i < l.base) = false := decide_eq_false h1
  by_cases h2 : l.last < i
  · have c2 : decide (l.last < i) = true := decide_eq_true h2
    have hh : l.has i = false := by simp [Log.has]; omega
    simp only [go_sem, reduceIte, Nat.reduceEqDiff, Nat.reduceAdd, Nat.reduceLeDiff, Nat.reducePow, Nat.reduceDiv, Nat.reduceMod, decide_true, c1, c2, Log.term, hh]
    exact Ext.b1 _
  have c2 : decide (l.last < i) = false := decide_eq_false h2
  have hh : l.has i = true := by simp [Log.has]; omega
  by_cases h3 : i = l.base
  · have c3 : decide (i = l.base) = true := decide_eq_true h3
    simp only [go_sem, reduceIte, Nat.reduceEqDiff, Nat.reduceAdd, Nat.reduceLeDiff, Nat.reducePow, Nat.reduceDiv, Nat.reduceMod, decide_true, c1, c2, c3, Log.term, hh]
    refine ⟨?_, Ext.b1 _⟩
    rw [if_pos h3]
  have c3 : decide (i = l.base) = false := decide_eq_false h3
  have hlt : (i - l.base - 1).toNat < l.es.length := by omega
  have e1 : IntKind.i64.wrap (i - l.base) = i - l.base := wrap_i64 (by omega)
  have e2 : IntKind.i64.wrap (i - l.base - 1) = i - l.base - 1 := wrap_i64 (by omega)
  obtain ⟨p, cs, hp, hpc, hcs⟩ := hl.index .i64 (i := i - l.base - 1) (d := (l.es[(i - l.base - 1).toNat]).c) (by omega) (by rw [List.getElem?_map, List.getElem?_eq_getElem hlt]; rfl)
  simp only [Entry.c, RdL, Rd] at hcs
  obtain ⟨_, _, rfl, rfl, _, _, rfl, rfl, d', _, rfl, _, rfl⟩ := hcs
  have hpc1 := pup hpc (Ext.b1 (some (.arr 3 [[.int .i64 l.base, .int .i64 l.bterm, d]] false)))
  simp only [go_sem, reduceIte, Nat.reduceEqDiff, Nat.reduceAdd, Nat.reduceLeDiff, Nat.reducePow, Nat.reduceDiv, Nat.reduceMod, decide_true, c1, c2, c3, e1, e2, hp, afield_p hpc, aload_off hpc1, Log.term, hh]
  refine ⟨?_, Ext.b1 _⟩
  rw [if_neg h3, List.getElem?_eq_getElem hlt]


/-- is a last entry not elder than a log's -/
def Log.newer (l : Log) (index term : Int) : Bool := decide (l.lastTerm < term) || (decide (term = l.lastTerm) && decide (l.last ≤ index))

def NewerOk (P : Program) (f : FuncId) : Prop :=
  isFn P f = true ∧ ∀ (F : Nat → Prop) (h : AHeap) (l : Log) (a : List AV) (i t : Int), RdL F h l.c a → LogOk l →
    ACalls P f [.agg a, .int .i64 i, .int .i64 t] h fun r h' => r = .bool (l.newer i t) ∧ h' = h

theorem rlog_Newer_ok {P : Program} {f g : FuncId} (hf : Is P f (c_rlog_Newer g)) (hg : LastOk P g) : NewerOk P f := by
  refine ⟨hf.2, fun F h l a i t hl ok => obs (upto_bool _ _) (fun_sound hf.1 (Nat.le_of_ble_eq_true rfl) ?_)⟩
  show vc P (c_rlog_Newer g).code ⟨[(0, .agg a), (1, .int .i64 i), (2, .int .i64 t)], [], h⟩ (atEnd (c_rlog_Newer g).res _)
  have hl0 := hl
  simp only [Log.c, RdL, Rd] at hl
  obtain ⟨_, _, rfl, rfl, _, _, rfl, rfl, d, _, rfl, hl, rfl⟩ := hl
  simp only [c_rlog_Newer, go_sem, reduceIte, Nat.reduceEqDiff, Nat.reduceAdd, Nat.reduceLeDiff, Nat.reducePow, Nat.reduceDiv, Nat.reduceMod, decide_true, hl.scalar, cells_of hl.scalar]
  refine wCall_use ⟨hg.1, hg.2 F _ l _ (hl0.up (Ext.b1 _)) ok⟩ ?_
  rintro _ _ ⟨rfl, rfl⟩
  simp only [go_sem, reduceIte, Nat.reduceEqDiff, Nat.reduceAdd, Nat.reduceLeDiff, Nat.reducePow, Nat.reduceDiv, Nat.reduceMod, decide_true]
  repeat' (first
    | refine wGuardT (fun _ => ?_) (fun _ => ?_)
    | refine wGuardF (fun _ => ?_) (fun _ => ?_)
    | refine wCond_split (fun _ => ?_) (fun _ => ?_)
    | simp only [go_sem, reduceIte, Nat.reduceEqDiff, Nat.reduceAdd, Nat.reduceLeDiff, Nat.reducePow, Nat.reduceDiv, Nat.reduceMod, decide_true, *])
  all_goals refine ⟨?_, Ext.b1 _⟩
  all_goals simp_all [Log.newer]
theorem gleberef11_Newer_ok {P : Program} {f g : FuncId} (hf : Is P f (c_gleberef11_Newer g)) (hg : LastOk P g) : NewerOk P f := by
  refine ⟨hf.2, fun F h l a i t hl ok => obs (upto_bool _ _) (fun_sound hf.1 (Nat.le_of_ble_eq_true rfl) ?_)⟩
  show vc P (c_gleberef11_Newer g).code ⟨[(0, .agg a), (1, .int .i64 i), (2, .int .i64 t)], [], h⟩ (atEnd (c_gleberef11_Newer g).res _)
  have hl0 := hl
  simp only [Log.c, RdL, Rd] at hl
  obtain ⟨_, _, rfl, rfl, _, _, rfl, rfl, d, _, rfl, hl, rfl⟩ := hl
  simp only [c_gleberef11_Newer, go_sem, reduceIte, Nat.reduceEqDiff, Nat.reduceAdd, Nat.reduceLeDiff, Nat.reducePow, Nat.reduceDiv, Nat.reduceMod, decide_true, hl.scalar, cells_of hl.scalar]
  refine wCall_use ⟨hg.1, hg.2 F _ l _ (hl0.up (Ext.b1 _)) ok⟩ ?_
  rintro _ _ ⟨rfl, rfl⟩
  simp only [go_sem, reduceIte, Nat.reduceEqDiff, Nat.reduceAdd, Nat.reduceLeDiff, Nat.reducePow, Nat.reduceDiv, Nat.reduceMod, decide_true]
  repeat' (first
    | refine wGuardT (fun _ => ?_) (fun _ => ?_)
    | refine wGuardF (fun _ => ?_) (fun _ => ?_)
    | refine wCond_split (fun _ => ?_) (fun _ => ?_)
    | simp only [go_sem, reduceIte, Nat.reduceEqDiff, Nat.reduceAdd, Nat.reduceLeDiff, Nat.reducePow, Nat.reduceDiv, Nat.reduceMod, decide_true, *])
  all_goals refine ⟨?_, Ext.b1 _⟩
  all_goals simp_all [Log.newer]

theorem rlog_fresh_ok {P : Program} {f : FuncId} (hf : Is P f c_rlog_fresh) : CopyEntriesOk P f := by
  refine ⟨hf.2, fun F h x a hx hl => fun_sound hf.1 (Nat.le_of_ble_eq_true rfl) ?_⟩
  show vc P c_rlog_fresh.code ⟨[(0, a)], [], h⟩ (atEnd c_rlog_fresh.res _)
  have lx := hx.len
  simp only [List.length_map] at lx
  have hl1 := hl.1
  simp only [c_rlog_fresh, go_sem, reduceIte, Nat.reduceEqDiff, Nat.reduceAdd, Nat.reduceLeDiff, Nat.reducePow, Nat.reduceDiv, Nat.reduceMod, decide_true, lx]
  refine vc_loop (fun m L h' => ∃ (i : Nat) (o : AV), lk 6 L = a ∧ lk 7 L = .int .i64 x.length ∧ lk 3 L = o ∧ lk 8 L = .int .i64 i ∧ i ≤ x.length ∧ m = x.length - i ∧
    Own (dEntries (x.take i)) (fun m => h.length ≤ m) h' o ∧ canApp h' o ∧ Ext nof h h') x.length ?_ ?_
  · exact ⟨0, _, by simp [lk_ins, lk_cons], by simp [lk_ins, lk_cons], by simp [lk_ins, lk_cons], by simp [lk_ins], by omega, by omega, Own.nils 3, trivial, Ext.refl _ _⟩
  · rintro m L h' ⟨i, o, h6, h7, h3, h8, hi, rfl, ho, hc, he⟩
    simp only [c_rlog_fresh_l0, go_sem, reduceIte, Nat.reduceEqDiff, Nat.reduceAdd, Nat.reduceLeDiff, Nat.reducePow, Nat.reduceDiv, Nat.reduceMod, decide_true, lx, h6, h7, h3, h8]
    refine wCond_split (fun ci => ?_) (fun ci => ?_)
    · simp at ci
      obtain ⟨p, cs, hp, hpc, hcs⟩ := (hx.up he).index .i64 (i := i) (d := x[i].c) (by omega) (by simp [ci])
      simp only [Entry.c, RdL, Rd] at hcs
      obtain ⟨_, _, rfl, rfl, _, _, rfl, rfl, d, _, rfl, hd, rfl⟩ := hcs
      have hd' : Rd F h' (dBytes x[i].data) d := hd
      have e : IntKind.i64.wrap (↑i + 1) = (i : Int) + 1 := wrap_i64 (by omega)
      generalize hA : (some (.arr 3 [[.int .i64 x[i].term, .int .i64 x[i].kind, d]] false) : Option ABlk) = A
      obtain ⟨ys, hys, hyr⟩ := (hd'.up (Ext.b2 A (some (.arr 1 [] false)))).elems
      obtain ⟨r, h2, ha, hr, _, he2⟩ := own_app (lo := h'.length + 1) (sz := 1) (bytes := 1) (ds := []) (h0 := h' ++ [A] ++ [some (.arr 1 [] false)]) (h := h' ++ [A] ++ [some (.arr 1 [] false)]) (av := .ref (h'.length + 1) 1 0 0 (some 0))
        (by simp only [Own]; exact .inr (.inr ⟨h'.length + 1, 0, some 0, [], false, rfl, Nat.le_refl _, bx21 _ _ _, by simp, (fun c hc => by cases hc; simp), by simp [OwnLL]⟩))
        ⟨[], false, bx21 _ _ _, (fun hc => by cases hc), (fun c hc => by cases hc; simp)⟩ (Ext.refl _ _) (own_ints hyr) (by simp) (by have := hl.2 x[i] (by simp); simp; omega)
      have ha' : aappend (h' ++ [A] ++ [some (.arr 1 [] false)]) 1 1 (.ref (h'.length + 1) 1 0 0 (some 0)) d = some (r, h2) := by rw [aappend_of hys]; exact ha
      have hA2 : h2[h'.length]? = some A := by rw [he2.2 h'.length (by simp) (by simp)]; exact bx20 _ _ _
      have l2 := (List.getElem?_eq_some_iff.1 hA2).1
      subst hA
      simp only [go_sem, reduceIte, Nat.reduceEqDiff, Nat.reduceAdd, Nat.reduceLeDiff, Nat.reducePow, Nat.reduceDiv, Nat.reduceMod, decide_true, h6, h7, h3, h8, hp, aload_p hpc, hd'.scalar, ha', hA2, hr.scalar, cells_of hr.scalar, l2]
      have eB : Ext nof h' (h2.set h'.length (some (.arr 3 [[.int .i64 x[i].term, .int .i64 x[i].kind, r]] false))) :=
        ((Ext.b2 _ _).then he2 (fun m hm hm' => by omega)).setNew (Nat.le_refl _) _
      have hrB : Own (dBytes x[i].data) (fun m => h'.length + 1 ≤ m) (h2.set h'.length (some (.arr 3 [[.int .i64 x[i].term, .int .i64 x[i].kind, r]] false))) r :=
        Own.mono _ (fun m hm => hm) (fun m hm y hy => by rw [List.getElem?_set_ne (by omega)]; exact hy) _ (by simpa [dBytes] using hr)
      generalize hB : h2.set h'.length (some (.arr 3 [[.int .i64 x[i].term, .int .i64 x[i].kind, r]] false)) = B at *
      obtain ⟨o', h3', ha3, ho', hc', he'⟩ := own_app (bytes := 40) (es := [x[i].c]) (h := B ++ [some (.arr 3 [[.int .i64 x[i].term, .int .i64 x[i].kind, r]] false)]) ho hc
        (eB.box _) (ys := [[.int .i64 x[i].term, .int .i64 x[i].kind, r]])
        (by
          simp only [OwnLL, OwnL, Entry.c, Own]
          refine ⟨_, _, rfl, ⟨_, _, rfl, rfl, _, _, rfl, rfl, r, _, rfl, ?_, rfl⟩, rfl⟩
          exact Own.mono _ (fun m hm => by omega) (fun m hm y hy => (Ext.b1 _).get hy) _ hrB) he.1 (by simp; omega)
      have ha3' := aappend_of (aelems_new B 3 [[.int .i64 x[i].term, .int .i64 x[i].kind, r]] false (some 1) (len := 1) rfl) 40 o
      rw [ha3] at ha3'
      simp only [go_sem, reduceIte, Nat.reduceEqDiff, Nat.reduceAdd, Nat.reduceLeDiff, Nat.reducePow, Nat.reduceDiv, Nat.reduceMod, decide_true, h6, h7, h3, h8, e, ha3']
      refine ⟨_, ?_, i + 1, o', rfl, by simp, ci, rfl, ?_, hc', ?_⟩
      · omega
      · have : x.take (i + 1) = x.take i ++ [x[i]] := by simp [ci]
        rw [this, dEntries, List.map_append]; exact ho'
      · exact (he.tr (eB.box _)).then he' (fun m hm hm' => by omega)
    · simp at ci
      simp only [go_sem, reduceIte, Nat.reduceEqDiff, Nat.reduceAdd, Nat.reduceLeDiff, Nat.reducePow, Nat.reduceDiv, Nat.reduceMod, decide_true, h3]
      obtain rfl : i = x.length := by omega
      rw [List.take_length] at ho
      exact ⟨ho, hc, he⟩

/-- entries from an index on, so many at most -/
def Log.slice (l : Log) (from_ most : Int) : List Entry :=
  if from_ ≤ l.base ∨ l.last < from_ ∨ most < 1 then [] else (l.es.drop (from_ - l.base - 1).toNat).take most.toNat

def SliceOk (P : Program) (f : FuncId) : Prop :=
  isFn P f = true ∧ ∀ (F : Nat → Prop) (h : AHeap) (l : Log) (a : List AV) (i n : Int), RdL F h l.c a → LogOk l →
    ACalls P f [.agg a, .int .i64 i, .int .i64 n] h fun r h' => Own (dEntries (l.slice i n)) (fun m => h.length ≤ m) h' r ∧ canApp h' r ∧ Ext nof h h'

theorem SmallEntries.sub {l l' : List Entry} (hl : SmallEntries l) (hn : l'.length ≤ l.length) (hs : ∀ e ∈ l', e ∈ l) : SmallEntries l' := ⟨Nat.le_trans hn hl.1, fun e he => hl.2 e (hs e he)⟩

theorem rlog_Slice_ok {P : Program} {f g k : FuncId} (hf : Is P f (c_rlog_Slice g k)) (hg : LastOk P g) (hk : CopyEntriesOk P k) : SliceOk P f := by
  refine ⟨hf.2, fun F h l a i n hl ok => fun_sound hf.1 (Nat.le_of_ble_eq_true rfl) ?_⟩
  show vc P (c_rlog_Slice g k).code ⟨[(0, .agg a), (1, .int .i64 i), (2, .int .i64 n)], [], h⟩ (atEnd (c_rlog_Slice g k).res _)
  have hl0 := hl
  simp only [Log.c, RdL, Rd] at hl
  obtain ⟨_, _, rfl, rfl, _, _, rfl, rfl, d, _, rfl, hl, rfl⟩ := hl
  have ok' := ok
  obtain ⟨o1, o2, o3⟩ := ok
  have o4 := o3.1
  simp only [c_rlog_Slice, go_sem, reduceIte, Nat.reduceEqDiff, Nat.reduceAdd, Nat.reduceLeDiff, Nat.reducePow, Nat.reduceDiv, Nat.reduceMod, decide_true, hl.scalar, cells_of hl.scalar]
  refine wCall_use ⟨hg.1, hg.2 F _ l _ (hl0.up (Ext.b1 _)) ok'⟩ ?_
  rintro _ _ ⟨rfl, rfl⟩
  have hlast : l.last = l.base + l.es.length := rfl
  by_cases h1 : i ≤ l.base
  · have c1 : decide (i ≤ l.base) = true := decide_eq_true h1
    simp only [go_sem, reduceIte, Nat.reduceEqDiff, Nat.reduceAdd, Nat.reduceLeDiff, Nat.reducePow, Nat.reduceDiv, Nat.reduceMod, decide_true, c1, Log.slice, h1]
    exact ⟨Own.nils 3, trivial, Ext.b1 _⟩
  have c1 : decide (i ≤ l.base) = false := decide_eq_false h1
  by_cases h2 : l.last < i
  · have c2 : decide (l.last < i) = true := decide_eq_true h2
    simp only [go_sem, reduceIte, Nat.reduceEqDiff, Nat.reduceAdd, Nat.reduceLeDiff, Nat.reducePow, Nat.reduceDiv, Nat.reduceMod, decide_true, c1, c2, Log.slice, h2]
    exact ⟨Own.nils 3, trivial, Ext.b1 _⟩
  have c2 : decide (l.last < i) = false := decide_eq_false h2
  by_cases h3 : n < 1
  · have c3 : decide (n < 1) = true := decide_eq_true h3
    simp only [go_sem, reduceIte, Nat.reduceEqDiff, Nat.reduceAdd, Nat.reduceLeDiff, Nat.reducePow, Nat.reduceDiv, Nat.reduceMod, decide_true, c1, c2, c3, Log.slice, h3]
    exact ⟨Own.nils 3, trivial, Ext.b1 _⟩
  have c3 : decide (n < 1) = false := decide_eq_false h3
  have e1 : IntKind.i64.wrap (i - l.base) = i - l.base := wrap_i64 (by omega)
  have e2 : IntKind.i64.wrap (i - l.base - 1) = i - l.base - 1 := wrap_i64 (by omega)
  obtain ⟨q, hq, hqr⟩ := hl.slice (lo := some (i - l.base - 1)) (hi := none) (mx := none) (by simp; omega) (by simp; omega) (by simp) (by simp) (by simp) (by simp)
  simp only [Option.getD_some, Option.getD_none, Int.toNat_natCast, List.take_length] at hqr
  have lq := hqr.len
  simp only [List.length_drop, List.length_map] at lq
  obtain ⟨q2, hq2, hqr2⟩ := hqr.slice (lo := none) (hi := some (min n (↑(l.es.length - (i - l.base - 1).toNat) : Int))) (mx := none) (by simp) (by simp; omega) (by simp; omega) (by simp) (by simp; omega) (by simp)
  simp only [Option.getD_some, Option.getD_none, Int.toNat_zero, List.drop_zero] at hqr2
  simp only [go_sem, reduceIte, Nat.reduceEqDiff, Nat.reduceAdd, Nat.reduceLeDiff, Nat.reducePow, Nat.reduceDiv, Nat.reduceMod, decide_true, c1, c2, c3, e1, e2, rev_slc, hq, lq, rev_mnmx, mnmx_min, hq2]
  have hs : l.slice i n = (l.es.drop (i - l.base - 1).toNat).take (min n ↑(l.es.length - (i - l.base - 1).toNat)).toNat := by
    simp only [Log.slice]
    rw [if_neg (by omega), List.take_eq_take_iff]
    simp only [List.length_drop]; omega
  have hr2 : Rd F h (dEntries (l.slice i n)) q2 := by
    rw [hs, dEntries, List.map_take, List.map_drop]; exact hqr2
  refine wCall_use ⟨hk.1, hk.2 F _ (l.slice i n) q2 (hr2.up (Ext.b1 _)) (o3.sub (by rw [hs]; simp; omega) (fun e he => by rw [hs] at he; exact List.mem_of_mem_drop (List.mem_of_mem_take he)))⟩ ?_
  rintro r h' ⟨hr, hc, he⟩
  simp only [go_sem, reduceIte, Nat.reduceEqDiff, Nat.reduceAdd, Nat.reduceLeDiff, Nat.reducePow, Nat.reduceDiv, Nat.reduceMod, decide_true]
  exact ⟨Own.mono _ (fun m hm => by simp at hm; omega) (fun _ _ _ x => x) _ hr, hc, (Ext.b1 _).tr he⟩

theorem gleberef11_Slice_ok {P : Program} {f g k : FuncId} (hf : Is P f (c_gleberef11_Slice g k)) (hg : LastOk P g) (hk : CopyEntriesOk P k) : SliceOk P f := by
  refine ⟨hf.2, fun F h l a i n hl ok => fun_sound hf.1 (Nat.le_of_ble_eq_true rfl) ?_⟩
  show vc P (c_gleberef11_Slice g k).code ⟨[(0, .agg a), (1, .int .i64 i), (2, .int .i64 n)], [], h⟩ (atEnd (c_gleberef11_Slice g k).res _)
  have hl0 := hl
  simp only [Log.c, RdL, Rd] at hl
  obtain ⟨_, _, rfl, rfl, _, _, rfl, rfl, d, _, rfl, hl, rfl⟩ := hl
  have ok' := ok
  obtain ⟨o1, o2, o3⟩ := ok
  have o4 := o3.1
  have hlast : l.last = l.base + l.es.length := rfl
  have e1 : IntKind.i64.wrap (l.base + 1) = l.base + 1 := wrap_i64 (by omega)
  simp only [c_gleberef11_Slice, go_sem, reduceIte, Nat.reduceEqDiff, Nat.reduceAdd, Nat.reduceLeDiff, Nat.reducePow, Nat.reduceDiv, Nat.reduceMod, decide_true, hl.scalar, cells_of hl.scalar]
  refine wCall_use ⟨hg.1, hg.2 F _ l _ (hl0.up (Ext.b1 _)) ok'⟩ ?_
  rintro _ _ ⟨rfl, rfl⟩
  generalize hA : (some (.arr 3 [[.int .i64 l.base, .int .i64 l.bterm, d]] false) : Option ABlk) = A
  have hA1 : (h ++ [A])[h.length]? = some A := bx1 _ _
  have hd : Rd F (h ++ [A]) (dEntries l.es) d := hl.up (Ext.b1 _)
  have hd' := Rd.lt _ _ hd
  generalize hH : h ++ [A] = H at *
  have hHl : H.length = h.length + 1 := by rw [← hH]; simp
  have hE : Ext nof h H := by rw [← hH]; exact Ext.b1 _
  subst hA
  simp only [go_sem, reduceIte, Nat.reduceEqDiff, Nat.reduceAdd, Nat.reduceLeDiff, Nat.reducePow, Nat.reduceDiv, Nat.reduceMod, decide_true, hA1, e1, rev_mnmx, mnmx_max]
  -- what is laid so far: the entries from the first on
  refine vc_loop (fun m L h' => ∃ (j : Nat) (o : AV) (es : List (List AV)), lk 1 L = .int .i64 i ∧ lk 2 L = .int .i64 n ∧ lk 3 L = .ptr h.length 3 0 0 ∧ lk 7 L = .int .i64 l.last ∧ lk 9 L = o ∧ lk 10 L = .int .i64 (max i (l.base + 1) + j) ∧
    j ≤ (l.slice i n).length ∧ m = (l.slice i n).length - j ∧ OwnO H.length h' 3 o es ∧ RdLL (fun m => F m ∧ m < H.length) h' (((l.slice i n).take j).map Entry.c) es ∧ Ext nof H h') (l.slice i n).length ?_ ?_
  · exact ⟨0, _, [], by simp [lk_ins, lk_cons], by simp [lk_ins, lk_cons], by simp [lk_ins, lk_cons], by simp [lk_ins, lk_cons], by simp [lk_ins, lk_cons], by simp [lk_ins], by omega, by omega, .inl ⟨rfl, rfl⟩, rfl, Ext.refl _ _⟩
  · rintro m L h' ⟨j, o, es, k1, k2, k3, k7, k9, k10, hj, rfl, ho, hes, he⟩
    have hA2 := he.get hA1
    have hel : es.length = j := by rw [RdLL_length hes]; simp; omega
    have hol := ho.els.len
    simp only [c_gleberef11_Slice_l0, go_sem, reduceIte, Nat.reduceEqDiff, Nat.reduceAdd, Nat.reduceLeDiff, Nat.reducePow, Nat.reduceDiv, Nat.reduceMod, decide_true, k1, k2, k3, k7, k9, k10, hA2, hol]
    have hin : ∀ hc : l.base < i ∧ i ≤ l.last ∧ 1 ≤ n, (l.slice i n).length = min n.toNat (l.last - i + 1).toNat := by
      intro hc
      simp only [Log.slice]
      rw [if_neg (by omega)]
      simp only [List.length_take, List.length_drop]; omega
    have hout : ¬ (l.base < i ∧ i ≤ l.last ∧ 1 ≤ n) → (l.slice i n).length = 0 := by
      intro hc
      simp only [Log.slice]
      rw [if_pos (by omega)]; rfl
    have fin : j = (l.slice i n).length → wCall P k [o] h' (kPutH P (.tmp 51) [⟨.loc 6, .r (.mov (.tmp 51)), none⟩] ⟨ins 35 (.bool false) L, [(50, o)], h'⟩
        (kReg (kSeq P .ret (atEnd [.tmp (.loc 6)] fun r h' => Own (dEntries (l.slice i n)) (fun m => h.length ≤ m) h' r ∧ canApp h' r ∧ Ext nof h h')))) := by
      intro hj'
      rw [hj', List.take_length] at hes
      have hro : Rd (fun m => H.length ≤ m ∨ (F m ∧ m < H.length)) h' (dEntries (l.slice i n)) o := by
        simp only [dEntries, Rd]
        exact ⟨es, ho.els.mono (fun m hm => .inl hm) (fun _ _ _ x => x), RdLL.mono (fun m hm => .inr hm) (fun _ _ _ x => x) _ _ hes⟩
      refine wCall_use ⟨hk.1, hk.2 _ _ (l.slice i n) o hro (o3.sub ?_ ?_)⟩ ?_
      · simp only [Log.slice]; split
        · simp
        · simp; omega
      · intro e he
        simp only [Log.slice] at he; split at he
        · simp at he
        · exact List.mem_of_mem_drop (List.mem_of_mem_take he)
      · rintro r h2 ⟨hr, hc, he2⟩
        simp only [go_sem, reduceIte, Nat.reduceEqDiff, Nat.reduceAdd, Nat.reduceLeDiff, Nat.reducePow, Nat.reduceDiv, Nat.reduceMod, decide_true]
        exact ⟨Own.mono _ (fun m hm => by have := he.1; omega) (fun _ _ _ x => x) _ hr, hc, (hE.tr he).tr he2⟩
    by_cases hc : j < (l.slice i n).length
    · have hc1 : l.base < i ∧ i ≤ l.last ∧ 1 ≤ n := by
        refine Classical.byContradiction fun hn => ?_
        have := hout hn; omega
      have hc2 := hin hc1
      have g1 : decide (max i (l.base + 1) + ↑j ≤ l.last) = true := decide_eq_true (by omega)
      have g2 : decide (l.base < i) = true := decide_eq_true hc1.1
      have g3 : decide ((es.length : Int) < n) = true := decide_eq_true (by omega)
      have e2 : IntKind.i64.wrap (max i (l.base + 1) + ↑j - l.base) = max i (l.base + 1) + ↑j - l.base := wrap_i64 (by omega)
      have e3 : IntKind.i64.wrap (max i (l.base + 1) + ↑j - l.base - 1) = max i (l.base + 1) + ↑j - l.base - 1 := wrap_i64 (by omega)
      have e4 : IntKind.i64.wrap (max i (l.base + 1) + ↑j + 1) = max i (l.base + 1) + ↑j + 1 := wrap_i64 (by omega)
      have hlt : (max i (l.base + 1) + ↑j - l.base - 1).toNat < l.es.length := by omega
      have hsj : (l.slice i n)[j] = l.es[(max i (l.base + 1) + ↑j - l.base - 1).toNat] := by
        have : (l.slice i n)[j]? = l.es[(max i (l.base + 1) + ↑j - l.base - 1).toNat]? := by
          simp only [Log.slice]
          rw [if_neg (by omega), List.getElem?_take_of_lt (by omega), List.getElem?_drop]
          congr 1; omega
        rw [List.getElem?_eq_getElem hc, List.getElem?_eq_getElem hlt] at this
        simpa using this
      obtain ⟨p, cs, hp, hpc, hcs⟩ := (hd'.up he).index .i64 (i := max i (l.base + 1) + ↑j - l.base - 1) (d := ((l.slice i n)[j]).c) (by omega) (by rw [List.getElem?_map, List.getElem?_eq_getElem hlt, hsj]; rfl)
      have hcl := RdL_length hcs
      have hcs0 := hcs
      simp only [Entry.c, RdL, Rd] at hcs
      obtain ⟨_, _, rfl, rfl, _, _, rfl, rfl, d', _, rfl, hdd, rfl⟩ := hcs
      have hdd' : Rd (fun m => F m ∧ m < H.length) h' (dBytes (l.slice i n)[j].data) d' := hdd
      generalize hcell : [AV.int .i64 (l.slice i n)[j].term, AV.int .i64 (l.slice i n)[j].kind, d'] = cell at *
      obtain ⟨o', h3', ha3, ho', he'⟩ := acc_app (bytes := 40) (h := h' ++ [some (.arr 3 [cell] false)]) (ys := [cell]) ho (Ext.b1 _) he.1 (by rw [hel]; simp; omega)
      have ha3' := aappend_of (aelems_new h' 3 [cell] false (some 1) (len := 1) rfl) 40 o
      rw [ha3] at ha3'
      subst hcell
      simp only [go_sem, reduceIte, Nat.reduceEqDiff, Nat.reduceAdd, Nat.reduceLeDiff, Nat.reducePow, Nat.reduceDiv, Nat.reduceMod, decide_true, k1, k2, k3, k7, k9, k10, hA2, hol, g1, g2, g3, e2, e3, e4, hp, aload_p hpc, hdd'.scalar, cells_of hdd'.scalar, ha3']
      have hke : Keep (fun m => F m ∧ m < H.length) h' h3' := fun m hm x hx => he'.keepOff (F' := fun m => F m ∧ m < H.length) (fun m _ hm hle => by omega) m hm x ((Ext.b1 _).get hx)
      refine ⟨_, ?_, j + 1, o', _, rfl, congrArg (AV.int .i64) (by omega), hc, rfl, ho', ?_, (he.tr (Ext.b1 _)).then he' (fun m hm hm' => by omega)⟩
      · omega
      · have : (l.slice i n).take (j + 1) = (l.slice i n).take j ++ [(l.slice i n)[j]] := by simp [hc]
        rw [this, List.map_append]
        exact RdLL_app (RdLL.mono (fun _ x => x) hke _ _ hes) ⟨_, _, rfl, RdL.mono (fun _ x => x) hke _ _ hcs0, rfl⟩
    · have hj' : j = (l.slice i n).length := by omega
      by_cases g1 : max i (l.base + 1) + ↑j ≤ l.last
      · by_cases g2 : l.base < i
        · by_cases g3 : (es.length : Int) < n
          · have := hin ⟨g2, by omega, by omega⟩; omega
          · simp only [go_sem, reduceIte, Nat.reduceEqDiff, Nat.reduceAdd, Nat.reduceLeDiff, Nat.reducePow, Nat.reduceDiv, Nat.reduceMod, decide_true, k1, k2, k3, k7, k9, k10, hA2, hol, decide_eq_true g1, decide_eq_true g2, decide_eq_false g3]
            exact fin hj'
        · simp only [go_sem, reduceIte, Nat.reduceEqDiff, Nat.reduceAdd, Nat.reduceLeDiff, Nat.reducePow, Nat.reduceDiv, Nat.reduceMod, decide_true, k1, k2, k3, k7, k9, k10, hA2, hol, decide_eq_true g1, decide_eq_false g2]
          exact fin hj'
      · simp only [go_sem, reduceIte, Nat.reduceEqDiff, Nat.reduceAdd, Nat.reduceLeDiff, Nat.reducePow, Nat.reduceDiv, Nat.reduceMod, decide_true, k1, k2, k3, k7, k9, k10, hA2, hol, decide_eq_false g1]
        exact fin hj'

end Glb
