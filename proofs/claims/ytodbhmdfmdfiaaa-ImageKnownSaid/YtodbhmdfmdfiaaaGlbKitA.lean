/-
  A library of its own: its parts, one behind the other.
-/
import Derived.Test.YtodbhmdfmdfiaaaGlbLibD
import Derived.Test.YtodbhmdfmdfiaaaGlbCglebekit
set_option linter.unusedSimpArgs false
set_option linter.unusedVariables false
/-
  The data of the program.
-/
namespace Glb
open Go

def dBytes (l : List Int) : D := .sl 1 (l.map fun n => [.int .u8 n])
def dInts (l : List Int) : D := .sl 1 (l.map fun n => [.int .i64 n])

structure Entry where
  term : Int
  kind : Int
  data : List Int
  deriving DecidableEq

theorem Entry.dec (x y : Entry) : decide (x = y) = (decide (x.term = y.term) && (decide (x.kind = y.kind) && decide (x.data = y.data))) := by
  cases x; cases y; simp [Bool.decide_and]
def Entry.c (e : Entry) : List D := [.int .i64 e.term, .int .i64 e.kind, dBytes e.data]
def dEntries (l : List Entry) : D := .sl 3 (l.map Entry.c)

structure Log where
  base : Int
  bterm : Int
  es : List Entry
  deriving DecidableEq

theorem Log.dec (x y : Log) : decide (x = y) = (decide (x.base = y.base) && (decide (x.bterm = y.bterm) && decide (x.es = y.es))) := by
  cases x; cases y; simp [Bool.decide_and]
def Log.c (l : Log) : List D := [.int .i64 l.base, .int .i64 l.bterm, dEntries l.es]

/-- an answer that is told by a value that names nothing, whatever was made on the way -/
theorem obs {P : Program} {f : FuncId} {avs : List AV} {h : AHeap} {b : AV} (hb : b.upto h.length = true) (hc : ACalls P f avs h fun r h' => r = b ∧ Ext nof h h') : ACalls P f avs h fun r h' => r = b ∧ h' = h :=
  (ACalls.trunc (K' := fun r => r = b) hc fun r h' hk => ⟨hk.2, by rw [hk.1]; exact hb, hk.1⟩).mono fun _ _ hk => ⟨hk.2, hk.1⟩

theorem upto_int (n : Nat) (k : IntKind) (x : Int) : (AV.int k x).upto n = true := by simp only [AV.upto]
theorem upto_bool (n : Nat) (b : Bool) : (AV.bool b).upto n = true := by simp only [AV.upto]
theorem upto_tup2 {n : Nat} {x y : AV} (h : x.upto n = true) (h' : y.upto n = true) : (AV.tup [x, y]).upto n = true := by simp only [AV.upto, AV.uptoL, h, h', Bool.and_self]

end Glb

/-
  Functions of the kit of the statements: lists held against one another, copied, written over.
-/
namespace Glb
open Go
set_option maxRecDepth 10000


/-- two lists of numbers are the same -/
def SameOk (P : Program) (f : FuncId) (k : IntKind) : Prop :=
  isFn P f = true ∧ ∀ (F : Nat → Prop) (h : AHeap) (x y : List Int) (a b : AV), Rd F h (.sl 1 (x.map fun n => [.int k n])) a → Rd F h (.sl 1 (y.map fun n => [.int k n])) b → x.length ≤ 2^40 →
    ACalls P f [a, b] h fun r h' => r = .bool (decide (x = y)) ∧ h' = h

theorem same_ok {P : Program} {f : FuncId} (k : IntKind) (hf : Is P f c_glebekit_SameBytes) : SameOk P f k := by
  refine ⟨hf.2, fun F h x y a b hx hy hl => fun_sound hf.1 (Nat.le_of_ble_eq_true rfl) ?_⟩
  show vc P c_glebekit_SameBytes.code ⟨[(0, a), (1, b)], [], h⟩ (atEnd c_glebekit_SameBytes.res _)
  have lx := hx.len
  have ly := hy.len
  simp only [List.length_map] at lx ly
  simp only [c_glebekit_SameBytes, go_sem, reduceIte, Nat.reduceEqDiff, Nat.reduceAdd, Nat.reduceLeDiff, Nat.reducePow, Nat.reduceDiv, Nat.reduceMod, decide_true, lx, ly]
  refine wCond_split (fun c => ?_) (fun c => ?_)
  · simp only [go_sem, reduceIte, Nat.reduceEqDiff, Nat.reduceAdd, Nat.reduceLeDiff, Nat.reducePow, Nat.reduceDiv, Nat.reduceMod, decide_true]
    simp at c
    simp; rintro rfl; exact c rfl
  · simp only [go_sem, reduceIte, Nat.reduceEqDiff, Nat.reduceAdd, Nat.reduceLeDiff, Nat.reducePow, Nat.reduceDiv, Nat.reduceMod, decide_true]
    simp at c
    have c' : x.length = y.length := by omega
    refine vc_loop (fun m L h' => ∃ i : Nat, lk 0 L = a ∧ lk 1 L = b ∧ lk 5 L = .int .i64 i ∧ h' = h ∧ i ≤ x.length ∧ m = x.length - i ∧ ∀ j : Nat, j < i → x[j]? = y[j]?) x.length ?_ ?_
    · exact ⟨0, by simp [lk_ins, lk_cons], by simp [lk_ins, lk_cons], by simp [lk_ins], rfl, by omega, by omega, by omega⟩
    · rintro m L h' ⟨i, h0, h1, h5, rfl, hi, rfl, hj⟩
      simp only [c_glebekit_SameBytes_l0, go_sem, reduceIte, Nat.reduceEqDiff, Nat.reduceAdd, Nat.reduceLeDiff, Nat.reducePow, Nat.reduceDiv, Nat.reduceMod, decide_true, lx, h0, h1, h5]
      refine wCond_split (fun ci => ?_) (fun ci => ?_)
      · simp at ci
        have iy : i < y.length := by omega
        obtain ⟨p, cs, hp, hpc, hcs⟩ := hx.index .i64 (i := i) (d := [.int k x[i]]) (by omega) (by simp [ci])
        obtain ⟨q, cs', hq, hqc, hcs'⟩ := hy.index .i64 (i := i) (d := [.int k y[i]]) (by omega) (by simp [iy])
        simp only [RdL, Rd] at hcs hcs'
        obtain ⟨_, _, rfl, rfl, rfl⟩ := hcs
        obtain ⟨_, _, rfl, rfl, rfl⟩ := hcs'
        have e : IntKind.i64.wrap (↑i + 1) = (i : Int) + 1 := wrap_i64 (by omega)
        simp only [go_sem, reduceIte, Nat.reduceEqDiff, Nat.reduceAdd, Nat.reduceLeDiff, Nat.reducePow, Nat.reduceDiv, Nat.reduceMod, decide_true, h0, h1, h5, hp, hq, aload_p hpc, aload_p hqc]
        refine wCond_split (fun ce => ?_) (fun ce => ?_)
        · simp only [go_sem, reduceIte, Nat.reduceEqDiff, Nat.reduceAdd, Nat.reduceLeDiff, Nat.reducePow, Nat.reduceDiv, Nat.reduceMod, decide_true]
          simp at ce
          simp; rintro rfl; exact ce rfl
        · simp only [go_sem, reduceIte, Nat.reduceEqDiff, Nat.reduceAdd, Nat.reduceLeDiff, Nat.reducePow, Nat.reduceDiv, Nat.reduceMod, decide_true, h0, h1, h5, e]
          simp at ce
          refine ⟨_, ?_, i + 1, by simp, ci, rfl, fun j hj' => ?_⟩
          · omega
          · rcases Nat.lt_or_ge j i with hlt | hge
            · exact hj j hlt
            · obtain rfl : j = i := by omega
              simp [ci, iy, ce]
      · simp at ci
        simp only [go_sem, reduceIte, Nat.reduceEqDiff, Nat.reduceAdd, Nat.reduceLeDiff, Nat.reducePow, Nat.reduceDiv, Nat.reduceMod, decide_true, lx, h0, h1, h5]
        obtain rfl : i = x.length := by omega
        have : x = y := by
          apply List.ext_getElem?
          intro j
          rcases Nat.lt_or_ge j x.length with hlt | hge
          · exact hj j hlt
          · rw [List.getElem?_eq_none hge, List.getElem?_eq_none (by omega)]
        simp [this]

theorem SameBytes_ok {P : Program} {f : FuncId} (hf : Is P f c_glebekit_SameBytes) : SameOk P f .u8 := same_ok .u8 hf
theorem SameInts_ok {P : Program} {f : FuncId} (hf : Is P f c_glebekit_SameInts) : SameOk P f .i64 := same_ok .i64 hf

end Glb

/-
  Functions of the kit of the statements: entries and logs.
-/
namespace Glb
open Go
set_option maxRecDepth 10000

def SameEntryOk (P : Program) (f : FuncId) : Prop :=
  isFn P f = true ∧ ∀ (F : Nat → Prop) (h : AHeap) (x y : Entry) (a b : List AV), RdL F h x.c a → RdL F h y.c b → x.data.length ≤ 2^40 →
    ACalls P f [.agg a, .agg b] h fun r h' => r = .bool (decide (x = y)) ∧ h' = h

theorem SameEntry_ok {P : Program} {f g : FuncId} (hf : Is P f (c_glebekit_SameEntry g)) (hg : SameOk P g .u8) : SameEntryOk P f := by
  refine ⟨hf.2, fun F h x y a b hx hy hl => obs rfl (fun_sound hf.1 (Nat.le_of_ble_eq_true rfl) ?_)⟩
  show vc P (c_glebekit_SameEntry g).code ⟨[(0, .agg a), (1, .agg b)], [], h⟩ (atEnd (c_glebekit_SameEntry g).res _)
  simp only [Entry.c, RdL, Rd] at hx hy
  obtain ⟨_, _, rfl, rfl, _, _, rfl, rfl, d, _, rfl, hx, rfl⟩ := hx
  obtain ⟨_, _, rfl, rfl, _, _, rfl, rfl, e, _, rfl, hy, rfl⟩ := hy
  simp only [c_glebekit_SameEntry, go_sem, reduceIte, Nat.reduceEqDiff, Nat.reduceAdd, Nat.reduceLeDiff, Nat.reducePow, Nat.reduceDiv, Nat.reduceMod, decide_true, hx.scalar, hy.scalar]
  repeat' (first
    | refine wGuardT (fun _ => ?_) (fun _ => ?_)
    | (refine wCall_use ⟨hg.1, hg.2 F _ x.data y.data _ _ (hx.up (Ext.b2 _ _)) (hy.up (Ext.b2 _ _)) hl⟩ ?_; rintro _ _ ⟨rfl, rfl⟩)
    | simp only [go_sem, reduceIte, Nat.reduceEqDiff, Nat.reduceAdd, Nat.reduceLeDiff, Nat.reducePow, Nat.reduceDiv, Nat.reduceMod, decide_true, *])
  all_goals exact ⟨by simp [Entry.dec, *], Ext.b2 _ _⟩

def SameEntriesOk (P : Program) (f : FuncId) : Prop :=
  isFn P f = true ∧ ∀ (F : Nat → Prop) (h : AHeap) (x y : List Entry) (a b : AV), Rd F h (dEntries x) a → Rd F h (dEntries y) b → x.length ≤ 2^40 → (∀ e ∈ x, e.data.length ≤ 2^40) →
    ACalls P f [a, b] h fun r h' => r = .bool (decide (x = y)) ∧ h' = h

theorem SameEntries_ok {P : Program} {f g : FuncId} (hf : Is P f (c_glebekit_SameEntries g)) (hg : SameEntryOk P g) : SameEntriesOk P f := by
  refine ⟨hf.2, fun F h x y a b hx hy hl hd => fun_sound hf.1 (Nat.le_of_ble_eq_true rfl) ?_⟩
  show vc P (c_glebekit_SameEntries g).code ⟨[(0, a), (1, b)], [], h⟩ (atEnd (c_glebekit_SameEntries g).res _)
  have lx := hx.len
  have ly := hy.len
  simp only [List.length_map] at lx ly
  simp only [c_glebekit_SameEntries, go_sem, reduceIte, Nat.reduceEqDiff, Nat.reduceAdd, Nat.reduceLeDiff, Nat.reducePow, Nat.reduceDiv, Nat.reduceMod, decide_true, lx, ly]
  refine wCond_split (fun c => ?_) (fun c => ?_)
  · simp only [go_sem, reduceIte, Nat.reduceEqDiff, Nat.reduceAdd, Nat.reduceLeDiff, Nat.reducePow, Nat.reduceDiv, Nat.reduceMod, decide_true]
    simp at c
    simp; rintro rfl; exact c rfl
  · simp only [go_sem, reduceIte, Nat.reduceEqDiff, Nat.reduceAdd, Nat.reduceLeDiff, Nat.reducePow, Nat.reduceDiv, Nat.reduceMod, decide_true]
    simp at c
    have c' : x.length = y.length := by omega
    refine vc_loop (fun m L h' => ∃ i : Nat, lk 0 L = a ∧ lk 1 L = b ∧ lk 5 L = .int .i64 i ∧ h' = h ∧ i ≤ x.length ∧ m = x.length - i ∧ ∀ j : Nat, j < i → x[j]? = y[j]?) x.length ?_ ?_
    · exact ⟨0, by simp [lk_ins, lk_cons], by simp [lk_ins, lk_cons], by simp [lk_ins], rfl, by omega, by omega, by omega⟩
    · rintro m L h' ⟨i, h0, h1, h5, rfl, hi, rfl, hj⟩
      simp only [c_glebekit_SameEntries_l0, go_sem, reduceIte, Nat.reduceEqDiff, Nat.reduceAdd, Nat.reduceLeDiff, Nat.reducePow, Nat.reduceDiv, Nat.reduceMod, decide_true, lx, h0, h1, h5]
      refine wCond_split (fun ci => ?_) (fun ci => ?_)
      · simp at ci
        have iy : i < y.length := by omega
        obtain ⟨p, cs, hp, hpc, hcs⟩ := hx.index .i64 (i := i) (d := x[i].c) (by omega) (by simp [ci])
        obtain ⟨q, cs', hq, hqc, hcs'⟩ := hy.index .i64 (i := i) (d := y[i].c) (by omega) (by simp [iy])
        have e : IntKind.i64.wrap (↑i + 1) = (i : Int) + 1 := wrap_i64 (by omega)
        have l1 := RdL_length hcs
        have l2 := RdL_length hcs'
        simp only [Entry.c, go_sem, reduceIte, Nat.reduceEqDiff, Nat.reduceAdd, Nat.reduceLeDiff, Nat.reducePow, Nat.reduceDiv, Nat.reduceMod, decide_true] at l1 l2
        have t1 : cs.take 3 = cs := List.take_of_length_le (by omega)
        have t2 : cs'.take 3 = cs' := List.take_of_length_le (by omega)
        simp only [go_sem, reduceIte, Nat.reduceEqDiff, Nat.reduceAdd, Nat.reduceLeDiff, Nat.reducePow, Nat.reduceDiv, Nat.reduceMod, decide_true, h0, h1, h5, hp, hq, aload_p hpc, aload_p hqc, l1, l2, t1, t2]
        refine wCall_use ⟨hg.1, hg.2 F _ x[i] y[i] _ _ hcs hcs' (hd _ (by simp))⟩ ?_
        rintro _ _ ⟨rfl, rfl⟩
        simp only [go_sem, reduceIte, Nat.reduceEqDiff, Nat.reduceAdd, Nat.reduceLeDiff, Nat.reducePow, Nat.reduceDiv, Nat.reduceMod, decide_true, aload_p hpc, aload_p hqc, l1, l2, t1, t2, or_true]
        refine wCond_split (fun ce => ?_) (fun ce => ?_)
        · simp only [go_sem, reduceIte, Nat.reduceEqDiff, Nat.reduceAdd, Nat.reduceLeDiff, Nat.reducePow, Nat.reduceDiv, Nat.reduceMod, decide_true]
          simp at ce
          simp; rintro rfl; exact ce rfl
        · simp only [go_sem, reduceIte, Nat.reduceEqDiff, Nat.reduceAdd, Nat.reduceLeDiff, Nat.reducePow, Nat.reduceDiv, Nat.reduceMod, decide_true, h0, h1, h5, e]
          simp at ce
          refine ⟨_, ?_, i + 1, by simp, ci, rfl, fun j hj' => ?_⟩
          · omega
          · rcases Nat.lt_or_ge j i with hlt | hge
            · exact hj j hlt
            · obtain rfl : j = i := by omega
              simp [ci, iy, ce]
      · simp at ci
        simp only [go_sem, reduceIte, Nat.reduceEqDiff, Nat.reduceAdd, Nat.reduceLeDiff, Nat.reducePow, Nat.reduceDiv, Nat.reduceMod, decide_true, lx, h0, h1, h5]
        obtain rfl : i = x.length := by omega
        have : x = y := by
          apply List.ext_getElem?
          intro j
          rcases Nat.lt_or_ge j x.length with hlt | hge
          · exact hj j hlt
          · rw [List.getElem?_eq_none hge, List.getElem?_eq_none (by omega)]
        simp [this]

def SameLogOk (P : Program) (f : FuncId) : Prop :=
  isFn P f = true ∧ ∀ (F : Nat → Prop) (h : AHeap) (x y : Log) (a b : List AV), RdL F h x.c a → RdL F h y.c b → x.es.length ≤ 2^40 → (∀ e ∈ x.es, e.data.length ≤ 2^40) →
    ACalls P f [.agg a, .agg b] h fun r h' => r = .bool (decide (x = y)) ∧ h' = h

theorem SameLog_ok {P : Program} {f g : FuncId} (hf : Is P f (c_glebekit_SameLog g)) (hg : SameEntriesOk P g) : SameLogOk P f := by
  refine ⟨hf.2, fun F h x y a b hx hy hl hd => obs rfl (fun_sound hf.1 (Nat.le_of_ble_eq_true rfl) ?_)⟩
  show vc P (c_glebekit_SameLog g).code ⟨[(0, .agg a), (1, .agg b)], [], h⟩ (atEnd (c_glebekit_SameLog g).res _)
  simp only [Log.c, RdL, Rd] at hx hy
  obtain ⟨_, _, rfl, rfl, _, _, rfl, rfl, d, _, rfl, hx, rfl⟩ := hx
  obtain ⟨_, _, rfl, rfl, _, _, rfl, rfl, e, _, rfl, hy, rfl⟩ := hy
  simp only [c_glebekit_SameLog, go_sem, reduceIte, Nat.reduceEqDiff, Nat.reduceAdd, Nat.reduceLeDiff, Nat.reducePow, Nat.reduceDiv, Nat.reduceMod, decide_true, hx.scalar, hy.scalar]
  repeat' (first
    | refine wGuardT (fun _ => ?_) (fun _ => ?_)
    | (refine wCall_use ⟨hg.1, hg.2 F _ x.es y.es _ _ (hx.up (Ext.b2 _ _)) (hy.up (Ext.b2 _ _)) hl hd⟩ ?_; rintro _ _ ⟨rfl, rfl⟩)
    | simp only [go_sem, reduceIte, Nat.reduceEqDiff, Nat.reduceAdd, Nat.reduceLeDiff, Nat.reducePow, Nat.reduceDiv, Nat.reduceMod, decide_true, *])
  all_goals exact ⟨by simp [Log.dec, *], Ext.b2 _ _⟩

end Glb

/-
  Functions of the kit of the statements: entries and logs, copied and written over.
-/
namespace Glb
open Go
set_option maxRecDepth 10000

def SmallEntries (l : List Entry) : Prop := l.length ≤ 2^30 ∧ ∀ e ∈ l, e.data.length ≤ 2^40

def CopyEntriesOk (P : Program) (f : FuncId) : Prop :=
  isFn P f = true ∧ ∀ (F : Nat → Prop) (h : AHeap) (x : List Entry) (a : AV), Rd F h (dEntries x) a → SmallEntries x →
    ACalls P f [a] h fun r h' => Own (dEntries x) (fun m => h.length ≤ m) h' r ∧ canApp h' r ∧ Ext nof h h'

end Glb

/-
  Messages and flows; whether a message is big, a message copied.
-/
namespace Glb
open Go
set_option maxRecDepth 10000
set_option maxHeartbeats 4000000

theorem rdL_int {F h k n ds a} : RdL F h (.int k n :: ds) a ↔ ∃ r, a = .int k n :: r ∧ RdL F h ds r := by
  simp only [RdL, Rd]
  constructor
  · rintro ⟨x, r, h1, h2, h3⟩; subst h2; exact ⟨r, h1, h3⟩
  · rintro ⟨r, h1, h3⟩; exact ⟨_, r, h1, rfl, h3⟩
end Glb
