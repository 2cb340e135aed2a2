/-
  A library of its own: its parts, one behind the other.
-/
import Derived.Test.YtodbhmdfmdfiaaaGlbKitA
import Derived.Test.YtodbhmdfmdfiaaaGlbCrlog
import Derived.Test.YtodbhmdfmdfiaaaGlbCgleberef11
set_option linter.unusedSimpArgs false
set_option linter.unusedVariables false
/-
  A group's log: what it tells of itself; the program's functions and the document's do so.
-/
namespace Glb
open Go
set_option maxRecDepth 10000

/-- a log that may be -/
def LogOk (l : Log) : Prop := 0 ≤ l.base ∧ l.base ≤ 2^41 ∧ SmallEntries l.es

def Log.last (l : Log) : Int := l.base + l.es.length
def Log.lastTerm (l : Log) : Int := match l.es[l.es.length - 1]? with
  | some e => e.term
  | none => l.bterm
/-- is there a term at an index -/
def Log.has (l : Log) (i : Int) : Bool := decide (l.base ≤ i) && decide (i ≤ l.last)
/-- the term at an index; 0 where there is none -/
def Log.term (l : Log) (i : Int) : Int := if l.has i then (if i = l.base then l.bterm else match l.es[(i - l.base - 1).toNat]? with
  | some e => e.term
  | none => 0) else 0

def LastOk (P : Program) (f : FuncId) : Prop :=
  isFn P f = true ∧ ∀ (F : Nat → Prop) (h : AHeap) (l : Log) (a : List AV), RdL F h l.c a → LogOk l →
    ACalls P f [.agg a] h fun r h' => r = .tup [.int .i64 l.last, .int .i64 l.lastTerm] ∧ h' = h

theorem rlog_Last_ok {P : Program} {f : FuncId} (hf : Is P f c_rlog_Last) : LastOk P f := by
  refine ⟨hf.2, fun F h l a hl ok => obs (upto_tup2 (upto_int _ _ _) (upto_int _ _ _)) (fun_sound hf.1 (Nat.le_of_ble_eq_true rfl) ?_)⟩
  show vc P c_rlog_Last.code ⟨[(0, .agg a)], [], h⟩ (atEnd c_rlog_Last.res _)
  simp only [Log.c, RdL, Rd] at hl
  obtain ⟨_, _, rfl, rfl, _, _, rfl, rfl, d, _, rfl, hl, rfl⟩ := hl
  have ll := hl.len
  simp only [List.length_map] at ll
  obtain ⟨o1, o2, o3, o4⟩ := ok
  simp only [c_rlog_Last, go_sem, reduceIte, Nat.reduceEqDiff, Nat.reduceAdd, Nat.reduceLeDiff, Nat.reducePow, Nat.reduceDiv, Nat.reduceMod, decide_true, hl.scalar, cells_of hl.scalar, ll]
  refine wCond_split (fun c => ?_) (fun c => ?_)
  · simp at c
    have e1 : IntKind.i64.wrap (l.base + ↑l.es.length) = l.base + ↑l.es.length := wrap_i64 (by omega)
    have e2 : IntKind.i64.wrap ((l.es.length : Int) - 1) = (l.es.length : Int) - 1 := wrap_i64 (by omega)
    have hlt : l.es.length - 1 < l.es.length := by first | omega | (have := List.length_pos_iff.2 c; omega)
    have ht : ((l.es.length : Int) - 1).toNat = l.es.length - 1 := by omega
    obtain ⟨p, cs, hp, hpc, hcs⟩ := hl.index .i64 (i := (l.es.length : Int) - 1) (d := (l.es[l.es.length - 1]).c) (by omega) (by rw [ht]; simp [hlt])
    simp only [Entry.c, RdL, Rd] at hcs
    obtain ⟨_, _, rfl, rfl, _, _, rfl, rfl, d', _, rfl, _, rfl⟩ := hcs
    have hpc1 := pup hpc (Ext.b1 (some (.arr 3 [[.int .i64 l.base, .int .i64 l.bterm, d]] false)))
    simp only [go_sem, reduceIte, Nat.reduceEqDiff, Nat.reduceAdd, Nat.reduceLeDiff, Nat.reducePow, Nat.reduceDiv, Nat.reduceMod, decide_true, e1, e2, hp, afield_p hpc, aload_off hpc1]
    refine ⟨?_, Ext.b1 _⟩
    simp [Log.last, Log.lastTerm, hlt]
  · simp at c
    simp only [go_sem, reduceIte, Nat.reduceEqDiff, Nat.reduceAdd, Nat.reduceLeDiff, Nat.reducePow, Nat.reduceDiv, Nat.reduceMod, decide_true]
    refine ⟨?_, Ext.b1 _⟩
    simp [Log.last, Log.lastTerm, c]

def TermOk (P : Program) (f : FuncId) : Prop :=
  isFn P f = true ∧ ∀ (F : Nat → Prop) (h : AHeap) (l : Log) (a : List AV) (i : Int), RdL F h l.c a → LogOk l →
    ACalls P f [.agg a, .int .i64 i] h fun r h' => r = .tup [.int .i64 (l.term i), .bool (l.has i)] ∧ h' = h

theorem rlog_Term_ok {P : Program} {f g : FuncId} (hf : Is P f (c_rlog_Term g)) (hg : LastOk P g) : TermOk P f := by
  refine ⟨hf.2, fun F h l a i hl ok => obs (upto_tup2 (upto_int _ _ _) (upto_bool _ _)) (fun_sound hf.1 (Nat.le_of_ble_eq_true rfl) ?_)⟩
  show vc P (c_rlog_Term g).code ⟨[(0, .agg a), (1, .int .i64 i)], [], h⟩ (atEnd (c_rlog_Term g).res _)
  have hl0 := hl
  simp only [Log.c, RdL, Rd] at hl
  obtain ⟨_, _, rfl, rfl, _, _, rfl, rfl, d, _, rfl, hl, rfl⟩ := hl
  have ok' := ok
  obtain ⟨o1, o2, o3, o4⟩ := ok
  simp only [c_rlog_Term, go_sem, reduceIte, Nat.reduceEqDiff, Nat.reduceAdd, Nat.reduceLeDiff, Nat.reducePow, Nat.reduceDiv, Nat.reduceMod, decide_true, hl.scalar, cells_of hl.scalar]
  refine wCall_use ⟨hg.1, hg.2 F _ l _ (hl0.up (Ext.b1 _)) ok'⟩ ?_
  rintro _ _ ⟨rfl, rfl⟩
  have hlast : l.last = l.base + l.es.length := rfl
  by_cases h1 : i < l.base
  · have c1 : decide (i < l.base) = true := decide_eq_true h1
    have hh : l.has i = false := by simp [Log.has]; omega
    simp only [go_sem, reduceIte, Nat.reduceEqDiff, Nat.reduceAdd, Nat.reduceLeDiff, Nat.reducePow, Nat.reduceDiv, Nat.reduceMod, decide_true, c1, Log.term, hh]
    exact Ext.b1 _
  have c1 : decide (i < l.base) = false := decide_eq_false h1
  by_cases h2 : l.last < i
  · have c2 : decide (l.last < i) = true := decide_eq_true h2
    have hh : l.has i = false := by simp [Log.has]; omega
    simp only [go_sem, reduceIte, Nat.reduceEqDiff, Nat.reduceAdd, Nat.reduceLeDiff, Nat.reducePow, Nat.reduceDiv, Nat.reduceMod, decide_true, c1, c2, Log.term, hh]
    exact Ext.b1 _
  have c2 : decide (l.last < i) = false := decide_eq_false h2
  have hh : l.has i = true := by simp [Log.has]; omega
  by_cases h3 : i = l.base
  · have c3 : decide (i = l.base) = true := decide_eq_true h3
    simp only [go_sem, reduceIte, Nat.reduceEqDiff, Nat.reduceAdd, Nat.reduceLeDiff, Nat.reducePow, Nat.reduceDiv, Nat.reduceMod, decide_true, c1, c2, c3, Log.term, hh]
    refine ⟨?_, Ext.b1 _⟩
    rw [if_pos h3]
  have c3 : decide (i = l.base) = false := decide_eq_false h3
  have hlt : (i - l.base - 1).toNat < l.es.length := by omega
  have e1 : IntKind.i64.wrap (i - l.base) = i - l.base := wrap_i64 (by omega)
  have e2 : IntKind.i64.wrap (i - l.base - 1) = i - l.base - 1 := wrap_i64 (by omega)
  obtain ⟨p, cs, hp, hpc, hcs⟩ := hl.index .i64 (i := i - l.base - 1) (d := (l.es[(i - l.base - 1).toNat]).c) (by omega) (by rw [List.getElem?_map, List.getElem?_eq_getElem hlt]; rfl)
  simp only [Entry.c, RdL, Rd] at hcs
  obtain ⟨_, _, rfl, rfl, _, _, rfl, rfl, d', _, rfl, _, rfl⟩ := hcs
  have hpc1 := pup hpc (Ext.b1 (some (.arr 3 [[.int .i64 l.base, .int .i64 l.bterm, d]] false)))
  simp only [go_sem, reduceIte, Nat.reduceEqDiff, Nat.reduceAdd, Nat.reduceLeDiff, Nat.reducePow, Nat.reduceDiv, Nat.reduceMod, decide_true, c1, c2, c3, e1, e2, hp, afield_p hpc, aload_off hpc1, Log.term, hh]
  refine ⟨?_, Ext.b1 _⟩
  rw [if_neg h3, List.getElem?_eq_getElem hlt]
theorem rlog_fresh_ok {P : Program} {f : FuncId} (hf : Is P f c_rlog_fresh) : CopyEntriesOk P f := by
  refine ⟨hf.2, fun F h x a hx hl => fun_sound hf.1 (Nat.le_of_ble_eq_true rfl) ?_⟩
  show vc P c_rlog_fresh.code ⟨[(0, a)], [], h⟩ (atEnd c_rlog_fresh.res _)
  have lx := hx.len
  simp only [List.length_map] at lx
  have hl1 := hl.1
  simp only [c_rlog_fresh, go_sem, reduceIte, Nat.reduceEqDiff, Nat.reduceAdd, Nat.reduceLeDiff, Nat.reducePow, Nat.reduceDiv, Nat.reduceMod, decide_true, lx]
  refine vc_loop (fun m L h' => ∃ (i : Nat) (o : AV), lk 6 L = a ∧ lk 7 L = .int .i64 x.length ∧ lk 3 L = o ∧ lk 8 L = .int .i64 i ∧ i ≤ x.length ∧ m = x.length - i ∧
    Own (dEntries (x.take i)) (fun m => h.length ≤ m) h' o ∧ canApp h' o ∧ Ext nof h h') x.length ?_ ?_
  · exact ⟨0, _, by simp [lk_ins, lk_cons], by simp [lk_ins, lk_cons], by simp [lk_ins, lk_cons], by simp [lk_ins], by omega, by omega, Own.nils 3, trivial, Ext.refl _ _⟩
  · rintro m L h' ⟨i, o, h6, h7, h3, h8, hi, rfl, ho, hc, he⟩
    simp only [c_rlog_fresh_l0, go_sem, reduceIte, Nat.reduceEqDiff, Nat.reduceAdd, Nat.reduceLeDiff, Nat.reducePow, Nat.reduceDiv, Nat.reduceMod, decide_true, lx, h6, h7, h3, h8]
    refine wCond_split (fun ci => ?_) (fun ci => ?_)
    · simp at ci
      obtain ⟨p, cs, hp, hpc, hcs⟩ := (hx.up he).index .i64 (i := i) (d := x[i].c) (by omega) (by simp [ci])
      simp only [Entry.c, RdL, Rd] at hcs
      obtain ⟨_, _, rfl, rfl, _, _, rfl, rfl, d, _, rfl, hd, rfl⟩ := hcs
      have hd' : Rd F h' (dBytes x[i].data) d := hd
      have e : IntKind.i64.wrap (↑i + 1) = (i : Int) + 1 := wrap_i64 (by omega)
      generalize hA : (some (.arr 3 [[.int .i64 x[i].term, .int .i64 x[i].kind, d]] false) : Option ABlk) = A
      obtain ⟨ys, hys, hyr⟩ := (hd'.up (Ext.b2 A (some (.arr 1 [] false)))).elems
      obtain ⟨r, h2, ha, hr, _, he2⟩ := own_app (lo := h'.length + 1) (sz := 1) (bytes := 1) (ds := []) (h0 := h' ++ [A] ++ [some (.arr 1 [] false)]) (h := h' ++ [A] ++ [some (.arr 1 [] false)]) (av := .ref (h'.length + 1) 1 0 0 (some 0))
        (by simp only [Own]; exact .inr (.inr ⟨h'.length + 1, 0, some 0, [], false, rfl, Nat.le_refl _, bx21 _ _ _, by simp, (fun c hc => by cases hc; simp), by simp [OwnLL]⟩))
        ⟨[], false, bx21 _ _ _, (fun hc => by cases hc), (fun c hc => by cases hc; simp)⟩ (Ext.refl _ _) (own_ints hyr) (by simp) (by have := hl.2 x[i] (by simp); simp; omega)
      have ha' : aappend (h' ++ [A] ++ [some (.arr 1 [] false)]) 1 1 (.ref (h'.length + 1) 1 0 0 (some 0)) d = some (r, h2) := by rw [aappend_of hys]; exact ha
      have hA2 : h2[h'.length]? = some A := by rw [he2.2 h'.length (by simp) (by simp)]; exact bx20 _ _ _
      have l2 := (List.getElem?_eq_some_iff.1 hA2).1
      subst hA
      simp only [go_sem, reduceIte, Nat.reduceEqDiff, Nat.reduceAdd, Nat.reduceLeDiff, Nat.reducePow, Nat.reduceDiv, Nat.reduceMod, decide_true, h6, h7, h3, h8, hp, aload_p hpc, hd'.scalar, ha', hA2, hr.scalar, cells_of hr.scalar, l2]
      have eB : Ext nof h' (h2.set h'.length (some (.arr 3 [[.int .i64 x[i].term, .int .i64 x[i].kind, r]] false))) :=
        ((Ext.b2 _ _).then he2 (fun m hm hm' => by omega)).setNew (Nat.le_refl _) _
      have hrB : Own (dBytes x[i].data) (fun m => h'.length + 1 ≤ m) (h2.set h'.length (some (.arr 3 [[.int .i64 x[i].term, .int .i64 x[i].kind, r]] false))) r :=
        Own.mono _ (fun m hm => hm) (fun m hm y hy => by rw [List.getElem?_set_ne (by omega)]; exact hy) _ (by simpa [dBytes] using hr)
      generalize hB : h2.set h'.length (some (.arr 3 [[.int .i64 x[i].term, .int .i64 x[i].kind, r]] false)) = B at *
      obtain ⟨o', h3', ha3, ho', hc', he'⟩ := own_app (bytes := 40) (es := [x[i].c]) (h := B ++ [some (.arr 3 [[.int .i64 x[i].term, .int .i64 x[i].kind, r]] false)]) ho hc
        (eB.box _) (ys := [[.int .i64 x[i].term, .int .i64 x[i].kind, r]])
        (by
          simp only [OwnLL, OwnL, Entry.c, Own]
          refine ⟨_, _, rfl, ⟨_, _, rfl, rfl, _, _, rfl, rfl, r, _, rfl, ?_, rfl⟩, rfl⟩
          exact Own.mono _ (fun m hm => by omega) (fun m hm y hy => (Ext.b1 _).get hy) _ hrB) he.1 (by simp; omega)
      have ha3' := aappend_of (aelems_new B 3 [[.int .i64 x[i].term, .int .i64 x[i].kind, r]] false (some 1) (len := 1) rfl) 40 o
      rw [ha3] at ha3'
      simp only [go_sem, reduceIte, Nat.reduceEqDiff, Nat.reduceAdd, Nat.reduceLeDiff, Nat.reducePow, Nat.reduceDiv, Nat.reduceMod, decide_true, h6, h7, h3, h8, e, ha3']
      refine ⟨_, ?_, i + 1, o', rfl, by simp, ci, rfl, ?_, hc', ?_⟩
      · omega
      · have : x.take (i + 1) = x.take i ++ [x[i]] := by simp [ci]
        rw [this, dEntries, List.map_append]; exact ho'
      · exact (he.tr (eB.box _)).then he' (fun m hm hm' => by omega)
    · simp at ci
      simp only [go_sem, reduceIte, Nat.reduceEqDiff, Nat.reduceAdd, Nat.reduceLeDiff, Nat.reducePow, Nat.reduceDiv, Nat.reduceMod, decide_true, h3]
      obtain rfl : i = x.length := by omega
      rw [List.take_length] at ho
      exact ⟨ho, hc, he⟩

theorem SmallEntries.sub {l l' : List Entry} (hl : SmallEntries l) (hn : l'.length ≤ l.length) (hs : ∀ e ∈ l', e ∈ l) : SmallEntries l' := ⟨Nat.le_trans hn hl.1, fun e he => hl.2 e (hs e he)⟩

end Glb

/-
  A group's log: entries laid behind an index, and a log cut; the program's functions and the document's do so.
-/
namespace Glb
open Go
set_option maxRecDepth 10000

end Glb

/-
  A group's log: what the document says of entries that are laid behind an index; and logs cut.
-/
namespace Glb
open Go
set_option maxRecDepth 10000

/-- a log from another base on; the empty one where there is no such index -/
def Log.cut (l : Log) (b : Int) : Log := if l.has b then ⟨b, l.term b, l.es.drop (b - l.base).toNat⟩ else ⟨0, 0, []⟩

def CutOk (P : Program) (f : FuncId) : Prop :=
  isFn P f = true ∧ ∀ (F : Nat → Prop) (h : AHeap) (l : Log) (a : List AV) (i : Int), RdL F h l.c a → LogOk l →
    ACalls P f [.agg a, .int .i64 i] h fun r h' => ∃ cs, r = .tup [.agg cs, .int .i64 (if l.has i then 0 else 3)] ∧ OwnL (l.cut i).c (fun m => h.length ≤ m) h' cs ∧ Ext nof h h'

theorem rlog_Cut_ok {P : Program} {f t k : FuncId} (hf : Is P f (c_rlog_Cut t k)) (ht : TermOk P t) (hk : CopyEntriesOk P k) : CutOk P f := by
  refine ⟨hf.2, fun F h l a i hl ok => fun_sound hf.1 (Nat.le_of_ble_eq_true rfl) ?_⟩
  show vc P (c_rlog_Cut t k).code ⟨[(0, .agg a), (1, .int .i64 i)], [], h⟩ (atEnd (c_rlog_Cut t k).res _)
  have hl0 := hl
  simp only [Log.c, RdL, Rd] at hl
  obtain ⟨_, _, rfl, rfl, _, _, rfl, rfl, d, _, rfl, hl, rfl⟩ := hl
  have ok' := ok
  obtain ⟨o1, o2, o3⟩ := ok
  have o4 := o3.1
  have hlast : l.last = l.base + l.es.length := rfl
  simp only [c_rlog_Cut, go_sem, reduceIte, Nat.reduceEqDiff, Nat.reduceAdd, Nat.reduceLeDiff, Nat.reducePow, Nat.reduceDiv, Nat.reduceMod, decide_true, hl.scalar, cells_of hl.scalar]
  refine wCall_use ⟨ht.1, ht.2 F _ l _ i (hl0.up (Ext.b2 _ _)) ok'⟩ ?_
  rintro _ _ ⟨rfl, rfl⟩
  cases hh : l.has i
  · simp only [go_sem, reduceIte, Nat.reduceEqDiff, Nat.reduceAdd, Nat.reduceLeDiff, Nat.reducePow, Nat.reduceDiv, Nat.reduceMod, decide_true, hh]
    refine ⟨_, rfl, ?_, Ext.b2 _ _⟩
    simp only [Log.cut, hh, Log.c, OwnL, Own]
    exact ⟨_, _, rfl, rfl, _, _, rfl, rfl, _, _, rfl, Own.nils 3, rfl⟩
  · have hi : l.base ≤ i ∧ i ≤ l.last := by simpa [Log.has] using hh
    have e1 : IntKind.i64.wrap (i - l.base) = i - l.base := wrap_i64 (by omega)
    obtain ⟨q, hq, hqr⟩ := hl.slice (lo := some (i - l.base)) (hi := none) (mx := none) (by simp; omega) (by simp; omega) (by simp) (by simp) (by simp) (by simp)
    simp only [Option.getD_some, Option.getD_none, Int.toNat_natCast, List.take_length] at hqr
    rw [← List.map_drop] at hqr
    simp only [go_sem, reduceIte, Nat.reduceEqDiff, Nat.reduceAdd, Nat.reduceLeDiff, Nat.reducePow, Nat.reduceDiv, Nat.reduceMod, decide_true, hh, e1, hq]
    refine wCall_use ⟨hk.1, hk.2 F _ (l.es.drop (i - l.base).toNat) q (Rd.up hqr (Ext.b2 _ _)) (o3.sub (by simp) (fun x hx => List.mem_of_mem_drop hx))⟩ ?_
    rintro r h2 ⟨hr, _, he⟩
    have hB := he.get (bx21 _ _ _)
    have l2 := (List.getElem?_eq_some_iff.1 hB).1
    simp only [go_sem, reduceIte, Nat.reduceEqDiff, Nat.reduceAdd, Nat.reduceLeDiff, Nat.reducePow, Nat.reduceDiv, Nat.reduceMod, decide_true, hB, hr.scalar, cells_of hr.scalar, l2]
    refine ⟨_, rfl, ?_, ((Ext.b2 _ _).tr he).setNew (by omega) _⟩
    simp only [Log.cut, hh, Log.c, OwnL, Own]
    refine ⟨_, _, rfl, rfl, _, _, rfl, rfl, r, _, rfl, ?_, rfl⟩
    exact Own.mono _ (fun m hm => by simp at hm; omega) (fun m hm y hy => by simp at hm; rw [List.getElem?_set_ne (by omega)]; exact hy) _ hr
end Glb
