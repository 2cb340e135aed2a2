/-
  A group's log: entries laid behind an index, and a log cut; the program's functions and the document's do so.
-/
import Derived.Test.YtoijpkpfgamlpaaGlbLog
set_option linter.unusedSimpArgs false
set_option linter.unusedVariables false
namespace Glb
open Go
set_option maxRecDepth 10000

/-- how many of some entries stand at an index and behind it already -/
def Log.agree (l : Log) : Int → List Entry → Nat
  | _, [] => 0
  | at_, e :: r => if (l.has at_ && decide (l.term at_ = e.term)) = true then l.agree (at_ + 1) r + 1 else 0

theorem agree_le (l : Log) : ∀ (e : List Entry) (i : Int), l.agree i e ≤ e.length := by
  intro e
  induction e with
  | nil => intro i; simp [Log.agree]
  | cons x r ih => intro i; simp only [Log.agree]; split
                   · have := ih (i + 1); simp; omega
                   · simp

theorem agree_is (l : Log) : ∀ (e : List Entry) (i : Int) (k : Nat), k ≤ e.length → (∀ (j : Nat) (hj : j < e.length), j < k → (l.has (i + j) && decide (l.term (i + j) = e[j].term)) = true) →
    (∀ hk : k < e.length, (l.has (i + k) && decide (l.term (i + k) = e[k].term)) = false) → l.agree i e = k := by
  intro e
  induction e with
  | nil => intro i k hk _ _; simp at hk; subst hk; rfl
  | cons x r ih =>
    intro i k hk h1 h2
    cases k with
    | zero =>
      have := h2 (by simp)
      simp only [Log.agree]
      simp at this ⊢
      exact this
    | succ k =>
      have h0 := h1 0 (by simp) (by omega)
      simp only [Log.agree]
      simp only [Int.natCast_zero, Int.add_zero, List.getElem_cons_zero] at h0
      rw [if_pos h0, ih (i + 1) k (by simpa using hk)]
      · intro j hj hj'
        have := h1 (j + 1) (by simpa using hj) (by omega)
        simp only [List.getElem_cons_succ] at this
        rw [show i + 1 + (j : Int) = i + ((j + 1 : Nat) : Int) by omega]; exact this
      · intro hk'
        have := h2 (by simpa using hk')
        simp only [List.getElem_cons_succ] at this
        rw [show i + 1 + (k : Int) = i + ((k + 1 : Nat) : Int) by omega]; exact this

/-- a log behind entries that are laid behind an index -/
def Log.laid (l : Log) (prev : Int) (e : List Entry) : Log :=
  if l.has prev = true ∧ l.agree (prev + 1) e < e.length then ⟨l.base, l.bterm, l.es.take (prev + l.agree (prev + 1) e - l.base).toNat ++ e.drop (l.agree (prev + 1) e)⟩ else l
/-- the first that was laid; 0: none -/
def Log.laidAt (l : Log) (prev : Int) (e : List Entry) : Int :=
  if l.has prev = true ∧ l.agree (prev + 1) e < e.length then prev + 1 + l.agree (prev + 1) e else 0

def AppendOk (P : Program) (f : FuncId) : Prop :=
  isFn P f = true ∧ ∀ (F : Nat → Prop) (h : AHeap) (l : Log) (a : List AV) (prev : Int) (e : List Entry) (b : AV), RdL F h l.c a → Rd F h (dEntries e) b → LogOk l → SmallEntries e →
    ACalls P f [.agg a, .int .i64 prev, b] h fun r h' => ∃ cs, r = .tup [.agg cs, .int .i64 (l.laidAt prev e)] ∧ OwnL (l.laid prev e).c (fun m => h.length ≤ m) h' cs ∧ Ext nof h h'

theorem rlog_Append_ok {P : Program} {f g k t : FuncId} (hf : Is P f (c_rlog_Append g k t)) (hg : LastOk P g) (hk : CopyEntriesOk P k) (ht : TermOk P t) : AppendOk P f := by
  refine ⟨hf.2, fun F h l a prev e b hl hb ok oke => fun_sound hf.1 (Nat.le_of_ble_eq_true rfl) ?_⟩
  show vc P (c_rlog_Append g k t).code ⟨[(0, .agg a), (1, .int .i64 prev), (2, b)], [], h⟩ (atEnd (c_rlog_Append g k t).res _)
  have hl0 := hl
  simp only [Log.c, RdL, Rd] at hl
  obtain ⟨_, _, rfl, rfl, _, _, rfl, rfl, d, _, rfl, hl, rfl⟩ := hl
  have ok' := ok
  obtain ⟨o1, o2, o3⟩ := ok
  have o4 := o3.1
  have lb := hb.len
  simp only [List.length_map] at lb
  have hlast : l.last = l.base + l.es.length := rfl
  simp only [c_rlog_Append, go_sem, reduceIte, Nat.reduceEqDiff, Nat.reduceAdd, Nat.reduceLeDiff, Nat.reducePow, Nat.reduceDiv, Nat.reduceMod, decide_true, hl.scalar, cells_of hl.scalar]
  refine wCall_use ⟨hg.1, hg.2 F _ l _ (hl0.up (Ext.b2 _ _)) ok'⟩ ?_
  rintro _ _ ⟨rfl, rfl⟩
  simp only [go_sem, reduceIte, Nat.reduceEqDiff, Nat.reduceAdd, Nat.reduceLeDiff, Nat.reducePow, Nat.reduceDiv, Nat.reduceMod, decide_true]
  refine wCall_use ⟨hk.1, hk.2 F _ l.es d (hl.up (Ext.b2 _ _)) o3⟩ ?_
  rintro r h2 ⟨hr, hrc, he⟩
  have hA := he.get (bx20 _ _ _)
  have hB := he.get (bx21 _ _ _)
  have l1 := (List.getElem?_eq_some_iff.1 hA).1
  have l2 := (List.getElem?_eq_some_iff.1 hB).1
  simp only [go_sem, reduceIte, Nat.reduceEqDiff, Nat.reduceAdd, Nat.reduceLeDiff, Nat.reducePow, Nat.reduceDiv, Nat.reduceMod, decide_true, hA, hr.scalar, cells_of hr.scalar, l1, l2]
  have he3 : Ext nof h (h2.set h.length (some (.arr 3 [[.int .i64 l.base, .int .i64 l.bterm, r]] false))) := ((Ext.b2 _ _).tr he).setNew (Nat.le_refl _) _
  have hr3 : Own (dEntries l.es) (fun m => h.length + 2 ≤ m) (h2.set h.length (some (.arr 3 [[.int .i64 l.base, .int .i64 l.bterm, r]] false))) r :=
    Own.mono _ (fun m hm => by simp at hm; omega) (fun m hm y hy => by simp at hm; rw [List.getElem?_set_ne (by omega)]; exact hy) _ hr
  have hc3 : canApp (h2.set h.length (some (.arr 3 [[.int .i64 l.base, .int .i64 l.bterm, r]] false))) r :=
    hrc.keep hr (fun m hm y hy => by simp at hm; rw [List.getElem?_set_ne (by omega)]; exact hy)
  have hA3 : (h2.set h.length (some (.arr 3 [[.int .i64 l.base, .int .i64 l.bterm, r]] false)))[h.length]? = some (some (.arr 3 [[.int .i64 l.base, .int .i64 l.bterm, r]] false)) := List.getElem?_set_self l1
  have hB3 : (h2.set h.length (some (.arr 3 [[.int .i64 l.base, .int .i64 l.bterm, r]] false)))[h.length + 1]? = some (some (.arr 3 [[.int .i64 0, .int .i64 0, .nils]] false)) := by
    rw [List.getElem?_set_ne (by omega)]; exact hB
  generalize h2.set h.length (some (.arr 3 [[.int .i64 l.base, .int .i64 l.bterm, r]] false)) = h3 at *
  have l13 := (List.getElem?_eq_some_iff.1 hA3).1
  have l23 := (List.getElem?_eq_some_iff.1 hB3).1
  have hrl : RdL (fun m => h.length + 2 ≤ m) h3 l.c [.int .i64 l.base, .int .i64 l.bterm, r] := by
    simp only [Log.c, RdL, Rd]
    exact ⟨_, _, rfl, rfl, _, _, rfl, rfl, _, _, rfl, Own.rd _ (fun _ x => x) _ hr3, rfl⟩
  have stay : l.laid prev e = l → Own (dEntries l.es) (fun m => h.length + 2 ≤ m) h3 r → OwnL (l.laid prev e).c (fun m => h.length ≤ m) (h3.set (h.length + 1) (some (.arr 3 [[.int .i64 l.base, .int .i64 l.bterm, r]] false))) [.int .i64 l.base, .int .i64 l.bterm, r] := by
    intro e1 e2
    rw [e1]
    simp only [Log.c, OwnL, Own]
    exact ⟨_, _, rfl, rfl, _, _, rfl, rfl, _, _, rfl, Own.mono _ (fun m hm => by omega) (fun m hm y hy => by rw [List.getElem?_set_ne (by omega)]; exact hy) _ e2, rfl⟩
  by_cases h1 : prev < l.base
  · have hh : l.has prev = false := by simp [Log.has]; omega
    simp only [go_sem, reduceIte, Nat.reduceEqDiff, Nat.reduceAdd, Nat.reduceLeDiff, Nat.reducePow, Nat.reduceDiv, Nat.reduceMod, decide_true, decide_eq_true h1, hA3, hB3, hr3.scalar, l13, l23]
    have e1 : l.laid prev e = l := by simp [Log.laid, hh]
    have e2 : l.laidAt prev e = 0 := by simp [Log.laidAt, hh]
    rw [e2]
    exact ⟨_, rfl, stay e1 hr3, he3.setNew (by omega) _⟩
  by_cases h2 : l.last < prev
  · have hh : l.has prev = false := by simp [Log.has]; omega
    simp only [go_sem, reduceIte, Nat.reduceEqDiff, Nat.reduceAdd, Nat.reduceLeDiff, Nat.reducePow, Nat.reduceDiv, Nat.reduceMod, decide_true, decide_eq_false h1, decide_eq_true h2, hA3, hB3, hr3.scalar, l13, l23]
    have e1 : l.laid prev e = l := by simp [Log.laid, hh]
    have e2 : l.laidAt prev e = 0 := by simp [Log.laidAt, hh]
    rw [e2]
    exact ⟨_, rfl, stay e1 hr3, he3.setNew (by omega) _⟩
  have hh : l.has prev = true := by simp [Log.has]; omega
  have oe := oke.1
  simp only [go_sem, reduceIte, Nat.reduceEqDiff, Nat.reduceAdd, Nat.reduceLeDiff, Nat.reducePow, Nat.reduceDiv, Nat.reduceMod, decide_true, decide_eq_false h1, decide_eq_false h2, hA3, lb]
  refine vc_loop (fun m L h' => ∃ i : Nat, lk 1 L = .int .i64 prev ∧ lk 2 L = b ∧ lk 3 L = .ptr h.length 3 0 0 ∧ lk 6 L = .ptr (h.length + 1) 3 0 0 ∧ lk 35 L = .int .i64 e.length ∧ lk 36 L = .int .i64 i ∧ h' = h3 ∧ i ≤ e.length ∧ m = e.length - i ∧
    ∀ (j : Nat) (hj : j < e.length), j < i → (l.has (prev + 1 + j) && decide (l.term (prev + 1 + j) = e[j].term)) = true) e.length ?_ ?_
  · exact ⟨0, by simp [lk_ins, lk_cons], by simp [lk_ins, lk_cons], by simp [lk_ins, lk_cons], by simp [lk_ins, lk_cons], by simp [lk_ins, lk_cons], by simp [lk_ins], rfl, by omega, by omega, by omega⟩
  · rintro m L h' ⟨i, k1, k2, k3, k6, k35, k36, rfl, hi, rfl, hj⟩
    have hb3 : Rd F h' (dEntries e) b := hb.up he3
    simp only [c_rlog_Append_l0, go_sem, reduceIte, Nat.reduceEqDiff, Nat.reduceAdd, Nat.reduceLeDiff, Nat.reducePow, Nat.reduceDiv, Nat.reduceMod, decide_true, k1, k2, k3, k6, k35, k36]
    by_cases hc : i < e.length
    · have c1 : decide ((i : Int) < e.length) = true := decide_eq_true (by omega)
      have e1 : IntKind.i64.wrap (prev + 1) = prev + 1 := wrap_i64 (by omega)
      have e2 : IntKind.i64.wrap (prev + 1 + ↑i) = prev + 1 + ↑i := wrap_i64 (by omega)
      have e3 : IntKind.i64.wrap (↑i + 1) = (i : Int) + 1 := wrap_i64 (by omega)
      simp only [go_sem, reduceIte, Nat.reduceEqDiff, Nat.reduceAdd, Nat.reduceLeDiff, Nat.reducePow, Nat.reduceDiv, Nat.reduceMod, decide_true, k1, k2, k3, k6, k35, k36, c1, e1, e2, hA3]
      refine wCall_use ⟨ht.1, ht.2 _ _ l _ (prev + 1 + ↑i) hrl ok'⟩ ?_
      rintro _ _ ⟨rfl, rfl⟩
      obtain ⟨p, cs, hp, hpc, hcs⟩ := hb3.index .i64 (i := (i : Int)) (d := (e[i]).c) (by omega) (by rw [Int.toNat_natCast, List.getElem?_map, List.getElem?_eq_getElem hc]; rfl)
      simp only [Entry.c, RdL, Rd] at hcs
      obtain ⟨_, _, rfl, rfl, _, _, rfl, rfl, d', _, rfl, _, rfl⟩ := hcs
      by_cases hm : (l.has (prev + 1 + i) && decide (l.term (prev + 1 + i) = e[i].term)) = true
      · have hm' := hm
        rw [Bool.and_eq_true] at hm'
        simp only [go_sem, reduceIte, Nat.reduceEqDiff, Nat.reduceAdd, Nat.reduceLeDiff, Nat.reducePow, Nat.reduceDiv, Nat.reduceMod, decide_true, k1, k2, k3, k6, k35, k36, hm'.1, hm'.2, hp, afield_p hpc, aload_off hpc, e3]
        refine ⟨_, ?_, i + 1, by simp, hc, rfl, fun j hj1 hj2 => ?_⟩
        · omega
        · rcases Nat.lt_or_ge j i with hlt | hge
          · exact hj j hj1 hlt
          · obtain rfl : j = i := by omega
            exact hm
      · have hag : l.agree (prev + 1) e = i := agree_is l e (prev + 1) i hi hj (fun _ => by simpa using hm)
        have hpi : prev + i ≤ l.last := by
          rcases Nat.eq_zero_or_pos i with h0 | h0
          · omega
          · have := hj (i - 1) (by omega) (by omega)
            simp only [Log.has, Bool.and_eq_true, decide_eq_true_eq] at this
            omega
        have e4 : IntKind.i64.wrap (prev + 1 + ↑i - l.base) = prev + 1 + ↑i - l.base := wrap_i64 (by omega)
        have e5 : IntKind.i64.wrap (prev + 1 + ↑i - l.base - 1) = prev + 1 + ↑i - l.base - 1 := wrap_i64 (by omega)
        obtain ⟨q, hq, hqo, hqc⟩ := own_clip hr3 (k := prev + 1 + ↑i - l.base - 1) (by omega) (by simp; omega)
        obtain ⟨q2, hq2, hq2r⟩ := hb3.slice (lo := some (i : Int)) (hi := none) (mx := none) (by simp) (by simp; omega) (by simp) (by simp) (by simp) (by simp)
        simp only [Option.getD_some, Option.getD_none, Int.toNat_natCast, List.take_length] at hq2r
        rw [← List.map_drop] at hq2r
        have hx : l.has (prev + 1 + ↑i) = false ∨ (l.has (prev + 1 + ↑i) = true ∧ decide (l.term (prev + 1 + ↑i) = e[i].term) = false) := by
          cases hh1 : l.has (prev + 1 + ↑i)
          · exact .inl rfl
          · rw [hh1, Bool.true_and] at hm
            exact .inr ⟨rfl, by simpa using hm⟩
        rcases hx with hx | hx
        all_goals
          simp only [go_sem, reduceIte, Nat.reduceEqDiff, Nat.reduceAdd, Nat.reduceLeDiff, Nat.reducePow, Nat.reduceDiv, Nat.reduceMod, decide_true, k1, k2, k3, k6, k35, k36, hx, hp, afield_p hpc, aload_off hpc, hA3, e4, e5, hq, hq2]
          refine wCall_use ⟨hk.1, hk.2 F _ (e.drop i) q2 hq2r (oke.sub (by simp) (fun x hx => List.mem_of_mem_drop hx))⟩ ?_
          rintro r2 h4 ⟨hr2, _, he4⟩
          obtain ⟨ys, hys, hyo⟩ := hr2.elems
          obtain ⟨r5, h5, ha5, ho5, _, he5⟩ := own_app (bytes := 40) hqo hqc he4 hyo (by omega) (by simp; omega)
          have ha5' := aappend_of hys 40 q
          rw [ha5] at ha5'
          have hA4 := he4.get hA3
          have hA5 : h5[h.length]? = some (some (.arr 3 [[.int .i64 l.base, .int .i64 l.bterm, r]] false)) := by rw [he5.2 _ (List.getElem?_eq_some_iff.1 hA4).1 (by omega)]; exact hA4
          have hB4 := he4.get hB3
          have hB5 : h5[h.length + 1]? = some (some (.arr 3 [[.int .i64 0, .int .i64 0, .nils]] false)) := by rw [he5.2 _ (List.getElem?_eq_some_iff.1 hB4).1 (by omega)]; exact hB4
          have l15 := (List.getElem?_eq_some_iff.1 hA5).1
          have l25 := (List.getElem?_eq_some_iff.1 hB5).1
          simp only [go_sem, reduceIte, Nat.reduceEqDiff, Nat.reduceAdd, Nat.reduceLeDiff, Nat.reducePow, Nat.reduceDiv, Nat.reduceMod, decide_true, k1, k2, k3, k6, k35, k36, hA4, ha5', hA5, hB5, ho5.scalar, cells_of ho5.scalar, l15, l25, List.length_set]
          have el : l.laid prev e = ⟨l.base, l.bterm, l.es.take (prev + 1 + ↑i - l.base - 1).toNat ++ e.drop i⟩ := by
            simp only [Log.laid, hag]
            rw [if_pos ⟨hh, hc⟩]
            congr 3; omega
          have el2 : l.laidAt prev e = prev + 1 + ↑i := by
            simp only [Log.laidAt, hag]
            rw [if_pos ⟨hh, hc⟩]
          rw [el2, el]
          refine ⟨_, rfl, ?_, ?_⟩
          · simp only [Log.c, OwnL, Own]
            refine ⟨_, _, rfl, rfl, _, _, rfl, rfl, r5, _, rfl, ?_, rfl⟩
            rw [dEntries, List.map_append, List.map_take]
            exact Own.mono _ (fun m hm => by omega) (fun m hm y hy => by rw [List.getElem?_set_ne (by omega), List.getElem?_set_ne (by omega)]; exact hy) _ ho5
          · exact (((he3.tr he4).then he5 (fun m hm hm' => by omega)).setNew (by omega) _).setNew (by omega) _
    · have c1 : decide ((i : Int) < e.length) = false := decide_eq_false (by omega)
      simp only [go_sem, reduceIte, Nat.reduceEqDiff, Nat.reduceAdd, Nat.reduceLeDiff, Nat.reducePow, Nat.reduceDiv, Nat.reduceMod, decide_true, k1, k2, k3, k6, k35, k36, c1, hA3, hB3, hr3.scalar, l13, l23]
      have hag : l.agree (prev + 1) e = i := agree_is l e (prev + 1) i hi hj (fun hk => absurd hk hc)
      have e1 : l.laid prev e = l := by simp only [Log.laid]; rw [if_neg (by omega)]
      have e2 : l.laidAt prev e = 0 := by simp only [Log.laidAt]; rw [if_neg (by omega)]
      rw [e2]
      exact ⟨_, rfl, stay e1 hr3, he3.setNew (by omega) _⟩

end Glb
