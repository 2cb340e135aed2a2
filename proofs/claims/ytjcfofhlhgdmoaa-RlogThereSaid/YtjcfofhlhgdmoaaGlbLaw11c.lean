/-
  The statements on a group's log: logs that are cut.
-/
import Derived.Test.YtjcfofhlhgdmoaaGlbLaw11l
set_option linter.unusedSimpArgs false
set_option linter.unusedVariables false
namespace Glb
open Go
set_option maxRecDepth 10000
set_option maxHeartbeats 4000000

theorem has_iff {l : Log} {i : Int} : l.has i = true ↔ l.base ≤ i ∧ i ≤ l.last := by simp [Log.has]

theorem cut_is {l : Log} {b : Int} (hb : l.has b = true) : l.cut b = ⟨b, l.term b, l.es.drop (b - l.base).toNat⟩ := by simp only [Log.cut, hb, if_true]

theorem cut_last {l : Log} {b : Int} (hb : l.has b = true) : (l.cut b).last = l.last := by
  have h := has_iff.1 hb
  rw [cut_is hb]
  simp only [Log.last, List.length_drop] at *
  omega

theorem cut_has {l : Log} {b k : Int} (hb : l.has b = true) (hk : b ≤ k) : (l.cut b).has k = l.has k := by
  have h := has_iff.1 hb
  rw [Bool.eq_iff_iff, has_iff, has_iff, cut_last hb, cut_is hb]
  simp only; omega

theorem cut_out {l : Log} {b : Int} (hb : l.has b = true) : (l.cut b).has (b - 1) = false := by
  rw [Bool.eq_false_iff, Ne, has_iff, cut_is hb]
  simp only; omega

theorem term_eq (l : Log) (i : Int) : l.term i = if l.has i then (if i = l.base then l.bterm else ((l.es[(i - l.base - 1).toNat]?).map Entry.term).getD 0) else 0 := by
  simp only [Log.term]
  cases l.es[(i - l.base - 1).toNat]? <;> rfl

theorem lastTerm_eq (l : Log) : l.lastTerm = ((l.es[l.es.length - 1]?).map Entry.term).getD l.bterm := by
  simp only [Log.lastTerm]
  cases l.es[l.es.length - 1]? <;> rfl

theorem cut_term {l : Log} {b k : Int} (hb : l.has b = true) (hk : b ≤ k) : (l.cut b).term k = l.term k := by
  have h := has_iff.1 hb
  rw [term_eq, term_eq l k, cut_has hb hk]
  cases hh : l.has k with
  | false => simp
  | true =>
    have h' := has_iff.1 hh
    rw [cut_is hb, if_pos rfl, if_pos rfl]
    simp only
    by_cases e : k = b
    · rw [if_pos e, e, term_eq, hb, if_pos rfl]
    · rw [if_neg e, if_neg (by omega), List.getElem?_drop]
      rw [show (b - l.base).toNat + (k - b - 1).toNat = (k - l.base - 1).toNat by omega]

theorem cut_slice {l : Log} {b k n : Int} (hb : l.has b = true) (hk : b ≤ k) : (l.cut b).slice (k + 1) n = l.slice (k + 1) n := by
  have h := has_iff.1 hb
  simp only [Log.slice]
  rw [cut_last hb, cut_is hb]
  simp only [List.drop_drop]
  by_cases c : l.last < k + 1 ∨ n < 1
  · rw [if_pos (by omega), if_pos (by omega)]
  · rw [if_neg (by omega), if_neg (by omega)]
    rw [show (b - l.base).toNat + (k + 1 - b - 1).toNat = (k + 1 - l.base - 1).toNat by omega]

theorem lastTerm_term {l : Log} : l.lastTerm = l.term l.last := by
  have hh : l.has l.last = true := has_iff.2 ⟨by simp only [Log.last]; omega, Int.le_refl _⟩
  rw [term_eq, hh, if_pos rfl, lastTerm_eq, Log.last]
  by_cases hl : l.es = []
  · simp [hl]
  · have hp := List.length_pos_iff.2 hl
    rw [if_neg (by omega)]
    rw [show (l.base + (l.es.length : Int) - l.base - 1).toNat = l.es.length - 1 by omega]
    rw [List.getElem?_eq_getElem (by omega)]
    rfl

theorem cut_lastTerm {l : Log} {b : Int} (hb : l.has b = true) : (l.cut b).lastTerm = l.lastTerm := by
  have h := has_iff.1 hb
  rw [lastTerm_term, lastTerm_term, cut_last hb, cut_term hb h.2]

theorem sliceSmall {l : Log} (hl : SmallEntries l.es) (i n : Int) : SmallEntries (l.slice i n) := by
  refine hl.sub ?_ ?_
  · simp only [Log.slice]; split
    · simp
    · simp; omega
  · intro e he
    simp only [Log.slice] at he
    split at he
    · simp at he
    · exact List.mem_of_mem_drop (List.mem_of_mem_take he)

theorem cutLaw_ok {P : Program} {f fr fk fl fc ft fs se : FuncId} (hf : Is P f (c_glebelaw11_RlogCut fr fk fl fc ft fs se)) (hr : RightOk P fr) (hk : YesOk P fk)
    (hl : LastOk P fl) (hc : CutOk P fc) (ht : TermOk P ft) (hs : SliceOk P fs) (hse : SameEntriesOk P se)
    (l : Log) (i : Int) (h : AHeap) :
    ACalls P f [.agg (D.avL l.c), .int .i64 i] h fun r _ => r = .bool true := by
  refine fun_sound hf.1 (Nat.le_of_ble_eq_true rfl) ?_
  show vc P (c_glebelaw11_RlogCut fr fk fl fc ft fs se).code ⟨[(0, .agg (D.avL l.c)), (1, .int .i64 i)], [], h⟩ (atEnd (c_glebelaw11_RlogCut fr fk fl fc ft fs se).res _)
  have hL : ∀ h, RdL nof h l.c [.int .i64 l.base, .int .i64 l.bterm, (dEntries l.es).av] := fun h => rdL_av nof h l.c
  have hcells : D.avL l.c = [.int .i64 l.base, .int .i64 l.bterm, (dEntries l.es).av] := rfl
  have hsc := av_scalar (dEntries l.es)
  generalize (dEntries l.es).av = dd at *
  rw [hcells]
  simp only [c_glebelaw11_RlogCut, go_sem, reduceIte, Nat.reduceEqDiff, Nat.reduceAdd, Nat.reduceLeDiff, Nat.reducePow, Nat.reduceDiv, Nat.reduceMod, decide_true, hsc]
  have no : ∀ {h : AHeap} {K : AV → AHeap → Prop}, K (.bool true) h → wCall P fk [] h K := fun hK => wCall_use ⟨hk.1, hk.2 _⟩ (by rintro _ _ ⟨rfl, rfl⟩; exact hK)
  refine wCall_use ⟨hr.1, hr.2 nof _ l _ (hL _)⟩ ?_
  rintro _ _ ⟨b1, rfl, e1, hb1⟩
  subst e1
  cases b1
  · simp only [go_sem, reduceIte, Nat.reduceEqDiff, Nat.reduceAdd, Nat.reduceLeDiff, Nat.reducePow, Nat.reduceDiv, Nat.reduceMod, decide_true]
    refine no ?_
    simp only [go_sem, reduceIte, Nat.reduceEqDiff, Nat.reduceAdd, Nat.reduceLeDiff, Nat.reducePow, Nat.reduceDiv, Nat.reduceMod, decide_true]
  have hR := hb1 rfl
  have ok := hR.ok
  simp only [go_sem, reduceIte, Nat.reduceEqDiff, Nat.reduceAdd, Nat.reduceLeDiff, Nat.reducePow, Nat.reduceDiv, Nat.reduceMod, decide_true]
  refine wCall_use ⟨hl.1, hl.2 nof _ l _ (hL _) ok⟩ ?_
  rintro _ H ⟨rfl, e1⟩
  subst e1
  simp only [go_sem, reduceIte, Nat.reduceEqDiff, Nat.reduceAdd, Nat.reduceLeDiff, Nat.reducePow, Nat.reduceDiv, Nat.reduceMod, decide_true]
  refine wCall_use ⟨hc.1, hc.2 nof _ l _ i (hL _) ok⟩ ?_
  rintro _ h1 ⟨_, rfl, hx, x1⟩
  obtain ⟨rx, rfl, hx'⟩ := own_log hx
  have A1 := x1.get (bx10 _ _)
  have hxr : RdL (fun _ => True) h1 (l.cut i).c [.int .i64 (l.cut i).base, .int .i64 (l.cut i).bterm, rx] := rd_log (Own.rd _ (fun _ _ => trivial) _ hx')
  have hlast : l.last = l.base + l.es.length := rfl
  have o3 := hR.2.2.1
  have ob := hR.1.2
  have ob0 := ok.1
  cases hh : l.has i
  · have hi : ¬ (l.base ≤ i ∧ i ≤ l.last) := by rw [← has_iff, hh]; simp
    have e0 : l.cut i = ⟨0, 0, []⟩ := by simp [Log.cut, hh]
    have hlen : alen rx = some (.int .i64 0) := by
      rw [e0] at hx'
      exact (Own.rd _ (F' := fun _ => True) (fun _ _ => trivial) _ hx').len
    have e3 : (if false = true then (0 : Int) else 3) = 3 := by simp
    have eb : (l.cut i).base = 0 := by rw [e0]
    have et : (l.cut i).bterm = 0 := by rw [e0]
    have A1' := (Ext.b1 (some (.arr 3 [[.int .i64 0, .int .i64 0, rx]] false))).get A1
    have X1 := bx10 h1 (some (.arr 3 [[.int .i64 0, .int .i64 0, rx]] false))
    simp only [go_sem, reduceIte, Nat.reduceEqDiff, Nat.reduceAdd, Nat.reduceLeDiff, Nat.reducePow, Nat.reduceDiv, Nat.reduceMod, decide_true, hx'.scalar, e3, eb, et, A1']
    by_cases h1' : i < l.base
    · simp only [go_sem, reduceIte, Nat.reduceEqDiff, Nat.reduceAdd, Nat.reduceLeDiff, Nat.reducePow, Nat.reduceDiv, Nat.reduceMod, decide_true, decide_eq_true h1', X1, hlen, decide_true]
      refine no ?_
      simp only [go_sem, reduceIte, Nat.reduceEqDiff, Nat.reduceAdd, Nat.reduceLeDiff, Nat.reducePow, Nat.reduceDiv, Nat.reduceMod, decide_true]
    · simp only [go_sem, reduceIte, Nat.reduceEqDiff, Nat.reduceAdd, Nat.reduceLeDiff, Nat.reducePow, Nat.reduceDiv, Nat.reduceMod, decide_true, decide_eq_false h1', decide_eq_true (show l.last < i by omega), X1, hlen, decide_true]
      refine no ?_
      simp only [go_sem, reduceIte, Nat.reduceEqDiff, Nat.reduceAdd, Nat.reduceLeDiff, Nat.reducePow, Nat.reduceDiv, Nat.reduceMod, decide_true]
  · have hi := has_iff.1 hh
    have e3 : (if true = true then (0 : Int) else 3) = 0 := by simp
    have eb : (l.cut i).base = i := by rw [cut_is hh]
    have okx : LogOk (l.cut i) := ⟨by omega, by omega, cut_small ok.2.2 i⟩
    have A2 := (Ext.b1 (some (.arr 3 [[.int .i64 (l.cut i).base, .int .i64 (l.cut i).bterm, rx]] false))).get A1
    have X2 := bx10 h1 (some (.arr 3 [[.int .i64 (l.cut i).base, .int .i64 (l.cut i).bterm, rx]] false))
    have R2 := hxr.up (Ext.b1 (some (.arr 3 [[.int .i64 (l.cut i).base, .int .i64 (l.cut i).bterm, rx]] false)))
    simp only [go_sem, reduceIte, Nat.reduceEqDiff, Nat.reduceAdd, Nat.reduceLeDiff, Nat.reducePow, Nat.reduceDiv, Nat.reduceMod, decide_true, hx'.scalar, e3, A2, decide_eq_false (show ¬ i < l.base by omega), decide_eq_false (show ¬ l.last < i by omega), X2]
    generalize h1 ++ [some (.arr 3 [[.int .i64 (l.cut i).base, .int .i64 (l.cut i).bterm, rx]] false)] = H at *
    refine wCall_use ⟨hl.1, hl.2 _ _ (l.cut i) _ R2 okx⟩ ?_
    rintro _ H ⟨rfl, e1⟩
    subst e1
    simp only [go_sem, reduceIte, Nat.reduceEqDiff, Nat.reduceAdd, Nat.reduceLeDiff, Nat.reducePow, Nat.reduceDiv, Nat.reduceMod, decide_true, eb, cut_last hh, cut_lastTerm hh, decide_true, X2]
    rw [eb] at X2 R2
    refine vc_loop (fun m L h' => ∃ (k : Int), lk 1 L = .int .i64 i ∧ lk 2 L = .ptr h.length 3 0 0 ∧ lk 7 L = .ptr h1.length 3 0 0 ∧ lk 5 L = .int .i64 l.last ∧ lk 11 L = .int .i64 k ∧ i ≤ k ∧ k ≤ l.last + 1 ∧ m = (l.last + 1 - k).toNat ∧ Ext nof H h') (l.last + 1 - i).toNat ?_ ?_
    · exact ⟨i, by simp [lk_ins, lk_cons], by simp [lk_ins, lk_cons], by simp [lk_ins, lk_cons], by simp [lk_ins, lk_cons], by simp [lk_ins, lk_cons], by omega, by omega, rfl, Ext.refl _ _⟩
    · rintro m L h' ⟨k, k1, k2, k7, k5, k11, hk1, hk2, rfl, x2⟩
      have A3 := x2.get A2
      have X3 := x2.get X2
      have R3 := R2.up x2
      by_cases c : k ≤ l.last
      · simp only [c_glebelaw11_RlogCut_l0, go_sem, reduceIte, Nat.reduceEqDiff, Nat.reduceAdd, Nat.reduceLeDiff, Nat.reducePow, Nat.reduceDiv, Nat.reduceMod, decide_true, k1, k2, k7, k5, k11, decide_eq_true c, A3, X3]
        refine wCall_use ⟨ht.1, ht.2 nof _ l _ k (hL _) ok⟩ ?_
        rintro _ H2 ⟨rfl, e2⟩
        subst e2
        have hk3 : l.has k = true := has_iff.2 ⟨by omega, c⟩
        simp only [go_sem, reduceIte, Nat.reduceEqDiff, Nat.reduceAdd, Nat.reduceLeDiff, Nat.reducePow, Nat.reduceDiv, Nat.reduceMod, decide_true, k2, k7, k11, X3]
        refine wCall_use ⟨ht.1, ht.2 _ _ (l.cut i) _ k R3 okx⟩ ?_
        rintro _ H2 ⟨rfl, e2⟩
        subst e2
        have w1 : IntKind.i64.wrap (k + 1) = k + 1 := wrap_i64 (by omega)
        simp only [go_sem, reduceIte, Nat.reduceEqDiff, Nat.reduceAdd, Nat.reduceLeDiff, Nat.reducePow, Nat.reduceDiv, Nat.reduceMod, decide_true, cut_has hh hk1, cut_term hh hk1, hk3, k2, k7, k11, A3, X3, decide_true, Bool.not_true, w1]
        refine wCall_use ⟨hs.1, hs.2 _ _ (l.cut i) _ (k + 1) 1 R3 okx⟩ ?_
        rintro s1 h3 ⟨s1o, _, x3⟩
        rw [cut_slice hh hk1] at s1o
        have A4 := x3.get A3
        have X4 := x3.get X3
        simp only [go_sem, reduceIte, Nat.reduceEqDiff, Nat.reduceAdd, Nat.reduceLeDiff, Nat.reducePow, Nat.reduceDiv, Nat.reduceMod, decide_true, k2, k7, k11, A3, X3, A4, X4]
        refine wCall_use ⟨hs.1, hs.2 nof _ l _ (k + 1) 1 (hL _) ok⟩ ?_
        rintro s2 h4 ⟨s2o, _, x4⟩
        simp only [go_sem, reduceIte, Nat.reduceEqDiff, Nat.reduceAdd, Nat.reduceLeDiff, Nat.reducePow, Nat.reduceDiv, Nat.reduceMod, decide_true, k2, k7, k11, A4, X4, x4.get A4, x4.get X4]
        have small := sliceSmall ok.2.2 (k + 1) 1
        refine wCall_use ⟨hse.1, hse.2 (fun _ => True) _ (l.slice (k + 1) 1) (l.slice (k + 1) 1) _ _ ((Own.rd _ (fun _ _ => trivial) _ s1o).up x4) (Own.rd _ (fun _ _ => trivial) _ s2o) (by have := small.1; omega) small.2⟩ ?_
        rintro _ H2 ⟨rfl, e2⟩
        subst e2
        simp only [go_sem, reduceIte, Nat.reduceEqDiff, Nat.reduceAdd, Nat.reduceLeDiff, Nat.reducePow, Nat.reduceDiv, Nat.reduceMod, decide_true, decide_true, k11, w1]
        exact ⟨_, by omega, k + 1, by simp [lk_ins, k1], by simp [lk_ins, k2], by simp [lk_ins, k7], by simp [lk_ins, k5], by simp [lk_ins], by omega, by omega, rfl, (x2.tr x3).tr x4⟩
      · simp only [c_glebelaw11_RlogCut_l0, go_sem, reduceIte, Nat.reduceEqDiff, Nat.reduceAdd, Nat.reduceLeDiff, Nat.reducePow, Nat.reduceDiv, Nat.reduceMod, decide_true, k1, k2, k7, k5, k11, decide_eq_false c, A3, X3]
        have w1 : IntKind.i64.wrap (i - 1) = i - 1 := wrap_i64 (by omega)
        simp only [w1]
        refine wCall_use ⟨ht.1, ht.2 _ _ (l.cut i) _ (i - 1) R3 okx⟩ ?_
        rintro _ H2 ⟨rfl, e2⟩
        subst e2
        simp only [go_sem, reduceIte, Nat.reduceEqDiff, Nat.reduceAdd, Nat.reduceLeDiff, Nat.reducePow, Nat.reduceDiv, Nat.reduceMod, decide_true, cut_out hh]
        refine no ?_
        simp only [go_sem, reduceIte, Nat.reduceEqDiff, Nat.reduceAdd, Nat.reduceLeDiff, Nat.reducePow, Nat.reduceDiv, Nat.reduceMod, decide_true]

end Glb
