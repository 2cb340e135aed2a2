/-
  The statements on a group's log: their order.
-/
import Derived.Test.YtjcfofhlhgdmoaaGlbLog3
import Derived.Test.YtjcfofhlhgdmoaaGlbClosed
import Derived.Test.YtjcfofhlhgdmoaaGlbEnter
import Derived.Test.YtjcfofhlhgdmoaaGlbLaw11r
set_option linter.unusedSimpArgs false
set_option linter.unusedVariables false
namespace Glb
open Go
set_option maxRecDepth 10000
set_option maxHeartbeats 4000000

theorem order_ok {P : Program} {f fr fk fl fn : FuncId} (hf : Is P f (c_glebelaw11_RlogOrder fr fk fl fn)) (hr : RightOk P fr) (hk : YesOk P fk) (hl : LastOk P fl) (hn : NewerOk P fn) (a b c : Log) (h : AHeap) :
    ACalls P f [.agg (D.avL a.c), .agg (D.avL b.c), .agg (D.avL c.c)] h fun r _ => r = .bool true := by
  refine fun_sound hf.1 (Nat.le_of_ble_eq_true rfl) ?_
  show vc P (c_glebelaw11_RlogOrder fr fk fl fn).code ⟨[(0, .agg (D.avL a.c)), (1, .agg (D.avL b.c)), (2, .agg (D.avL c.c))], [], h⟩ (atEnd (c_glebelaw11_RlogOrder fr fk fl fn).res _)
  have hA : ∀ h, RdL nof h a.c [.int .i64 a.base, .int .i64 a.bterm, (dEntries a.es).av] := fun h => rdL_av nof h a.c
  have hB : ∀ h, RdL nof h b.c [.int .i64 b.base, .int .i64 b.bterm, (dEntries b.es).av] := fun h => rdL_av nof h b.c
  have hC : ∀ h, RdL nof h c.c [.int .i64 c.base, .int .i64 c.bterm, (dEntries c.es).av] := fun h => rdL_av nof h c.c
  have ha : D.avL a.c = [.int .i64 a.base, .int .i64 a.bterm, (dEntries a.es).av] := rfl
  have hb : D.avL b.c = [.int .i64 b.base, .int .i64 b.bterm, (dEntries b.es).av] := rfl
  have hc : D.avL c.c = [.int .i64 c.base, .int .i64 c.bterm, (dEntries c.es).av] := rfl
  have sa := av_scalar (dEntries a.es)
  have sb := av_scalar (dEntries b.es)
  have sc := av_scalar (dEntries c.es)
  generalize (dEntries a.es).av = da at *
  generalize (dEntries b.es).av = db at *
  generalize (dEntries c.es).av = dc at *
  rw [ha, hb, hc]
  simp only [c_glebelaw11_RlogOrder, go_sem, reduceIte, Nat.reduceEqDiff, Nat.reduceAdd, Nat.reduceLeDiff, Nat.reducePow, Nat.reduceDiv, Nat.reduceMod, decide_true, sa, sb, sc]
  have no : ∀ {h : AHeap} {K : AV → AHeap → Prop}, K (.bool true) h → wCall P fk [] h K := fun hK => wCall_use ⟨hk.1, hk.2 _⟩ (by rintro _ _ ⟨rfl, rfl⟩; exact hK)
  refine wCall_use ⟨hr.1, hr.2 nof _ a _ (hA _)⟩ ?_
  rintro _ _ ⟨b1, rfl, rfl, hb1⟩
  cases b1
  · simp only [go_sem, reduceIte, Nat.reduceEqDiff, Nat.reduceAdd, Nat.reduceLeDiff, Nat.reducePow, Nat.reduceDiv, Nat.reduceMod, decide_true]
    refine no ?_
    simp only [go_sem, reduceIte, Nat.reduceEqDiff, Nat.reduceAdd, Nat.reduceLeDiff, Nat.reducePow, Nat.reduceDiv, Nat.reduceMod, decide_true]
  simp only [go_sem, reduceIte, Nat.reduceEqDiff, Nat.reduceAdd, Nat.reduceLeDiff, Nat.reducePow, Nat.reduceDiv, Nat.reduceMod, decide_true]
  refine wCall_use ⟨hr.1, hr.2 nof _ b _ (hB _)⟩ ?_
  rintro _ _ ⟨b2, rfl, rfl, hb2⟩
  cases b2
  · simp only [go_sem, reduceIte, Nat.reduceEqDiff, Nat.reduceAdd, Nat.reduceLeDiff, Nat.reducePow, Nat.reduceDiv, Nat.reduceMod, decide_true]
    refine no ?_
    simp only [go_sem, reduceIte, Nat.reduceEqDiff, Nat.reduceAdd, Nat.reduceLeDiff, Nat.reducePow, Nat.reduceDiv, Nat.reduceMod, decide_true]
  simp only [go_sem, reduceIte, Nat.reduceEqDiff, Nat.reduceAdd, Nat.reduceLeDiff, Nat.reducePow, Nat.reduceDiv, Nat.reduceMod, decide_true]
  refine wCall_use ⟨hr.1, hr.2 nof _ c _ (hC _)⟩ ?_
  rintro _ _ ⟨b3, rfl, rfl, hb3⟩
  cases b3
  · simp only [go_sem, reduceIte, Nat.reduceEqDiff, Nat.reduceAdd, Nat.reduceLeDiff, Nat.reducePow, Nat.reduceDiv, Nat.reduceMod, decide_true]
    refine no ?_
    simp only [go_sem, reduceIte, Nat.reduceEqDiff, Nat.reduceAdd, Nat.reduceLeDiff, Nat.reducePow, Nat.reduceDiv, Nat.reduceMod, decide_true]
  have oa := (hb1 rfl).ok
  have ob := (hb2 rfl).ok
  have oc := (hb3 rfl).ok
  simp only [go_sem, reduceIte, Nat.reduceEqDiff, Nat.reduceAdd, Nat.reduceLeDiff, Nat.reducePow, Nat.reduceDiv, Nat.reduceMod, decide_true]
  refine wCall_use ⟨hl.1, hl.2 nof _ a _ (hA _) oa⟩ ?_
  rintro _ _ ⟨rfl, rfl⟩
  simp only [go_sem, reduceIte, Nat.reduceEqDiff, Nat.reduceAdd, Nat.reduceLeDiff, Nat.reducePow, Nat.reduceDiv, Nat.reduceMod, decide_true]
  refine wCall_use ⟨hl.1, hl.2 nof _ b _ (hB _) ob⟩ ?_
  rintro _ _ ⟨rfl, rfl⟩
  simp only [go_sem, reduceIte, Nat.reduceEqDiff, Nat.reduceAdd, Nat.reduceLeDiff, Nat.reducePow, Nat.reduceDiv, Nat.reduceMod, decide_true]
  refine wCall_use ⟨hn.1, hn.2 nof _ a _ _ _ (hA _) oa⟩ ?_
  rintro _ _ ⟨rfl, rfl⟩
  simp only [go_sem, reduceIte, Nat.reduceEqDiff, Nat.reduceAdd, Nat.reduceLeDiff, Nat.reducePow, Nat.reduceDiv, Nat.reduceMod, decide_true]
  refine wCall_use ⟨hn.1, hn.2 nof _ b _ _ _ (hB _) ob⟩ ?_
  rintro _ _ ⟨rfl, rfl⟩
  have ns : a.newer a.last a.lastTerm = true := by simp [Log.newer]
  have nab : a.newer b.last b.lastTerm = true ↔ a.lastTerm < b.lastTerm ∨ (b.lastTerm = a.lastTerm ∧ a.last ≤ b.last) := by simp [Log.newer]
  have nba : b.newer a.last a.lastTerm = true ↔ b.lastTerm < a.lastTerm ∨ (a.lastTerm = b.lastTerm ∧ b.last ≤ a.last) := by simp [Log.newer]
  have nbc : b.newer c.last c.lastTerm = true ↔ b.lastTerm < c.lastTerm ∨ (c.lastTerm = b.lastTerm ∧ b.last ≤ c.last) := by simp [Log.newer]
  have nac : a.newer c.last c.lastTerm = true ↔ a.lastTerm < c.lastTerm ∨ (c.lastTerm = a.lastTerm ∧ a.last ≤ c.last) := by simp [Log.newer]
  generalize hab : a.newer b.last b.lastTerm = ab at *
  generalize hba : b.newer a.last a.lastTerm = ba at *
  have two : ab = true → ba = true → decide (a.last = b.last) = true ∧ decide (a.lastTerm = b.lastTerm) = true := by
    intro h1 h2
    have h1' := nab.1 h1
    have h2' := nba.1 h2
    exact ⟨decide_eq_true (by omega), decide_eq_true (by omega)⟩
  cases ab <;> cases ba
  · exfalso
    simp at nab nba; omega
  · simp only [go_sem, reduceIte, Nat.reduceEqDiff, Nat.reduceAdd, Nat.reduceLeDiff, Nat.reducePow, Nat.reduceDiv, Nat.reduceMod, decide_true]
    refine wCall_use ⟨hl.1, hl.2 nof _ c _ (hC _) oc⟩ ?_
    rintro _ _ ⟨rfl, rfl⟩
    simp only [go_sem, reduceIte, Nat.reduceEqDiff, Nat.reduceAdd, Nat.reduceLeDiff, Nat.reducePow, Nat.reduceDiv, Nat.reduceMod, decide_true]
    refine wCall_use ⟨hn.1, hn.2 nof _ a _ _ _ (hA _) oa⟩ ?_
    rintro _ _ ⟨rfl, rfl⟩
    simp only [go_sem, reduceIte, Nat.reduceEqDiff, Nat.reduceAdd, Nat.reduceLeDiff, Nat.reducePow, Nat.reduceDiv, Nat.reduceMod, decide_true, ns]
    refine no ?_
    simp only [go_sem, reduceIte, Nat.reduceEqDiff, Nat.reduceAdd, Nat.reduceLeDiff, Nat.reducePow, Nat.reduceDiv, Nat.reduceMod, decide_true]
  all_goals
    first
      | (have h2 := two rfl rfl; simp only [go_sem, reduceIte, Nat.reduceEqDiff, Nat.reduceAdd, Nat.reduceLeDiff, Nat.reducePow, Nat.reduceDiv, Nat.reduceMod, decide_true, h2.1, h2.2])
      | simp only [go_sem, reduceIte, Nat.reduceEqDiff, Nat.reduceAdd, Nat.reduceLeDiff, Nat.reducePow, Nat.reduceDiv, Nat.reduceMod, decide_true]
    refine wCall_use ⟨hl.1, hl.2 nof _ c _ (hC _) oc⟩ ?_
    rintro _ _ ⟨rfl, rfl⟩
    simp only [go_sem, reduceIte, Nat.reduceEqDiff, Nat.reduceAdd, Nat.reduceLeDiff, Nat.reducePow, Nat.reduceDiv, Nat.reduceMod, decide_true]
    refine wCall_use ⟨hn.1, hn.2 nof _ b _ _ _ (hB _) ob⟩ ?_
    rintro _ _ ⟨rfl, rfl⟩
    generalize hbc : b.newer c.last c.lastTerm = bc at *
    cases bc
    · simp only [go_sem, reduceIte, Nat.reduceEqDiff, Nat.reduceAdd, Nat.reduceLeDiff, Nat.reducePow, Nat.reduceDiv, Nat.reduceMod, decide_true]
      refine wCall_use ⟨hn.1, hn.2 nof _ a _ _ _ (hA _) oa⟩ ?_
      rintro _ _ ⟨rfl, rfl⟩
      simp only [go_sem, reduceIte, Nat.reduceEqDiff, Nat.reduceAdd, Nat.reduceLeDiff, Nat.reducePow, Nat.reduceDiv, Nat.reduceMod, decide_true, ns]
      refine no ?_
      simp only [go_sem, reduceIte, Nat.reduceEqDiff, Nat.reduceAdd, Nat.reduceLeDiff, Nat.reducePow, Nat.reduceDiv, Nat.reduceMod, decide_true]
    · have hac : a.newer c.last c.lastTerm = true := by
        rw [nac]
        have h3 := nab.1 rfl
        have h4 := nbc.1 rfl
        omega
      simp only [go_sem, reduceIte, Nat.reduceEqDiff, Nat.reduceAdd, Nat.reduceLeDiff, Nat.reducePow, Nat.reduceDiv, Nat.reduceMod, decide_true]
      refine wCall_use ⟨hn.1, hn.2 nof _ a _ _ _ (hA _) oa⟩ ?_
      rintro _ _ ⟨rfl, rfl⟩
      simp only [go_sem, reduceIte, Nat.reduceEqDiff, Nat.reduceAdd, Nat.reduceLeDiff, Nat.reducePow, Nat.reduceDiv, Nat.reduceMod, decide_true, hac]
      refine wCall_use ⟨hn.1, hn.2 nof _ a _ _ _ (hA _) oa⟩ ?_
      rintro _ _ ⟨rfl, rfl⟩
      simp only [go_sem, reduceIte, Nat.reduceEqDiff, Nat.reduceAdd, Nat.reduceLeDiff, Nat.reducePow, Nat.reduceDiv, Nat.reduceMod, decide_true, ns]
      refine no ?_
      simp only [go_sem, reduceIte, Nat.reduceEqDiff, Nat.reduceAdd, Nat.reduceLeDiff, Nat.reducePow, Nat.reduceDiv, Nat.reduceMod, decide_true]

end Glb
