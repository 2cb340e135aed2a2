/-
  The statements on how far the others are.
-/
import Derived.Test.YtoijpkpfgamlpaaGlbFlow
import Derived.Test.YtoijpkpfgamlpaaGlbClosed
import Derived.Test.YtoijpkpfgamlpaaGlbEnter
set_option linter.unusedSimpArgs false
set_option linter.unusedVariables false
namespace Glb
open Go
set_option maxRecDepth 10000
set_option maxHeartbeats 4000000

theorem hears_ok {P : Program} {f fp fb fk fc fh rh fn rn : FuncId} (hf : Is P f (c_glebelaw15_FlowHears fp fb fk fc fh rh fn rn)) (hp : PlacedOk P fp) (hb : BigMsgOk P fb) (hk : YesOk P fk) (hc : CopyMsgOk P fc)
    (hh : HeardOk P fh) (hh' : HeardOk P rh) (hn : NewOk P fn) (hn' : NewOk P rn) (w : Flow) (m : Msg) (i : Int) (h : AHeap) :
    ACalls P f [.agg w.cells, .agg (D.avL m.c), .int .i64 i] h fun r _ => r = .bool true := by
  refine fun_sound hf.1 (Nat.le_of_ble_eq_true rfl) ?_
  show vc P (c_glebelaw15_FlowHears fp fb fk fc fh rh fn rn).code ⟨[(0, .agg w.cells), (1, .agg (D.avL m.c)), (2, .int .i64 i)], [], h⟩ (atEnd (c_glebelaw15_FlowHears fp fb fk fc fh rh fn rn).res _)
  have hL : ∀ h, RdL nof h m.c (m.cells (dEntries m.es).av (dBytes m.data).av) := fun h => rdL_av nof h m.c
  have hcells : D.avL m.c = m.cells (dEntries m.es).av (dBytes m.data).av := rfl
  have s1 := av_scalar (dEntries m.es)
  have s2 := av_scalar (dBytes m.data)
  generalize (dEntries m.es).av = de at *
  generalize (dBytes m.data).av = dd at *
  rw [hcells]
  have no : ∀ {h : AHeap} {K : AV → AHeap → Prop}, K (.bool true) h → wCall P fk [] h K := fun hK => wCall_use ⟨hk.1, hk.2 _⟩ (by rintro _ _ ⟨rfl, rfl⟩; exact hK)
  simp only [c_glebelaw15_FlowHears, Flow.cells, Msg.cells, go_sem, reduceIte, Nat.reduceEqDiff, Nat.reduceAdd, Nat.reduceLeDiff, Nat.reducePow, Nat.reduceDiv, Nat.reduceMod, decide_true, s1, s2]
  refine wCall_use ⟨hp.1, hp.2 _ w⟩ ?_
  rintro _ H ⟨b1, rfl, e1, hb1⟩
  subst e1
  cases b1
  · simp only [go_sem, reduceIte, Nat.reduceEqDiff, Nat.reduceAdd, Nat.reduceLeDiff, Nat.reducePow, Nat.reduceDiv, Nat.reduceMod, decide_true]
    refine no ?_
    simp only [go_sem, reduceIte, Nat.reduceEqDiff, Nat.reduceAdd, Nat.reduceLeDiff, Nat.reducePow, Nat.reduceDiv, Nat.reduceMod, decide_true]
  have hw := hb1 rfl
  simp only [go_sem, reduceIte, Nat.reduceEqDiff, Nat.reduceAdd, Nat.reduceLeDiff, Nat.reducePow, Nat.reduceDiv, Nat.reduceMod, decide_true]
  by_cases c1 : m.index < 0
  · simp only [go_sem, reduceIte, Nat.reduceEqDiff, Nat.reduceAdd, Nat.reduceLeDiff, Nat.reducePow, Nat.reduceDiv, Nat.reduceMod, decide_true, decide_eq_true c1]
    refine no ?_
    simp only [go_sem, reduceIte, Nat.reduceEqDiff, Nat.reduceAdd, Nat.reduceLeDiff, Nat.reducePow, Nat.reduceDiv, Nat.reduceMod, decide_true]
  by_cases c2 : 1099511627776 < m.index
  · simp only [go_sem, reduceIte, Nat.reduceEqDiff, Nat.reduceAdd, Nat.reduceLeDiff, Nat.reducePow, Nat.reduceDiv, Nat.reduceMod, decide_true, decide_eq_false c1, decide_eq_true c2]
    refine no ?_
    simp only [go_sem, reduceIte, Nat.reduceEqDiff, Nat.reduceAdd, Nat.reduceLeDiff, Nat.reducePow, Nat.reduceDiv, Nat.reduceMod, decide_true]
  by_cases c3 : i < 0
  · simp only [go_sem, reduceIte, Nat.reduceEqDiff, Nat.reduceAdd, Nat.reduceLeDiff, Nat.reducePow, Nat.reduceDiv, Nat.reduceMod, decide_true, decide_eq_false c1, decide_eq_false c2, decide_eq_true c3]
    refine no ?_
    simp only [go_sem, reduceIte, Nat.reduceEqDiff, Nat.reduceAdd, Nat.reduceLeDiff, Nat.reducePow, Nat.reduceDiv, Nat.reduceMod, decide_true]
  by_cases c4 : 1099511627776 < i
  · simp only [go_sem, reduceIte, Nat.reduceEqDiff, Nat.reduceAdd, Nat.reduceLeDiff, Nat.reducePow, Nat.reduceDiv, Nat.reduceMod, decide_true, decide_eq_false c1, decide_eq_false c2, decide_eq_false c3, decide_eq_true c4]
    refine no ?_
    simp only [go_sem, reduceIte, Nat.reduceEqDiff, Nat.reduceAdd, Nat.reduceLeDiff, Nat.reducePow, Nat.reduceDiv, Nat.reduceMod, decide_true]
  simp only [go_sem, reduceIte, Nat.reduceEqDiff, Nat.reduceAdd, Nat.reduceLeDiff, Nat.reducePow, Nat.reduceDiv, Nat.reduceMod, decide_true, decide_eq_false c1, decide_eq_false c2, decide_eq_false c3, decide_eq_false c4]
  refine wCall_use ⟨hb.1, hb.2 nof _ m _ 1000 65536 (hL _) (by omega) (by omega)⟩ ?_
  rintro _ H ⟨b2, rfl, e2, hb2⟩
  subst e2
  cases b2
  rotate_left
  · simp only [go_sem, reduceIte, Nat.reduceEqDiff, Nat.reduceAdd, Nat.reduceLeDiff, Nat.reducePow, Nat.reduceDiv, Nat.reduceMod, decide_true]
    refine no ?_
    simp only [go_sem, reduceIte, Nat.reduceEqDiff, Nat.reduceAdd, Nat.reduceLeDiff, Nat.reducePow, Nat.reduceDiv, Nat.reduceMod, decide_true]
  have hB := hb2 rfl
  simp only [go_sem, reduceIte, Nat.reduceEqDiff, Nat.reduceAdd, Nat.reduceLeDiff, Nat.reducePow, Nat.reduceDiv, Nat.reduceMod, decide_true]
  refine wCall_use ⟨hc.1, hc.2 nof _ m _ (hL _) ⟨by have := hB.1.1; omega, fun e he => by have := hB.1.2 e he; omega⟩ (by have := hB.2; omega)⟩ ?_
  rintro _ h2 ⟨e, d, rfl, he, hd, x2⟩
  have A2 := x2.get (bx20 _ _ _)
  have B2 := x2.get (bx21 _ _ _)
  simp only [go_sem, reduceIte, Nat.reduceEqDiff, Nat.reduceAdd, Nat.reduceLeDiff, Nat.reducePow, Nat.reduceDiv, Nat.reduceMod, decide_true, A2, B2]
  refine wCall_use ⟨hh.1, hh.2 (fun _ => True) _ w m _ (msg_rd (Own.rd _ (fun _ _ => trivial) _ he) (Own.rd _ (fun _ _ => trivial) _ hd)) hw (by omega)⟩ ?_
  rintro _ H3 ⟨rfl, e3⟩
  subst e3
  simp only [go_sem, reduceIte, Nat.reduceEqDiff, Nat.reduceAdd, Nat.reduceLeDiff, Nat.reducePow, Nat.reduceDiv, Nat.reduceMod, decide_true, A2, B2]
  refine wCall_use ⟨hh'.1, hh'.2 nof _ w m _ (hL _) hw (by omega)⟩ ?_
  rintro _ H3 ⟨rfl, e3⟩
  subst e3
  have bn : (true != false) = true := rfl
  simp only [go_sem, reduceIte, Nat.reduceEqDiff, Nat.reduceAdd, Nat.reduceLeDiff, Nat.reducePow, Nat.reduceDiv, Nat.reduceMod, decide_true, A2, B2, rev_x, xev, aEq_flow, Option.map_some, bn]
  refine wCall_use ⟨hn.1, hn.2 _ _ _ (by omega)⟩ ?_
  rintro _ H3 ⟨rfl, e3⟩
  subst e3
  simp only [go_sem, reduceIte, Nat.reduceEqDiff, Nat.reduceAdd, Nat.reduceLeDiff, Nat.reducePow, Nat.reduceDiv, Nat.reduceMod, decide_true, A2, B2, rev_x, xev, aEq_flow, Option.map_some, bn]
  refine wCall_use ⟨hn'.1, hn'.2 _ _ _ (by omega)⟩ ?_
  rintro _ H3 ⟨rfl, e3⟩
  subst e3
  simp only [go_sem, reduceIte, Nat.reduceEqDiff, Nat.reduceAdd, Nat.reduceLeDiff, Nat.reducePow, Nat.reduceDiv, Nat.reduceMod, decide_true, A2, B2, rev_x, xev, aEq_flow, Option.map_some, bn]

end Glb
