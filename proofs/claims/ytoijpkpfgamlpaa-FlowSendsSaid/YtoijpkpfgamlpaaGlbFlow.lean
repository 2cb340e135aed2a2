/-
  How far a member is: the program's functions and the document's answer so.
-/
import Derived.Test.YtoijpkpfgamlpaaGlbMsg
import Derived.Test.YtoijpkpfgamlpaaGlbCflow
import Derived.Test.YtoijpkpfgamlpaaGlbCgleberef15
import Derived.Test.YtoijpkpfgamlpaaGlbCglebelaw15
set_option linter.unusedSimpArgs false
set_option linter.unusedVariables false
namespace Glb
open Go
set_option maxRecDepth 10000
set_option maxHeartbeats 4000000

structure Flow where
  node : Int
  next : Int
  mat : Int
  round : Int
  deriving DecidableEq

def Flow.c (f : Flow) : List D := [.int .i64 f.node, .int .i64 f.next, .int .i64 f.mat, .int .i64 f.round]
def Flow.cells (f : Flow) : List AV := [.int .i64 f.node, .int .i64 f.next, .int .i64 f.mat, .int .i64 f.round]

/-- a flow behind an answer -/
def Flow.heard (f : Flow) (m : Msg) : Flow :=
  if m.kind = 4 ∧ m.from_ = f.node then
    if m.ok = true then ⟨f.node, max f.next (max f.mat m.index + 1), max f.mat m.index, max f.round m.round⟩
    else ⟨f.node, max (f.mat + 1) (min (f.next - 1) (m.index + 1)), f.mat, f.round⟩
  else f

/-- of which something is promised -/
def Flow.placed (f : Flow) : Prop := (0 ≤ f.node ∧ 0 ≤ f.next ∧ 0 ≤ f.mat ∧ 0 ≤ f.round) ∧ f.node ≤ 2^40 + 1 ∧ f.next ≤ 2^40 + 1 ∧ f.mat ≤ 2^40 + 1 ∧ f.round ≤ 2^40 + 1

theorem upto_flow (n : Nat) (f : Flow) : (AV.agg f.cells).upto n = true := by simp only [Flow.cells, AV.upto, AV.uptoL, Bool.and_self]

def HeardOk (P : Program) (f : FuncId) : Prop :=
  isFn P f = true ∧ ∀ (F : Nat → Prop) (h : AHeap) (w : Flow) (m : Msg) (a : List AV), RdL F h m.c a → w.placed → 0 ≤ m.index ∧ m.index ≤ 2^40 →
    ACalls P f [.agg w.cells, .agg a] h fun r h' => r = .agg (w.heard m).cells ∧ h' = h

theorem flow_Heard_ok {P : Program} {f : FuncId} (hf : Is P f c_flow_Heard) : HeardOk P f := by
  refine ⟨hf.2, fun F h w m a hm hw hi => obs (upto_flow _ _) (fun_sound hf.1 (Nat.le_of_ble_eq_true rfl) ?_)⟩
  show vc P c_flow_Heard.code ⟨[(0, .agg w.cells), (1, .agg a)], [], h⟩ (atEnd c_flow_Heard.res _)
  obtain ⟨e, d, rfl, he, hd⟩ := rd_msg hm
  obtain ⟨⟨w1, w2, w3, w4⟩, w5, w6, w7, w8⟩ := hw
  have e1 : IntKind.i64.wrap (max w.mat m.index + 1) = max w.mat m.index + 1 := wrap_i64 (by omega)
  have e2 : IntKind.i64.wrap (w.mat + 1) = w.mat + 1 := wrap_i64 (by omega)
  have e3 : IntKind.i64.wrap (w.next - 1) = w.next - 1 := wrap_i64 (by omega)
  have e4 : IntKind.i64.wrap (m.index + 1) = m.index + 1 := wrap_i64 (by omega)
  simp only [c_flow_Heard, Msg.cells, Flow.cells, go_sem, reduceIte, Nat.reduceEqDiff, Nat.reduceAdd, Nat.reduceLeDiff, Nat.reducePow, Nat.reduceDiv, Nat.reduceMod, decide_true, he.scalar, hd.scalar]
  by_cases c1 : m.kind = 4
  · by_cases c2 : m.from_ = w.node
    · cases c3 : m.ok
      · simp only [go_sem, reduceIte, Nat.reduceEqDiff, Nat.reduceAdd, Nat.reduceLeDiff, Nat.reducePow, Nat.reduceDiv, Nat.reduceMod, decide_true, decide_eq_true c1, decide_eq_true c2, Bool.not_true, c3, rev_mnmx, mnmx_max, mnmx_min, e1, e2, e3, e4, he.scalar, hd.scalar]
        exact ⟨by simp [Flow.heard, c1, c2, c3], Ext.b3 _ _ _⟩
      · simp only [go_sem, reduceIte, Nat.reduceEqDiff, Nat.reduceAdd, Nat.reduceLeDiff, Nat.reducePow, Nat.reduceDiv, Nat.reduceMod, decide_true, decide_eq_true c1, decide_eq_true c2, Bool.not_true, c3, rev_mnmx, mnmx_max, mnmx_min, e1, e2, e3, e4, he.scalar, hd.scalar]
        exact ⟨by simp [Flow.heard, c1, c2, c3], Ext.b3 _ _ _⟩
    · simp only [go_sem, reduceIte, Nat.reduceEqDiff, Nat.reduceAdd, Nat.reduceLeDiff, Nat.reducePow, Nat.reduceDiv, Nat.reduceMod, decide_true, decide_eq_true c1, decide_eq_false c2, Bool.not_true, he.scalar, hd.scalar]
      exact ⟨by simp [Flow.heard, c1, c2], Ext.b3 _ _ _⟩
  · simp only [go_sem, reduceIte, Nat.reduceEqDiff, Nat.reduceAdd, Nat.reduceLeDiff, Nat.reducePow, Nat.reduceDiv, Nat.reduceMod, decide_true, decide_eq_false c1, Bool.not_true, he.scalar, hd.scalar]
    exact ⟨by simp [Flow.heard, c1], Ext.b3 _ _ _⟩
theorem gleberef15_Heard_ok {P : Program} {f : FuncId} (hf : Is P f c_gleberef15_Heard) : HeardOk P f := by
  refine ⟨hf.2, fun F h w m a hm hw hi => obs (upto_flow _ _) (fun_sound hf.1 (Nat.le_of_ble_eq_true rfl) ?_)⟩
  show vc P c_gleberef15_Heard.code ⟨[(0, .agg w.cells), (1, .agg a)], [], h⟩ (atEnd c_gleberef15_Heard.res _)
  obtain ⟨e, d, rfl, he, hd⟩ := rd_msg hm
  obtain ⟨⟨w1, w2, w3, w4⟩, w5, w6, w7, w8⟩ := hw
  have e1 : IntKind.i64.wrap (max w.mat m.index + 1) = max w.mat m.index + 1 := wrap_i64 (by omega)
  have e2 : IntKind.i64.wrap (w.mat + 1) = w.mat + 1 := wrap_i64 (by omega)
  have e3 : IntKind.i64.wrap (w.next - 1) = w.next - 1 := wrap_i64 (by omega)
  have e4 : IntKind.i64.wrap (m.index + 1) = m.index + 1 := wrap_i64 (by omega)
  simp only [c_gleberef15_Heard, Msg.cells, Flow.cells, go_sem, reduceIte, Nat.reduceEqDiff, Nat.reduceAdd, Nat.reduceLeDiff, Nat.reducePow, Nat.reduceDiv, Nat.reduceMod, decide_true, he.scalar, hd.scalar]
  by_cases c1 : m.kind = 4
  · by_cases c2 : m.from_ = w.node
    · cases c3 : m.ok
      · simp only [go_sem, reduceIte, Nat.reduceEqDiff, Nat.reduceAdd, Nat.reduceLeDiff, Nat.reducePow, Nat.reduceDiv, Nat.reduceMod, decide_true, decide_eq_true c1, decide_eq_true c2, Bool.not_true, c3, rev_mnmx, mnmx_max, mnmx_min, e1, e2, e3, e4, he.scalar, hd.scalar]
        exact ⟨by simp [Flow.heard, c1, c2, c3], Ext.b3 _ _ _⟩
      · simp only [go_sem, reduceIte, Nat.reduceEqDiff, Nat.reduceAdd, Nat.reduceLeDiff, Nat.reducePow, Nat.reduceDiv, Nat.reduceMod, decide_true, decide_eq_true c1, decide_eq_true c2, Bool.not_true, c3, rev_mnmx, mnmx_max, mnmx_min, e1, e2, e3, e4, he.scalar, hd.scalar]
        exact ⟨by simp [Flow.heard, c1, c2, c3], Ext.b3 _ _ _⟩
    · simp only [go_sem, reduceIte, Nat.reduceEqDiff, Nat.reduceAdd, Nat.reduceLeDiff, Nat.reducePow, Nat.reduceDiv, Nat.reduceMod, decide_true, decide_eq_true c1, decide_eq_false c2, Bool.not_true, he.scalar, hd.scalar]
      exact ⟨by simp [Flow.heard, c1, c2], Ext.b3 _ _ _⟩
  · simp only [go_sem, reduceIte, Nat.reduceEqDiff, Nat.reduceAdd, Nat.reduceLeDiff, Nat.reducePow, Nat.reduceDiv, Nat.reduceMod, decide_true, decide_eq_false c1, Bool.not_true, he.scalar, hd.scalar]
    exact ⟨by simp [Flow.heard, c1], Ext.b3 _ _ _⟩

def NewOk (P : Program) (f : FuncId) : Prop :=
  isFn P f = true ∧ ∀ (h : AHeap) (node last : Int), 0 ≤ last ∧ last ≤ 2^40 → ACalls P f [.int .i64 node, .int .i64 last] h fun r h' => r = .agg (Flow.mk node (last + 1) 0 0).cells ∧ h' = h

theorem flow_New_ok {P : Program} {f : FuncId} (hf : Is P f c_flow_New) : NewOk P f := by
  refine ⟨hf.2, fun h node last hl => obs (upto_flow _ _) (fun_sound hf.1 (Nat.le_of_ble_eq_true rfl) ?_)⟩
  show vc P c_flow_New.code ⟨[(0, .int .i64 node), (1, .int .i64 last)], [], h⟩ (atEnd c_flow_New.res _)
  have e1 : IntKind.i64.wrap (last + 1) = last + 1 := wrap_i64 (by omega)
  simp only [c_flow_New, go_sem, reduceIte, Nat.reduceEqDiff, Nat.reduceAdd, Nat.reduceLeDiff, Nat.reducePow, Nat.reduceDiv, Nat.reduceMod, decide_true, e1]
  exact ⟨rfl, Ext.b1 _⟩
theorem gleberef15_New_ok {P : Program} {f : FuncId} (hf : Is P f c_gleberef15_New) : NewOk P f := by
  refine ⟨hf.2, fun h node last hl => obs (upto_flow _ _) (fun_sound hf.1 (Nat.le_of_ble_eq_true rfl) ?_)⟩
  show vc P c_gleberef15_New.code ⟨[(0, .int .i64 node), (1, .int .i64 last)], [], h⟩ (atEnd c_gleberef15_New.res _)
  have e1 : IntKind.i64.wrap (last + 1) = last + 1 := wrap_i64 (by omega)
  simp only [c_gleberef15_New, go_sem, reduceIte, Nat.reduceEqDiff, Nat.reduceAdd, Nat.reduceLeDiff, Nat.reducePow, Nat.reduceDiv, Nat.reduceMod, decide_true, e1]
  exact ⟨rfl, Ext.b1 _⟩

theorem mnmx4_min (k : IntKind) (a b c d : Int) : amnmx false [.int k a, .int k b, .int k c, .int k d] = some (.int k (min (min (min a b) c) d)) := by
  have h : ∀ x y : Int, (if y < x then y else x) = min x y := fun x y => by split <;> omega
  simp only [amnmx, amnmx.aux, Bool.false_eq_true, if_false, h]
theorem mnmx4_max (k : IntKind) (a b c d : Int) : amnmx true [.int k a, .int k b, .int k c, .int k d] = some (.int k (max (max (max a b) c) d)) := by
  have h : ∀ x y : Int, (if y > x then y else x) = max x y := fun x y => by split <;> omega
  simp only [amnmx, amnmx.aux, if_true, h]

def PlacedOk (P : Program) (f : FuncId) : Prop :=
  isFn P f = true ∧ ∀ (h : AHeap) (w : Flow), ACalls P f [.agg w.cells] h fun r h' => ∃ b, r = .bool b ∧ h' = h ∧ (b = true → w.placed)

theorem placed_ok {P : Program} {f : FuncId} (hf : Is P f c_glebelaw15_placed) : PlacedOk P f := by
  refine ⟨hf.2, fun h w => (ACalls.trunc (K := fun r h' => Ext nof h h' ∧ ∃ b, r = .bool b ∧ (b = true → w.placed)) (K' := fun r => ∃ b, r = .bool b ∧ (b = true → w.placed)) (fun_sound hf.1 (Nat.le_of_ble_eq_true rfl) ?_)
    (fun r h' hk => ⟨hk.1, by obtain ⟨b, rfl, _⟩ := hk.2; exact upto_bool _ _, hk.2⟩)).mono fun r h' hk => let ⟨b, h1, h2⟩ := hk.2; ⟨b, h1, hk.1, h2⟩⟩
  show vc P c_glebelaw15_placed.code ⟨[(0, .agg w.cells)], [], h⟩ (atEnd c_glebelaw15_placed.res _)
  simp only [c_glebelaw15_placed, Flow.cells, go_sem, reduceIte, Nat.reduceEqDiff, Nat.reduceAdd, Nat.reduceLeDiff, Nat.reducePow, Nat.reduceDiv, Nat.reduceMod, decide_true, rev_mnmx, mnmx4_min, mnmx4_max]
  by_cases c : 0 ≤ min (min (min w.node w.next) w.mat) w.round
  · simp only [go_sem, reduceIte, Nat.reduceEqDiff, Nat.reduceAdd, Nat.reduceLeDiff, Nat.reducePow, Nat.reduceDiv, Nat.reduceMod, decide_true, decide_eq_true c, rev_mnmx, mnmx4_min, mnmx4_max]
    refine ⟨Ext.b1 _, _, rfl, fun e => ?_⟩
    simp at e
    refine ⟨⟨?_, ?_, ?_, ?_⟩, ?_, ?_, ?_, ?_⟩ <;> omega
  · simp only [go_sem, reduceIte, Nat.reduceEqDiff, Nat.reduceAdd, Nat.reduceLeDiff, Nat.reducePow, Nat.reduceDiv, Nat.reduceMod, decide_true, decide_eq_false c, rev_mnmx, mnmx4_min, mnmx4_max]
    exact ⟨Ext.b1 _, _, rfl, fun e => by cases e⟩

theorem aEq_flow (x : Flow) : aEq [(0, true), (1, true), (2, true), (3, true)] x.cells x.cells = some true := by
  simp [aEq, Flow.cells]
theorem rev_x (g : Opd → AV) (h : AHeap) (x : XOp) : rev g h (.x x) = xev g x := Eq.trans rfl rfl

end Glb
