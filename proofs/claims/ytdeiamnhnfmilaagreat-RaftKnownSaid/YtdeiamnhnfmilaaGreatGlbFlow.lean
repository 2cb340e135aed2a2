/-
  How far a member is: the program's functions and the document's answer so.
-/
import Derived.Test.YtdeiamnhnfmilaaGreatGlbKitA
import Derived.Test.YtdeiamnhnfmilaaGreatGlbCflow
import Derived.Test.YtdeiamnhnfmilaaGreatGlbLibB
set_option linter.unusedSimpArgs false
set_option linter.unusedVariables false
namespace Glb
open Go
open Nat (reduceAdd reduceEqDiff reduceLeDiff)
set_option maxRecDepth 10000
set_option maxHeartbeats 4000000
structure Flow where
 node : Int
 next : Int
 mat : Int
 round : Int
 deriving DecidableEq
def Flow.c (f : Flow) : List D := [.int .i64 f.node, .int .i64 f.next, .int .i64 f.mat, .int .i64 f.round]
def Flow.cells (f : Flow) : List AV := [.int .i64 f.node, .int .i64 f.next, .int .i64 f.mat, .int .i64 f.round]
def Flow.heard (f : Flow) (m : Msg) : Flow :=
 if m.kind = 4 /\ m.from_ = f.node then
  if m.ok = true then ⟨f.node, max f.next (max f.mat m.index + 1), max f.mat m.index, max f.round m.round⟩
  else ⟨f.node, max (f.mat + 1) (min (f.next - 1) (m.index + 1)), f.mat, f.round⟩
 else f
def Flow.placed (f : Flow) : Prop := (0 <= f.node /\ 0 <= f.next /\ 0 <= f.mat) /\ f.node <= 2^42 /\ f.next <= 2^42 /\ f.mat <= 2^42
theorem upto_flow (n : Nat) (f : Flow) : (AV.agg f.cells).upto n = true := by simp only [Flow.cells, AV.upto, AV.uptoL, Bool.and_self]
def HeardOk (P : Program) (f : FuncId) : Prop :=
 isFn P f = true /\ ∀ (F : Nat -> Prop) (h : AHeap) (w : Flow) (m : Msg) (a : List AV), RdL F h m.c a -> w.placed -> 0 <= m.index /\ m.index <= 2^40 ->
  ACalls P f [.agg w.cells, .agg a] h fun r h' => r = .agg (w.heard m).cells /\ h' = h
theorem flow_Heard_ok {P : Program} {f : FuncId} (hf : Is P f c_flow_Heard) : HeardOk P f := by
 refine ⟨hf.2, fun F h w m a hm hw hi => obs (upto_flow _ _) (fun_sound hf.1 (Nat.le_of_ble_eq_true rfl) ?_)⟩
 show vc P c_flow_Heard.code ⟨[(0, .agg w.cells), (1, .agg a)], [], h⟩ (atEnd c_flow_Heard.res _)
 obtain ⟨e, d, rfl, he, hd⟩ := rd_msg hm
 obtain ⟨⟨w1, w2, w3⟩, w5, w6, w7⟩ := hw
 have e1 : IntKind.i64.wrap (max w.mat m.index + 1) = max w.mat m.index + 1 := wrap_i64 (by omega)
 have e2 : IntKind.i64.wrap (w.mat + 1) = w.mat + 1 := wrap_i64 (by omega)
 have e3 : IntKind.i64.wrap (w.next - 1) = w.next - 1 := wrap_i64 (by omega)
 have e4 : IntKind.i64.wrap (m.index + 1) = m.index + 1 := wrap_i64 (by omega)
 simp only [c_flow_Heard, Msg.cells, Flow.cells, go_sem, reduceEqDiff, reduceAdd, he.scalar, hd.scalar]
 by_cases c1 : m.kind = 4
 ·by_cases c2 : m.from_ = w.node
  ·cases c3 : m.ok
   ·simp only [go_sem, reduceEqDiff, reduceAdd, reduceLeDiff, decide_eq_true c1, decide_eq_true c2, Bool.not_true, rev_mnmx, mnmx_max, mnmx_min, e2, e3, e4]
    exact ⟨by simp [Flow.heard, c1, c2, c3], Ext.b3 _ _ _⟩
   ·simp only [go_sem, reduceEqDiff, reduceAdd, reduceLeDiff, decide_eq_true c1, decide_eq_true c2, Bool.not_true, rev_mnmx, mnmx_max, e1]
    exact ⟨by simp [Flow.heard, c1, c2, c3], Ext.b3 _ _ _⟩
  ·simp only [go_sem, reduceEqDiff, reduceAdd, reduceLeDiff, decide_eq_true c1, decide_eq_false c2, Bool.not_true]
   exact ⟨by simp [Flow.heard, c1, c2], Ext.b3 _ _ _⟩
 ·simp only [go_sem, reduceEqDiff, reduceAdd, reduceLeDiff, decide_eq_false c1]
  exact ⟨by simp [Flow.heard, c1], Ext.b3 _ _ _⟩
end Glb
