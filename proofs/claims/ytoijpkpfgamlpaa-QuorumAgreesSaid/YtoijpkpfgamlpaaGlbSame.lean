/-
  Members, what a member must not forget, messages: held against one another; messages written over.
-/
import Derived.Test.YtoijpkpfgamlpaaGlbPure
set_option linter.unusedSimpArgs false
set_option linter.unusedVariables false
namespace Glb
open Go
set_option maxRecDepth 10000
set_option maxHeartbeats 4000000

theorem Conf.dec (x y : Conf) : decide (x = y) = (decide (x.old = y.old) && (decide (x.new = y.new) && decide (x.learners = y.learners))) := by
  cases x; cases y; simp [Bool.decide_and]
theorem Hard.dec (x y : Hard) : decide (x = y) = (decide (x.group = y.group) && (decide (x.term = y.term) && (decide (x.vote = y.vote) && (decide (x.log = y.log) && (decide (x.conf = y.conf) && decide (x.snap = y.snap)))))) := by
  cases x; cases y; simp [Bool.decide_and]
theorem Msg.dec (x y : Msg) : decide (x = y) = (decide (x.kind = y.kind) && (decide (x.from_ = y.from_) && (decide (x.to = y.to) && (decide (x.group = y.group) && (decide (x.term = y.term) && (decide (x.index = y.index) && (decide (x.prev = y.prev) && (decide (x.commit = y.commit) && (decide (x.round = y.round) && (decide (x.txn = y.txn) && (decide (x.part = y.part) && (decide (x.ballot = y.ballot) && (decide (x.value = y.value) && (decide (x.seq = y.seq) && ((x.ok == y.ok) && (decide (x.es = y.es) && decide (x.data = y.data))))))))))))))))) := by
  cases x; cases y; simp [Bool.decide_and, Bool.beq_eq_decide_eq]

def SameConfOk (P : Program) (f : FuncId) : Prop :=
  isFn P f = true ∧ ∀ (F F' : Nat → Prop) (h : AHeap) (x y : Conf) (a b : List AV), RdL F h x.c a → RdL F' h y.c b → x.few (2^40) →
    ACalls P f [.agg a, .agg b] h fun r h' => r = .bool (decide (x = y)) ∧ h' = h

theorem SameConf_ok {P : Program} {f g : FuncId} (hf : Is P f (c_glebekit_SameConf g)) (hg : SameOk P g .i64) : SameConfOk P f := by
  refine ⟨hf.2, fun F F' h x y a b hx hy hl => obs rfl (fun_sound hf.1 (Nat.le_of_ble_eq_true rfl) ?_)⟩
  show vc P (c_glebekit_SameConf g).code ⟨[(0, .agg a), (1, .agg b)], [], h⟩ (atEnd (c_glebekit_SameConf g).res _)
  obtain ⟨o, n, e, rfl, ho, hn, he⟩ := rd_conf (RdL.mono (F' := fun _ => True) (fun _ _ => trivial) (Keep.lt _ _) _ _ hx)
  obtain ⟨o', n', e', rfl, ho', hn', he'⟩ := rd_conf (RdL.mono (F' := fun _ => True) (fun _ _ => trivial) (Keep.lt _ _) _ _ hy)
  simp only [c_glebekit_SameConf, go_sem, reduceIte, Nat.reduceEqDiff, Nat.reduceAdd, Nat.reduceLeDiff, Nat.reducePow, Nat.reduceDiv, Nat.reduceMod, decide_true, ho.scalar, hn.scalar, he.scalar, ho'.scalar, hn'.scalar, he'.scalar]
  repeat' (first
    | refine wGuardT (fun _ => ?_) (fun _ => ?_)
    | (refine wCall_use ⟨hg.1, hg.2 (fun _ => True) _ x.old y.old _ _ (ho.up (Ext.b2 _ _)) (ho'.up (Ext.b2 _ _)) hl.1⟩ ?_; rintro _ _ ⟨rfl, rfl⟩)
    | (refine wCall_use ⟨hg.1, hg.2 (fun _ => True) _ x.new y.new _ _ (hn.up (Ext.b2 _ _)) (hn'.up (Ext.b2 _ _)) hl.2.1⟩ ?_; rintro _ _ ⟨rfl, rfl⟩)
    | (refine wCall_use ⟨hg.1, hg.2 (fun _ => True) _ x.learners y.learners _ _ (he.up (Ext.b2 _ _)) (he'.up (Ext.b2 _ _)) hl.2.2⟩ ?_; rintro _ _ ⟨rfl, rfl⟩)
    | simp only [go_sem, reduceIte, Nat.reduceEqDiff, Nat.reduceAdd, Nat.reduceLeDiff, Nat.reducePow, Nat.reduceDiv, Nat.reduceMod, decide_true, *])
  all_goals exact ⟨by simp [Conf.dec, *], Ext.b2 _ _⟩

def SameHardOk (P : Program) (f : FuncId) : Prop :=
  isFn P f = true ∧ ∀ (F F' : Nat → Prop) (h : AHeap) (x y : Hard) (a b : List AV), RdL F h x.c a → RdL F' h y.c b → x.few →
    ACalls P f [.agg a, .agg b] h fun r h' => r = .bool (decide (x = y)) ∧ h' = h

theorem log_rd {x : Log} {F : Nat → Prop} {h : AHeap} {e : AV} (he : Rd F h (dEntries x.es) e) : RdL F h x.c [.int .i64 x.base, .int .i64 x.bterm, e] := by
  simp only [Log.c, rdL_int]
  refine ⟨_, rfl, _, rfl, ?_⟩
  simp only [RdL]
  exact ⟨e, _, rfl, he, rfl⟩

theorem SameHard_ok {P : Program} {f g k b : FuncId} (hf : Is P f (c_glebekit_SameHard g k b)) (hg : SameLogOk P g) (hk : SameConfOk P k) (hb : SameOk P b .u8) : SameHardOk P f := by
  refine ⟨hf.2, fun F F' h x y a c hx hy hl => obs rfl (fun_sound hf.1 (Nat.le_of_ble_eq_true rfl) ?_)⟩
  show vc P (c_glebekit_SameHard g k b).code ⟨[(0, .agg a), (1, .agg c)], [], h⟩ (atEnd (c_glebekit_SameHard g k b).res _)
  obtain ⟨e1, o1, n1, l1, s1, rfl, he1, ho1, hn1, hl1, hs1⟩ := rd_hard (RdL.mono (F' := fun _ => True) (fun _ _ => trivial) (Keep.lt _ _) _ _ hx)
  obtain ⟨e2, o2, n2, l2, s2, rfl, he2, ho2, hn2, hl2, hs2⟩ := rd_hard (RdL.mono (F' := fun _ => True) (fun _ _ => trivial) (Keep.lt _ _) _ _ hy)
  simp only [c_glebekit_SameHard, Hard.cells, go_sem, reduceIte, Nat.reduceEqDiff, Nat.reduceAdd, Nat.reduceLeDiff, Nat.reducePow, Nat.reduceDiv, Nat.reduceMod, decide_true, he1.scalar, ho1.scalar, hn1.scalar, hl1.scalar, hs1.scalar, he2.scalar, ho2.scalar, hn2.scalar, hl2.scalar, hs2.scalar]
  repeat' (first
    | refine wGuardT (fun _ => ?_) (fun _ => ?_)
    | (refine wCall_use ⟨hg.1, hg.2 (fun _ => True) _ x.log y.log _ _ ((log_rd he1).up (Ext.b2 _ _)) ((log_rd he2).up (Ext.b2 _ _)) (by have := hl.1.1; omega) (fun e he => by have := hl.1.2 e he; omega)⟩ ?_; rintro _ _ ⟨rfl, rfl⟩)
    | (refine wCall_use ⟨hk.1, hk.2 (fun _ => True) (fun _ => True) _ x.conf y.conf _ _ ((conf_rd ho1 hn1 hl1).up (Ext.b2 _ _)) ((conf_rd ho2 hn2 hl2).up (Ext.b2 _ _)) hl.2.1⟩ ?_; rintro _ _ ⟨rfl, rfl⟩)
    | (refine wCall_use ⟨hb.1, hb.2 (fun _ => True) _ x.snap y.snap _ _ (hs1.up (Ext.b2 _ _)) (hs2.up (Ext.b2 _ _)) hl.2.2⟩ ?_; rintro _ _ ⟨rfl, rfl⟩)
    | simp only [go_sem, reduceIte, Nat.reduceEqDiff, Nat.reduceAdd, Nat.reduceLeDiff, Nat.reducePow, Nat.reduceDiv, Nat.reduceMod, decide_true, *])
  all_goals exact ⟨by simp [Hard.dec, *], Ext.b2 _ _⟩

def SameMsgOk (P : Program) (f : FuncId) : Prop :=
  isFn P f = true ∧ ∀ (F F' : Nat → Prop) (h : AHeap) (x y : Msg) (a b : List AV), RdL F h x.c a → RdL F' h y.c b → SmallEntries x.es → x.data.length ≤ 2^40 →
    ACalls P f [.agg a, .agg b] h fun r h' => r = .bool (decide (x = y)) ∧ h' = h

theorem SameMsg_ok {P : Program} {f g b : FuncId} (hf : Is P f (c_glebekit_SameMsg g b)) (hg : SameEntriesOk P g) (hb : SameOk P b .u8) : SameMsgOk P f := by
  refine ⟨hf.2, fun F F' h x y a c hx hy hl hd => obs rfl (fun_sound hf.1 (Nat.le_of_ble_eq_true rfl) ?_)⟩
  show vc P (c_glebekit_SameMsg g b).code ⟨[(0, .agg a), (1, .agg c)], [], h⟩ (atEnd (c_glebekit_SameMsg g b).res _)
  obtain ⟨e1, d1, rfl, he1, hd1⟩ := rd_msg (RdL.mono (F' := fun _ => True) (fun _ _ => trivial) (Keep.lt _ _) _ _ hx)
  obtain ⟨e2, d2, rfl, he2, hd2⟩ := rd_msg (RdL.mono (F' := fun _ => True) (fun _ _ => trivial) (Keep.lt _ _) _ _ hy)
  simp only [c_glebekit_SameMsg, Msg.cells, go_sem, reduceIte, Nat.reduceEqDiff, Nat.reduceAdd, Nat.reduceLeDiff, Nat.reducePow, Nat.reduceDiv, Nat.reduceMod, decide_true, he1.scalar, hd1.scalar, he2.scalar, hd2.scalar]
  repeat' (first
    | refine wGuardT (fun _ => ?_) (fun _ => ?_)
    | (refine wCall_use ⟨hg.1, hg.2 (fun _ => True) _ x.es y.es _ _ (he1.up (Ext.b2 _ _)) (he2.up (Ext.b2 _ _)) (by have := hl.1; omega) (fun e he => by have := hl.2 e he; omega)⟩ ?_; rintro _ _ ⟨rfl, rfl⟩)
    | (refine wCall_use ⟨hb.1, hb.2 (fun _ => True) _ x.data y.data _ _ (hd1.up (Ext.b2 _ _)) (hd2.up (Ext.b2 _ _)) hd⟩ ?_; rintro _ _ ⟨rfl, rfl⟩)
    | simp only [go_sem, reduceIte, Nat.reduceEqDiff, Nat.reduceAdd, Nat.reduceLeDiff, Nat.reducePow, Nat.reduceDiv, Nat.reduceMod, decide_true, *])
  all_goals exact ⟨by simp [Msg.dec, *], Ext.b2 _ _⟩

end Glb
