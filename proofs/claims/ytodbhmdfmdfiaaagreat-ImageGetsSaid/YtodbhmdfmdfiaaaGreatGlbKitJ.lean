/-
  Changes held against one another.
-/
import Derived.Test.YtodbhmdfmdfiaaaGreatGlbImgK
import Derived.Test.YtodbhmdfmdfiaaaGreatGlbImgC
import Derived.Test.YtodbhmdfmdfiaaaGreatGlbImgE
set_option linter.unusedSimpArgs false
set_option linter.unusedVariables false
namespace Glb
open Go
set_option maxRecDepth 10000
set_option maxHeartbeats 16000000

def Change.few (x : Change) : Prop := SmallEntries x.log.es ∧ x.conf.few (2^40) ∧ x.snap.length ≤ 2^40
def SameChangeOk (P : Program) (f : FuncId) : Prop :=
  isFn P f = true ∧ ∀ (F F' : Nat → Prop) (h : AHeap) (x y : Change) (a b : List AV), RdL F h x.c a → RdL F' h y.c b → x.few → ACalls P f [.agg a, .agg b] h fun r h' => r = .bool (decide (x = y)) ∧ h' = h
def SameChangesOk (P : Program) (f : FuncId) : Prop :=
  isFn P f = true ∧ ∀ (F F' : Nat → Prop) (h : AHeap) (x y : List Change) (a b : AV), Rd F h (dChanges x) a → Rd F' h (dChanges y) b → x.length ≤ 2^40 → (∀ e ∈ x, e.few) → ACalls P f [a, b] h fun r h' => r = .bool (decide (x = y)) ∧ h' = h

theorem Change.deq (x y : Change) : decide (x = y) = (decide (x.kind = y.kind) && (decide (x.group = y.group) && (decide (x.term = y.term) && (decide (x.voted = y.voted) && (decide (x.from_ = y.from_) && (decide (x.log = y.log) && (decide (x.conf = y.conf) && (decide (x.snap = y.snap) && decide (x.vote = y.vote))))))))) := by
  cases x; cases y; simp [Bool.decide_and]

theorem rev_vote (g : Opd → AV) (h : AHeap) (n : Bool) (p q : Opd) (x y : Vote) (hp : g p = .agg [.int .i64 x.txn, .int .i64 x.part, .int .i64 x.promised, .int .i64 x.ballot, .int .i64 x.value]) (hq : g q = .agg [.int .i64 y.txn, .int .i64 y.part, .int .i64 y.promised, .int .i64 y.ballot, .int .i64 y.value]) :
    rev g h (.x (.seq n [(0, true), (1, true), (2, true), (3, true), (4, true)] p q)) = some (.bool (decide (x = y) != n)) := by
  rw [rev_xo]
  simp only [xev, hp, hq, vote_eq, Option.map_some]

theorem SameChange_ok {P : Program} {f g k b : FuncId} (hf : Is P f (c_glebekit_SameChange g k b)) (hg : SameLogOk P g) (hk : SameConfOk P k) (hb : SameOk P b .u8) : SameChangeOk P f := by
  refine ⟨hf.2, fun F F' h x y a c hx hy hl => obs rfl (fun_sound hf.1 (Nat.le_of_ble_eq_true rfl) ?_)⟩
  show vc P (c_glebekit_SameChange g k b).code ⟨[(0, .agg a), (1, .agg c)], [], h⟩ (atEnd (c_glebekit_SameChange g k b).res _)
  obtain ⟨e1, o1, n1, l1, s1, rfl, he1, ho1, hn1, hl1, hs1⟩ := rd_changeL (RdL.mono (F' := fun _ => True) (fun _ _ => trivial) (Keep.lt _ _) _ _ hx)
  obtain ⟨e2, o2, n2, l2, s2, rfl, he2, ho2, hn2, hl2, hs2⟩ := rd_changeL (RdL.mono (F' := fun _ => True) (fun _ _ => trivial) (Keep.lt _ _) _ _ hy)
  have hv := vote_eq x.vote y.vote
  simp only [c_glebekit_SameChange, Change.cells, go_sem, reduceIte, Nat.reduceEqDiff, Nat.reduceAdd, Nat.reduceLeDiff, Nat.reducePow, Nat.reduceDiv, Nat.reduceMod, decide_true, he1.scalar, ho1.scalar, hn1.scalar, hl1.scalar, hs1.scalar, he2.scalar, ho2.scalar, hn2.scalar, hl2.scalar, hs2.scalar]
  repeat' (first
    | refine wGuardT (fun _ => ?_) (fun _ => ?_)
    | (refine wCall_use ⟨hg.1, hg.2 (fun _ => True) _ x.log y.log _ _ ((log_rd he1).up (Ext.b2 _ _)) ((log_rd he2).up (Ext.b2 _ _)) (by have := hl.1.1; omega) (fun e he => by have := hl.1.2 e he; omega)⟩ ?_; rintro _ _ ⟨rfl, rfl⟩)
    | (refine wCall_use ⟨hk.1, hk.2 (fun _ => True) (fun _ => True) _ x.conf y.conf _ _ ((conf_rd ho1 hn1 hl1).up (Ext.b2 _ _)) ((conf_rd ho2 hn2 hl2).up (Ext.b2 _ _)) hl.2.1⟩ ?_; rintro _ _ ⟨rfl, rfl⟩)
    | (refine wCall_use ⟨hb.1, hb.2 (fun _ => True) _ x.snap y.snap _ _ (hs1.up (Ext.b2 _ _)) (hs2.up (Ext.b2 _ _)) hl.2.2⟩ ?_; rintro _ _ ⟨rfl, rfl⟩)
    | rw [rev_vote _ _ _ _ _ x.vote y.vote rfl rfl]
    | simp only [go_sem, reduceIte, Nat.reduceEqDiff, Nat.reduceAdd, Nat.reduceLeDiff, Nat.reducePow, Nat.reduceDiv, Nat.reduceMod, decide_true, *])
  all_goals exact ⟨by simp [Change.deq, *], Ext.b2 _ _⟩

theorem SameChanges_ok {P : Program} {f g : FuncId} (hf : Is P f (c_glebekit_SameChanges g)) (hg : SameChangeOk P g) : SameChangesOk P f := by
  refine ⟨hf.2, fun F F' h x y a b hx hy hl hd => fun_sound hf.1 (Nat.le_of_ble_eq_true rfl) ?_⟩
  show vc P (c_glebekit_SameChanges g).code ⟨[(0, a), (1, b)], [], h⟩ (atEnd (c_glebekit_SameChanges g).res _)
  have lx : alen a = some (.int .i64 x.length) := by simpa using hx.len
  have ly : alen b = some (.int .i64 y.length) := by simpa using hy.len
  simp only [c_glebekit_SameChanges, go_sem, reduceIte, Nat.reduceEqDiff, Nat.reduceAdd, Nat.reduceLeDiff, Nat.reducePow, Nat.reduceDiv, Nat.reduceMod, decide_true, lx, ly]
  refine wCond_split (fun c => ?_) (fun c => ?_)
  · simp only [go_sem, reduceIte, Nat.reduceEqDiff, Nat.reduceAdd, Nat.reduceLeDiff, Nat.reducePow, Nat.reduceDiv, Nat.reduceMod, decide_true]
    simp at c
    simp; rintro rfl; exact c rfl
  · simp only [go_sem, reduceIte, Nat.reduceEqDiff, Nat.reduceAdd, Nat.reduceLeDiff, Nat.reducePow, Nat.reduceDiv, Nat.reduceMod, decide_true]
    simp at c
    have c' : x.length = y.length := by omega
    refine vc_loop (fun m L h' => ∃ i : Nat, lk 0 L = a ∧ lk 1 L = b ∧ lk 5 L = .int .i64 i ∧ h' = h ∧ i ≤ x.length ∧ m = x.length - i ∧ ∀ j : Nat, j < i → x[j]? = y[j]?) x.length ?_ ?_
    · exact ⟨0, by simp [lk_ins, lk_cons], by simp [lk_ins, lk_cons], by simp [lk_ins], rfl, by omega, by omega, by omega⟩
    · rintro m L h' ⟨i, h0, h1, h5, rfl, hi, rfl, hj⟩
      simp only [c_glebekit_SameChanges_l0, go_sem, reduceIte, Nat.reduceEqDiff, Nat.reduceAdd, Nat.reduceLeDiff, Nat.reducePow, Nat.reduceDiv, Nat.reduceMod, decide_true, lx, h0, h1, h5]
      refine wCond_split (fun ci => ?_) (fun ci => ?_)
      · simp at ci
        have iy : i < y.length := by omega
        obtain ⟨p, cs, hp, hpc, hcs⟩ := hx.index .i64 (i := i) (d := x[i].c) (by omega) (by simp [ci])
        obtain ⟨q, cs', hq, hqc, hcs'⟩ := hy.index .i64 (i := i) (d := y[i].c) (by omega) (by simp [iy])
        have e : IntKind.i64.wrap (↑i + 1) = (i : Int) + 1 := wrap_i64 (by omega)
        have l1 : cs.length = 17 := by rw [RdL_length hcs]; rfl
        have l2 : cs'.length = 17 := by rw [RdL_length hcs']; rfl
        have t1 : cs.take 17 = cs := List.take_of_length_le (by omega)
        have t2 : cs'.take 17 = cs' := List.take_of_length_le (by omega)
        simp only [go_sem, reduceIte, Nat.reduceEqDiff, Nat.reduceAdd, Nat.reduceLeDiff, Nat.reducePow, Nat.reduceDiv, Nat.reduceMod, decide_true, h0, h1, h5, hp, hq, aload_p hpc, aload_p hqc, l1, l2, t1, t2]
        refine use1 hg.1 (hg.2 F F' _ x[i] y[i] _ _ hcs hcs' (hd _ (by simp))) ?_
        simp only [go_sem, reduceIte, Nat.reduceEqDiff, Nat.reduceAdd, Nat.reduceLeDiff, Nat.reducePow, Nat.reduceDiv, Nat.reduceMod, decide_true, aload_p hpc, aload_p hqc, l1, l2, t1, t2, or_true]
        refine wCond_split (fun ce => ?_) (fun ce => ?_)
        · simp only [go_sem, reduceIte, Nat.reduceEqDiff, Nat.reduceAdd, Nat.reduceLeDiff, Nat.reducePow, Nat.reduceDiv, Nat.reduceMod, decide_true]
          simp at ce
          simp; rintro rfl; exact ce rfl
        · simp only [go_sem, reduceIte, Nat.reduceEqDiff, Nat.reduceAdd, Nat.reduceLeDiff, Nat.reducePow, Nat.reduceDiv, Nat.reduceMod, decide_true, h0, h1, h5, e]
          simp at ce
          refine ⟨_, ?_, i + 1, by simp, ci, rfl, fun j hj' => ?_⟩
          · omega
          · rcases Nat.lt_or_ge j i with hlt | hge
            · exact hj j hlt
            · obtain rfl : j = i := by omega
              simp [ci, iy, ce]
      · simp at ci
        simp only [go_sem, reduceIte, Nat.reduceEqDiff, Nat.reduceAdd, Nat.reduceLeDiff, Nat.reducePow, Nat.reduceDiv, Nat.reduceMod, decide_true, lx, h0, h1, h5]
        obtain rfl : i = x.length := by omega
        simp [ext_upto c' hj]


end Glb
