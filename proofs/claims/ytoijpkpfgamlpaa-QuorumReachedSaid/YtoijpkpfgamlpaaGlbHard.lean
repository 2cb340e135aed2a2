/-
  Members, and what a member of a group must not forget: big, copied.
-/
import Derived.Test.YtoijpkpfgamlpaaGlbPack2
import Derived.Test.YtoijpkpfgamlpaaGlbMsg
set_option linter.unusedSimpArgs false
set_option linter.unusedVariables false
namespace Glb
open Go
set_option maxRecDepth 10000
set_option maxHeartbeats 4000000

theorem rd_conf {x : Conf} {F : Nat → Prop} {h : AHeap} {a : List AV} (hh : RdL F h x.c a) : ∃ o n e, a = [o, n, e] ∧ Rd F h (dInts x.old) o ∧ Rd F h (dInts x.new) n ∧ Rd F h (dInts x.learners) e := by
  simp only [Conf.c, RdL] at hh
  obtain ⟨o, _, rfl, ho, n, _, rfl, hn, e, _, rfl, he, rfl⟩ := hh
  exact ⟨o, n, e, rfl, ho, hn, he⟩

def BigConfOk (P : Program) (f : FuncId) : Prop :=
  isFn P f = true ∧ ∀ (F : Nat → Prop) (h : AHeap) (x : Conf) (a : List AV) (items : Int), RdL F h x.c a →
    ACalls P f [.agg a, .int .i64 items] h fun r h' => ∃ b, r = .bool b ∧ h' = h ∧ (b = false → (x.old.length : Int) ≤ items ∧ (x.new.length : Int) ≤ items ∧ (x.learners.length : Int) ≤ items)

theorem BigConf_ok {P : Program} {f : FuncId} (hf : Is P f c_glebekit_BigConf) : BigConfOk P f := by
  refine ⟨hf.2, fun F h x a items ha => (ACalls.trunc (K := fun r h' => Ext nof h h' ∧ ∃ b, r = .bool b ∧ (b = false → (x.old.length : Int) ≤ items ∧ (x.new.length : Int) ≤ items ∧ (x.learners.length : Int) ≤ items))
    (K' := fun r => ∃ b, r = .bool b ∧ (b = false → (x.old.length : Int) ≤ items ∧ (x.new.length : Int) ≤ items ∧ (x.learners.length : Int) ≤ items)) (fun_sound hf.1 (Nat.le_of_ble_eq_true rfl) ?_)
    (fun r h' hk => ⟨hk.1, by obtain ⟨b, rfl, _⟩ := hk.2; exact upto_bool _ _, hk.2⟩)).mono fun r h' hk => let ⟨b, h1, h2⟩ := hk.2; ⟨b, h1, hk.1, h2⟩⟩
  show vc P c_glebekit_BigConf.code ⟨[(0, .agg a), (1, .int .i64 items)], [], h⟩ (atEnd c_glebekit_BigConf.res _)
  obtain ⟨o, n, e, rfl, ho, hn, he⟩ := rd_conf ha
  have lo := ho.len
  have ln := hn.len
  have le := he.len
  simp only [List.length_map] at lo ln le
  simp only [c_glebekit_BigConf, go_sem, reduceIte, Nat.reduceEqDiff, Nat.reduceAdd, Nat.reduceLeDiff, Nat.reducePow, Nat.reduceDiv, Nat.reduceMod, decide_true, ho.scalar, hn.scalar, he.scalar, lo]
  by_cases c1 : items < (x.old.length : Int)
  · simp only [go_sem, reduceIte, Nat.reduceEqDiff, Nat.reduceAdd, Nat.reduceLeDiff, Nat.reducePow, Nat.reduceDiv, Nat.reduceMod, decide_true, decide_eq_true c1]
    exact ⟨Ext.b1 _, _, rfl, fun e => by cases e⟩
  · simp only [go_sem, reduceIte, Nat.reduceEqDiff, Nat.reduceAdd, Nat.reduceLeDiff, Nat.reducePow, Nat.reduceDiv, Nat.reduceMod, decide_true, decide_eq_false c1, ln]
    by_cases c2 : items < (x.new.length : Int)
    · simp only [go_sem, reduceIte, Nat.reduceEqDiff, Nat.reduceAdd, Nat.reduceLeDiff, Nat.reducePow, Nat.reduceDiv, Nat.reduceMod, decide_true, decide_eq_true c2]
      exact ⟨Ext.b1 _, _, rfl, fun e => by cases e⟩
    · simp only [go_sem, reduceIte, Nat.reduceEqDiff, Nat.reduceAdd, Nat.reduceLeDiff, Nat.reducePow, Nat.reduceDiv, Nat.reduceMod, decide_true, decide_eq_false c2, le]
      exact ⟨Ext.b1 _, _, rfl, fun e => ⟨by omega, by omega, by simpa using e⟩⟩

def CopyConfOk (P : Program) (f : FuncId) : Prop :=
  isFn P f = true ∧ ∀ (F : Nat → Prop) (h : AHeap) (x : Conf) (a : List AV), RdL F h x.c a → x.old.length ≤ 2^40 → x.new.length ≤ 2^40 → x.learners.length ≤ 2^40 →
    ACalls P f [.agg a] h fun r h' => ∃ o n e, r = .agg [o, n, e] ∧ Own (dInts x.old) (fun k => h.length ≤ k) h' o ∧ Own (dInts x.new) (fun k => h.length ≤ k) h' n ∧ Own (dInts x.learners) (fun k => h.length ≤ k) h' e ∧ Ext nof h h'

theorem CopyConf_ok {P : Program} {f g : FuncId} (hf : Is P f (c_glebekit_CopyConf g)) (hg : CopyOk P g .i64) : CopyConfOk P f := by
  refine ⟨hf.2, fun F h x a ha l1 l2 l3 => fun_sound hf.1 (Nat.le_of_ble_eq_true rfl) ?_⟩
  show vc P (c_glebekit_CopyConf g).code ⟨[(0, .agg a)], [], h⟩ (atEnd (c_glebekit_CopyConf g).res _)
  obtain ⟨o, n, e, rfl, ho, hn, he⟩ := rd_conf ha
  simp only [c_glebekit_CopyConf, go_sem, reduceIte, Nat.reduceEqDiff, Nat.reduceAdd, Nat.reduceLeDiff, Nat.reducePow, Nat.reduceDiv, Nat.reduceMod, decide_true, ho.scalar, hn.scalar, he.scalar]
  have A0 := bx20 h (some (.arr 3 [[o, n, e]] false)) (some (.arr 3 [[.nils, .nils, .nils]] false))
  have B0 := bx21 h (some (.arr 3 [[o, n, e]] false)) (some (.arr 3 [[.nils, .nils, .nils]] false))
  have x0 := Ext.b2 (h := h) (some (.arr 3 [[o, n, e]] false)) (some (.arr 3 [[.nils, .nils, .nils]] false))
  have ho0 := ho.up x0
  have hn0 := hn.up x0
  have he0 := he.up x0
  refine wCall_use ⟨hg.1, hg.2 F _ x.old o ho0 l1⟩ ?_
  rintro o' g1 ⟨o1, _, x1⟩
  have A1 := x1.get A0
  have B1 := x1.get B0
  simp only [go_sem, reduceIte, Nat.reduceEqDiff, Nat.reduceAdd, Nat.reduceLeDiff, Nat.reducePow, Nat.reduceDiv, Nat.reduceMod, decide_true, A1]
  refine wCall_use ⟨hg.1, hg.2 F _ x.new n (hn0.up x1) l2⟩ ?_
  rintro n' g2 ⟨n2, _, x2⟩
  have A2 := x2.get A1
  have B2 := x2.get B1
  simp only [go_sem, reduceIte, Nat.reduceEqDiff, Nat.reduceAdd, Nat.reduceLeDiff, Nat.reducePow, Nat.reduceDiv, Nat.reduceMod, decide_true, A1, A2]
  refine wCall_use ⟨hg.1, hg.2 F _ x.learners e ((he0.up x1).up x2) l3⟩ ?_
  rintro e' g3 ⟨e3, _, x3⟩
  have A3 := x3.get A2
  have B3 := x3.get B2
  have lB := (List.getElem?_eq_some_iff.1 B3).1
  simp only [go_sem, reduceIte, Nat.reduceEqDiff, Nat.reduceAdd, Nat.reduceLeDiff, Nat.reducePow, Nat.reduceDiv, Nat.reduceMod, decide_true, A2, A3, B3, o1.scalar, n2.scalar, e3.scalar, cells_of o1.scalar, cells_of n2.scalar, cells_of e3.scalar, lB]
  have q0 := x0.1
  have q1 := x1.1
  have q2 := x2.1
  simp only [List.length_append, List.length_cons, List.length_nil] at q0 q1
  have st : ∀ {d : D} {G : Nat → Prop} {av : AV}, Own d G g3 av → (∀ m, G m → h.length + 2 ≤ m) → Own d (fun k => h.length ≤ k) (g3.set (h.length + 1) (some (.arr 3 [[o', n', e']] false))) av := fun hh hG =>
    Own.mono _ (fun m hm => by have := hG m hm; omega) (fun m hm y hy => by have := hG m hm; rw [List.getElem?_set_ne (by omega)]; exact hy) _ hh
  refine ⟨o', n', e', rfl, st ((o1.up x2).up x3) (fun m hm => ?_), st (n2.up x3) (fun m hm => ?_), st e3 (fun m hm => ?_), (((x0.tr x1).tr x2).tr x3).setNew (by omega) _⟩
  · simp only [List.length_append, List.length_cons, List.length_nil] at hm; omega
  · omega
  · omega

structure Hard where
  group : Int
  term : Int
  vote : Int
  log : Log
  conf : Conf
  snap : List Int
  deriving DecidableEq

def Hard.c (x : Hard) : List D := [.int .i64 x.group, .int .i64 x.term, .int .i64 x.vote, .int .i64 x.log.base, .int .i64 x.log.bterm, dEntries x.log.es, dInts x.conf.old, dInts x.conf.new, dInts x.conf.learners, dBytes x.snap]
def Hard.cells (x : Hard) (e o n l s : AV) : List AV := [.int .i64 x.group, .int .i64 x.term, .int .i64 x.vote, .int .i64 x.log.base, .int .i64 x.log.bterm, e, o, n, l, s]

theorem rd_hard {x : Hard} {F : Nat → Prop} {h : AHeap} {a : List AV} (hh : RdL F h x.c a) : ∃ e o n l s, a = x.cells e o n l s ∧ Rd F h (dEntries x.log.es) e ∧ Rd F h (dInts x.conf.old) o ∧ Rd F h (dInts x.conf.new) n ∧ Rd F h (dInts x.conf.learners) l ∧ Rd F h (dBytes x.snap) s := by
  simp only [Hard.c, rdL_int] at hh
  obtain ⟨_, rfl, _, rfl, _, rfl, _, rfl, _, rfl, hh⟩ := hh
  simp only [RdL] at hh
  obtain ⟨e, _, rfl, he, o, _, rfl, ho, n, _, rfl, hn, l, _, rfl, hl, s, _, rfl, hs, rfl⟩ := hh
  exact ⟨e, o, n, l, s, rfl, he, ho, hn, hl, hs⟩

theorem conf_rd {x : Conf} {F : Nat → Prop} {h : AHeap} {o n l : AV} (ho : Rd F h (dInts x.old) o) (hn : Rd F h (dInts x.new) n) (hl : Rd F h (dInts x.learners) l) : RdL F h x.c [o, n, l] := by
  simp only [Conf.c, RdL]
  exact ⟨o, _, rfl, ho, n, _, rfl, hn, l, _, rfl, hl, rfl⟩

def Hard.small (x : Hard) (items bytes : Int) : Prop := (x.log.es.length ≤ items.toNat ∧ ∀ e ∈ x.log.es, e.data.length ≤ bytes.toNat) ∧ ((x.conf.old.length : Int) ≤ items ∧ (x.conf.new.length : Int) ≤ items ∧ (x.conf.learners.length : Int) ≤ items) ∧ (x.snap.length : Int) ≤ bytes

def BigHardOk (P : Program) (f : FuncId) : Prop :=
  isFn P f = true ∧ ∀ (F : Nat → Prop) (h : AHeap) (x : Hard) (a : List AV) (items bytes : Int), RdL F h x.c a → 0 ≤ items ∧ items ≤ 2^40 → 0 ≤ bytes ∧ bytes ≤ 2^40 →
    ACalls P f [.agg a, .int .i64 items, .int .i64 bytes] h fun r h' => ∃ b, r = .bool b ∧ h' = h ∧ (b = false → x.small items bytes)

theorem BigHard_ok {P : Program} {f g k : FuncId} (hf : Is P f (c_glebekit_BigHard g k)) (hg : BigEntriesOk P g) (hk : BigConfOk P k) : BigHardOk P f := by
  refine ⟨hf.2, fun F h x a items bytes ha hi hb => (ACalls.trunc (K := fun r h' => Ext nof h h' ∧ ∃ b, r = .bool b ∧ (b = false → x.small items bytes)) (K' := fun r => ∃ b, r = .bool b ∧ (b = false → x.small items bytes)) (fun_sound hf.1 (Nat.le_of_ble_eq_true rfl) ?_)
    (fun r h' hk => ⟨hk.1, by obtain ⟨b, rfl, _⟩ := hk.2; exact upto_bool _ _, hk.2⟩)).mono fun r h' hk => let ⟨b, h1, h2⟩ := hk.2; ⟨b, h1, hk.1, h2⟩⟩
  show vc P (c_glebekit_BigHard g k).code ⟨[(0, .agg a), (1, .int .i64 items), (2, .int .i64 bytes)], [], h⟩ (atEnd (c_glebekit_BigHard g k).res _)
  obtain ⟨e, o, n, l, s, rfl, he, ho, hn, hl, hs⟩ := rd_hard ha
  have ls := hs.len
  simp only [List.length_map] at ls
  simp only [c_glebekit_BigHard, Hard.cells, go_sem, reduceIte, Nat.reduceEqDiff, Nat.reduceAdd, Nat.reduceLeDiff, Nat.reducePow, Nat.reduceDiv, Nat.reduceMod, decide_true, he.scalar, ho.scalar, hn.scalar, hl.scalar, hs.scalar]
  refine wCall_use ⟨hg.1, hg.2 F _ x.log.es _ items bytes (he.up (Ext.b1 _)) hi hb⟩ ?_
  rintro _ _ ⟨b1, rfl, rfl, hb1⟩
  cases b1
  · simp only [go_sem, reduceIte, Nat.reduceEqDiff, Nat.reduceAdd, Nat.reduceLeDiff, Nat.reducePow, Nat.reduceDiv, Nat.reduceMod, decide_true]
    refine wCall_use ⟨hk.1, hk.2 F _ x.conf _ items ((conf_rd ho hn hl).up (Ext.b1 _))⟩ ?_
    rintro _ _ ⟨b2, rfl, rfl, hb2⟩
    cases b2
    · simp only [go_sem, reduceIte, Nat.reduceEqDiff, Nat.reduceAdd, Nat.reduceLeDiff, Nat.reducePow, Nat.reduceDiv, Nat.reduceMod, decide_true, ls]
      exact ⟨Ext.b1 _, _, rfl, fun e => ⟨hb1 rfl, hb2 rfl, by simpa using e⟩⟩
    · simp only [go_sem, reduceIte, Nat.reduceEqDiff, Nat.reduceAdd, Nat.reduceLeDiff, Nat.reducePow, Nat.reduceDiv, Nat.reduceMod, decide_true]
      exact ⟨Ext.b1 _, _, rfl, fun e => by cases e⟩
  · simp only [go_sem, reduceIte, Nat.reduceEqDiff, Nat.reduceAdd, Nat.reduceLeDiff, Nat.reducePow, Nat.reduceDiv, Nat.reduceMod, decide_true]
    exact ⟨Ext.b1 _, _, rfl, fun e => by cases e⟩

end Glb
