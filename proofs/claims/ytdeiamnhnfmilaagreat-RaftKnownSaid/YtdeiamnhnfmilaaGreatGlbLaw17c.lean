/-
  Layer 17: the chapter's examples.
-/
import Derived.Test.YtdeiamnhnfmilaaGreatGlbRafK
set_option linter.unusedSimpArgs false
set_option linter.unusedVariables false
namespace Glb
open Go
open Nat (reduceAdd reduceEqDiff reduceLeDiff)
set_option maxRecDepth 10000
set_option maxHeartbeats 8000000
theorem exM_at (L : Nat -> Nat) (h : AHeap) (kind from_ term index prev : Int) : MsgAt L h (exM kind from_ term index prev) [.int .i64 kind, .int .i64 from_, .int .i64 2, .int .i64 1, .int .i64 term, .int .i64 index, .int .i64 prev, .int .i64 0, .int .i64 0, .int .i64 0, .int .i64 0, .int .i64 0, .int .i64 0, .int .i64 0, .bool false, .nils, .nils] := by
 refine ⟨nof, ?_, fun _ y => y.elim⟩
 have e : RdL nof h (exM kind from_ term index prev).c ((exM kind from_ term index prev).cells .nils .nils) := rd_msg_mk ⟨_, .inl ⟨rfl, rfl⟩, rfl⟩ ⟨_, .inl ⟨rfl, rfl⟩, rfl⟩
 exact e
theorem exM_fit {kind from_ term index prev : Int} (h1 : term <= 2^40) (h2 : i64ok from_ /\ i64ok prev) (h3 : 0 <= index /\ index <= 2^40) : (exM kind from_ term index prev).fit :=
 ⟨⟨Nat.zero_le _, (by intro e he; cases he)⟩, ⟨(by intro e he; cases he), Nat.zero_le _⟩, h1, h2, fun _ => h3⟩
theorem raftKnown_ok {P : Program} {f f1 f2 f3 f4 f5 f6 f7 f8 f9 f10 f11 f12 : FuncId} (hf : Is P f (c_glebelaw17_RaftKnown f1 f2 f3 f4 f5 f6 f7 f8 f9 f10 f11 f12)) (u1 : RAloneOk P f1) (u2 : RNewOk P f2) (u3 : RTickOk P f3) (u4 : RProposeOk P f4) (u5 : RReadOk P f5) (u6 : RCompactOk P f6)
  (u7 : RHardOk P f7) (u8 : RSafeOk P f8) (u9 : RStepOk P f9) (u10 : NumOk P f10 Raft.leader) (u11 : NumOk P f11 Raft.role) (u12 : RKnownOk P f12) : isFn P f = true /\ ∀ h : AHeap, ACalls P f [] h fun v h' => v = .bool true /\ h' = h := by
 refine ⟨hf.2, fun h => ACalls.freeze (K := fun v h' => v = .bool true /\ Ext nof h h') (fun_sound hf.1 (Nat.le_of_ble_eq_true rfl) ?_) (fun r _ ⟨e, hx⟩ => ⟨hx, r, by rw [e]; exact Frz.bool _, e⟩)⟩
 show vc P (c_glebelaw17_RaftKnown f1 f2 f3 f4 f5 f6 f7 f8 f9 f10 f11 f12).code ⟨[], [], h⟩ (atEnd (c_glebelaw17_RaftKnown f1 f2 f3 f4 f5 f6 f7 f8 f9 f10 f11 f12).res _)
 simp only [c_glebelaw17_RaftKnown, go_sem]
 refine use1 u1.1 (u1.2 h) ?_
 simp only [go_sem]
 refine wCall_use ⟨u2.1, u2.2 nof h 1 aloneH _ 0 (rd_hardv nof h aloneH) (knR_fit0.logOk (by decide)) ((right_few (by decide : aloneH.conf.right = true)).le (by decide)) (by decide) (by decide)⟩ ?_
 rintro _ h1 ⟨r, rfl, hr, row, X1⟩
 have m1 : Mine h.length h1 r (knR 0) := by
  refine ⟨_, new_mem row, fun m hm => ?_⟩
  by_cases c : m = r
  ·omega
  ·exact absurd (if_neg c) hm
 simp only [go_sem, reduceEqDiff]
 obtain ⟨I, hI⟩ : ∃ I : Nat -> Env -> AHeap -> Prop, ∀ m L h', I m L h' ↔ ∃ i : Nat, lk 1 L = .ptr r 21 0 0 /\ lk 2 L = .int .i64 i /\ Mine h.length h' r (knR i) /\ Ext nof h h' /\ i <= 10 /\ m = 10 - i := ⟨_, fun _ _ _ => Iff.rfl⟩
 refine vc_loop I 10 ((hI _ _ _).2 ⟨0, by simp [lk_ins], by simp [lk_ins], m1, X1, by omega, by omega⟩) ?_
 clear m1 X1 row
 intro m L h2 hh
 obtain ⟨i, k1, k2, ⟨L2, mm, ml⟩, X2, hi, rfl⟩ := (hI _ _ _).1 hh
 have x2 := X2.1
 simp only [c_glebelaw17_RaftKnown_l0, go_sem, k2]
 refine wCond_split (fun ci => ?_) (fun ci => ?_)
 ·simp at ci
  have ci : i < 10 := by omega
  have ew : IntKind.i64.wrap ((i : Int) + 1) = ((i + 1 : Nat) : Int) := by rw [wrap_i64 (by omega)]; omega
  have ft := knR_fit i (by omega)
  simp only [go_sem, reduceEqDiff, k1]
  refine wCall_use ⟨u3.1, u3.2 L2 h2 r (knR i) _ 0 mm ft (by omega)⟩ ?_
  intro v h3 ro
  obtain ⟨m3, -, X3⟩ := Mine.out mm ml (by omega) ro
  have X23 : Ext nof h h3 := ⟨by have := X3.1; omega, fun m hm _ => (X3.2 m (by omega) (by omega)).trans (X2.2 m hm (fun z => z))⟩
  simp only [go_sem, reduceEqDiff, k2, ew]
  exact ⟨_, by omega, (hI _ _ _).2 ⟨i + 1, by simp [lk_ins, k1], by simp [lk_ins], m3, X23, by omega, rfl⟩⟩
 ·simp at ci
  have : i = 10 := by omega
  subst this
  clear hh hI
  have f10 : (knR 10).fit 21 := knR_fit 10 (by omega)
  simp only [go_sem, reduceEqDiff, reduceAdd, k1]
  have C1 := bx10 h2 (some (ABlk.arr 1 [[.int .u8 7]] false))
  have q1 := mm.up (Ext.b1 (some (ABlk.arr 1 [[.int .u8 7]] false)))
  have dt : DatAt L2 (h2 ++ [some (ABlk.arr 1 [[.int .u8 7]] false)]) (dBytes [7]) (.ref h2.length 1 0 1 (some 1)) := by
   refine ⟨fun m => m = h2.length, ?_, fun m hm => ⟨by rw [hm]; exact mm.ge (Nat.le_refl _), by simp; omega⟩⟩
   exact ⟨_, .inr (.inr ⟨_, _, _, _, _, _, rfl, rfl, C1, by simp, (fun c hc => by cases hc; simp), rfl⟩), by simp [RdLL, RdL, Rd]⟩
  refine wCall_use ⟨u4.1, u4.2 L2 _ r (knR 10) 21 1 [7] _ q1 f10 (by omega) dt ⟨by intro e he; simp at he; subst he; decide, by decide⟩ (by constructor <;> decide)⟩ ?_
  rintro _ h3 ⟨w, rfl, ro⟩
  obtain ⟨L3, ma, ca, aa, rfl, m3, e3, -, -, -, -, X3⟩ := ro.dat q1
  have ml3 := stepLab e3 ml (by simp; omega)
  have Y3 := stepExt (X2.tr (Ext.b1 _)) X3 ml
  clear ro C1 dt q1
  change MemAt L3 h3 r exA at m3
  obtain ⟨n1, n2, n3, n4⟩ := ex_kinds
  simp only [go_sem, reduceEqDiff, k1]
  refine wCall_use ⟨u4.1, u4.2 L3 h3 r exA 100 3 [] .nils m3 exA_fit (by omega) (dat_nils _ _ _) ⟨(by intro e he; cases he), by decide⟩ (by constructor <;> decide)⟩ ?_
  rintro _ h4 ⟨w, rfl, ro⟩
  obtain ⟨L4, ma, ca, aa, rfl, m4, e4, -, -, -, ⟨s1, s2, s3⟩, X4⟩ := ro.dat m3
  rw [n1] at m4
  have ml4 := stepLab e4 ml3 Y3.1
  have Y4 := stepExt Y3 X4 ml3
  clear ro
  simp only [go_sem, reduceEqDiff, reduceAdd, reduceLeDiff, k1, s1, s2, s3, n2]
  have m4' := m4.up (Ext.b1 (some (ABlk.arr 5 [[ma, ca, aa, .int .i64 (exA.propose 3 []).2.1.o.first, .bool (exA.propose 3 []).2.1.o.restore]] false)))
  have Y4' := Y4.tr (Ext.b1 (some (ABlk.arr 5 [[ma, ca, aa, .int .i64 (exA.propose 3 []).2.1.o.first, .bool (exA.propose 3 []).2.1.o.restore]] false)))
  generalize h4 ++ [some (ABlk.arr 5 [[ma, ca, aa, .int .i64 (exA.propose 3 []).2.1.o.first, .bool (exA.propose 3 []).2.1.o.restore]] false)] = H4 at m4' Y4' ⊢
  refine wCall_use ⟨u4.1, u4.2 L4 H4 r exA 100 2 [] .nils m4' exA_fit (by omega) (dat_nils _ _ _) ⟨(by intro e he; cases he), by decide⟩ (by constructor <;> decide)⟩ ?_
  rintro _ h5 ⟨w, rfl, ro⟩
  obtain ⟨L5, ma, ca, aa, rfl, m5, e5, -, -, -, ⟨s1, s2, s3⟩, X5⟩ := ro.dat m4'
  rw [n3] at m5
  have ml5 := stepLab e5 ml4 Y4'.1
  have Y5 := stepExt Y4' X5 ml4
  clear ro
  simp only [go_sem, reduceEqDiff, reduceAdd, reduceLeDiff, k1, s1, s2, s3, n4]
  have m5' := m5.up (Ext.b1 (some (ABlk.arr 5 [[ma, ca, aa, .int .i64 (exA.propose 2 []).2.1.o.first, .bool (exA.propose 2 []).2.1.o.restore]] false)))
  have Y5' := Y5.tr (Ext.b1 (some (ABlk.arr 5 [[ma, ca, aa, .int .i64 (exA.propose 2 []).2.1.o.first, .bool (exA.propose 2 []).2.1.o.restore]] false)))
  generalize h5 ++ [some (ABlk.arr 5 [[ma, ca, aa, .int .i64 (exA.propose 2 []).2.1.o.first, .bool (exA.propose 2 []).2.1.o.restore]] false)] = H5 at m5' Y5' ⊢
  obtain ⟨o1, o2⟩ := ex_read
  refine wCall_use ⟨u5.1, u5.2 L5 H5 r exA 100 m5' exA_fit (by omega)⟩ ?_
  rintro _ h6 ⟨w, rfl, ro⟩
  obtain ⟨L6, ma, ca, aa, rfl, m6, e6, -, -, -, ⟨s1, s2, s3⟩, X6⟩ := ro.dat m5'
  change MemAt L6 h6 r exB at m6
  have ml6 := stepLab e6 ml5 Y5'.1
  have Y6 := stepExt Y5' X6 ml5
  clear ro
  simp only [go_sem, reduceEqDiff, reduceAdd, reduceLeDiff, k1, s1, s2, s3, o1, o2]
  have m6' := m6.up (Ext.b1 (some (ABlk.arr 5 [[ma, ca, aa, .int .i64 (exA.read).2.1.o.first, .bool (exA.read).2.1.o.restore]] false)))
  have Y6' := Y6.tr (Ext.b1 (some (ABlk.arr 5 [[ma, ca, aa, .int .i64 (exA.read).2.1.o.first, .bool (exA.read).2.1.o.restore]] false)))
  generalize h6 ++ [some (ABlk.arr 5 [[ma, ca, aa, .int .i64 (exA.read).2.1.o.first, .bool (exA.read).2.1.o.restore]] false)] = H6 at m6' Y6' ⊢
  obtain ⟨p1, p2, p3, p4⟩ := ex_compact
  refine wCall_use ⟨u6.1, u6.2 L6 H6 r exB 100 3 [] .nils m6' exB_fit (by omega) (dat_nils _ _ _) ⟨(by intro e he; cases he), by decide⟩⟩ ?_
  rintro _ h7 ⟨w, rfl, ro⟩
  obtain ⟨L7, ma, ca, aa, rfl, m7, e7, -, -, -, ⟨s1, s2, s3⟩, X7⟩ := ro.dat m6'
  rw [p1] at m7
  have ml7 := stepLab e7 ml6 Y6'.1
  have Y7 := stepExt Y6' X7 ml6
  clear ro
  simp only [go_sem, reduceEqDiff, reduceAdd, reduceLeDiff, k1, s1, s2, s3, p2]
  obtain ⟨H7, hH7⟩ : ∃ H7, H7 = h7 ++ [some (ABlk.arr 5 [[ma, ca, aa, .int .i64 (exB.compact 3 []).1.o.first, .bool (exB.compact 3 []).1.o.restore]] false)] ++ [some (ABlk.arr 1 [[.int .u8 9]] false)] := ⟨_, rfl⟩
  have Z7 : Ext nof h7 H7 := by rw [hH7]; exact Ext.b2 _ _
  have l7 : H7.length = h7.length + 2 := by rw [hH7]; simp
  have C7 : H7[h7.length + 1]? = some (some (ABlk.arr 1 [[.int .u8 9]] false)) := by rw [hH7]; exact bx21 _ _ _
  rw [<- hH7]
  clear hH7
  have m7' := m7.up Z7
  have Y7' := Y7.tr Z7
  have dt : DatAt L7 H7 (dBytes [9]) (.ref (h7.length + 1) 1 0 1 (some 1)) := by
   refine ⟨fun m => m = h7.length + 1, ?_, fun m hm => ⟨by rw [hm]; exact m7.ge (by omega), by omega⟩⟩
   exact ⟨_, .inr (.inr ⟨_, _, _, _, _, _, rfl, rfl, C7, by simp, (fun c hc => by cases hc; simp), rfl⟩), by simp [RdLL, RdL, Rd]⟩
  refine wCall_use ⟨u6.1, u6.2 L7 H7 r exB 100 2 [9] _ m7' exB_fit (by omega) dt ⟨by intro e he; simp at he; subst he; decide, by decide⟩⟩ ?_
  rintro _ h8 ⟨w, rfl, ro⟩
  obtain ⟨L8, ma, ca, aa, rfl, m8, e8, -, dc, -, ⟨s1, s2, s3⟩, X8⟩ := ro.dat m7'
  change MemAt L8 h8 r exC at m8
  have ml8 := stepLab e8 ml7 Y7'.1
  have Y8 := stepExt Y7' X8 ml7
  clear ro
  simp only [go_sem, reduceEqDiff, reduceAdd, reduceLeDiff, k1, s1, s2, s3, p3]
  obtain ⟨t1, t2, t3, t4, t5⟩ := ex_hard
  obtain ⟨v1, v2, v3⟩ := ex_safe
  obtain ⟨H8, hH8⟩ : ∃ H8, H8 = h8 ++ [some (ABlk.arr 5 [[ma, ca, aa, .int .i64 (exB.compact 2 [9]).1.o.first, .bool (exB.compact 2 [9]).1.o.restore]] false)] := ⟨_, rfl⟩
  have Z8 : Ext nof h8 H8 := by rw [hH8]; exact Ext.b1 _
  have C8 : H8[h8.length]? = some (some (ABlk.arr 5 [[ma, ca, aa, .int .i64 (exB.compact 2 [9]).1.o.first, .bool (exB.compact 2 [9]).1.o.restore]] false)) := by rw [hH8]; exact bx10 _ _
  rw [<- hH8]
  clear hH8
  have m8' := m8.up Z8
  have Y8' := Y8.tr Z8
  have fC := exC_fit
  refine wCall_use ⟨u7.1, u7.2 H8 r exC m8'.row (fC.logOk (by omega)) ((right_few fC.conf).le (by decide)) (by have := fC.snap.2; omega) (by have := fC.len; have := fC.base; omega)⟩ ?_
  rintro _ h9 ⟨b, rfl, ob, X9⟩
  obtain ⟨he, ho, hn, hl, hs, rfl, re, rO, rN, rL, rS⟩ := rd_hard (OwnL.rd _ (F' := fun m => H8.length <= m) (fun _ y => y) _ ob)
  clear ob
  have le : alen he = some (.int .i64 0) := by have := re.len; simpa [dEntries, t3] using this
  have ls : alen hs = some (.int .i64 1) := by have := rS.len; simpa [dBytes, t4] using this
  have lo : alen ho = some (.int .i64 1) := by have := rO.len; simpa [dInts, t5] using this
  have sc := And.intro re.scalar (And.intro rO.scalar (And.intro rN.scalar (And.intro rL.scalar rS.scalar)))
  obtain ⟨sc1, sc2, sc3, sc4, sc5⟩ := sc
  obtain ⟨H9, hH9⟩ : ∃ H9, H9 = h9 ++ [some (ABlk.arr 10 [[.int .i64 exC.hard.group, .int .i64 exC.hard.term, .int .i64 exC.hard.vote, .int .i64 exC.hard.log.base, .int .i64 exC.hard.log.bterm, he, ho, hn, hl, hs]] false)] := ⟨_, rfl⟩
  have Z9 : Ext nof h9 H9 := by rw [hH9]; exact Ext.b1 _
  have C9 : H9[h9.length]? = some (some (ABlk.arr 10 [[.int .i64 exC.hard.group, .int .i64 exC.hard.term, .int .i64 exC.hard.vote, .int .i64 exC.hard.log.base, .int .i64 exC.hard.log.bterm, he, ho, hn, hl, hs]] false)) := by rw [hH9]; exact bx10 _ _
  have m9 := m8'.up (X9.tr Z9)
  have Y9 := Y8'.tr (X9.tr Z9)
  have D9 := (X9.tr Z9).get C8
  have dc9 := dc.up (Z8.tr (X9.tr Z9))
  obtain ⟨Gc, rdc, -⟩ := dc9
  have lc : alen ca = some (.int .i64 1) := by have := rdc.len; have l1 := congrArg List.length p4; simp at l1; simpa [dChanges, l1] using this
  obtain ⟨cg, hcg⟩ : ∃ cg, (exB.compact 2 [9]).1.o.changes = [cg] := by
   have l1 := congrArg List.length p4; simp at l1
   exact List.length_eq_one_iff.1 l1
  have ck : cg.kind = 3 := by rw [hcg] at p4; simpa using p4
  rw [hcg] at rdc
  obtain ⟨pc, cc, i1, i2, i3⟩ := Rd.index rdc .i64 (i := 0) (d := cg.c) (by decide) rfl
  simp only [Hard.cells] at *
  simp only [go_sem, reduceEqDiff, reduceAdd, reduceLeDiff, decide_true, k1, sc1, sc2, sc3, sc4, sc5]
  rw [<- hH9]
  clear hH9
  obtain ⟨ce, cO, cN, cL, cS, rfl, -⟩ := rd_change i3
  have ld := aload_off i2 0 false 1
  rw [ck] at ld
  refine use1 u8.1 (u8.2 L8 H9 r exC 100 1 m9 fC (by omega)) ?_
  simp only [go_sem, reduceEqDiff, k1, v1, Bool.not_true]
  refine use1 u8.1 (u8.2 L8 H9 r exC 100 2 m9 fC (by omega)) ?_
  simp only [go_sem, reduceEqDiff, k1, v2]
  refine use1 u8.1 (u8.2 L8 H9 r exC 100 0 m9 fC (by omega)) ?_
  simp only [go_sem, reduceEqDiff, reduceAdd, reduceLeDiff, decide_true, v3, D9, C9, lc, le, ls, lo, i1, afield_p i2 0, ld, t1, t2]
  clear dc rdc X9 i1 i2 i3 ld D9 C9 Z9 C8 Z8 m8' m8 m7 m7' m6 m6' m5 m5' m4 m4' m3
  obtain ⟨HA, hHA⟩ : ∃ HA, HA = H9 ++ [some (ABlk.arr 1 [[.int .i64 1], [.int .i64 2], [.int .i64 3]] false)] := ⟨_, rfl⟩
  have CA : HA[H9.length]? = some (some (ABlk.arr 1 [[.int .i64 1], [.int .i64 2], [.int .i64 3]] false)) := by rw [hHA]; exact bx10 _ _
  have YA : Ext nof h HA := by rw [hHA]; exact Y9.tr (Ext.b1 _)
  rw [<- hHA]
  clear hHA
  have rh : RdL (fun m => m = H9.length) HA exH.c [.int .i64 1, .int .i64 0, .int .i64 0, .int .i64 0, .int .i64 0, .nils, .ref H9.length 1 0 3 (some 3), .nils, .nils, .nils] := by
   have o1 : Rd (fun m => m = H9.length) HA (dInts [1, 2, 3]) (.ref H9.length 1 0 3 (some 3)) :=
    ⟨_, .inr (.inr ⟨_, _, _, _, _, _, rfl, rfl, CA, by simp, (fun c hc => by cases hc; simp), rfl⟩), by simp [RdLL, RdL, Rd]⟩
   have z : ∀ sz, Rd (fun m => m = H9.length) HA (.sl sz []) .nils := fun sz => ⟨[], .inl ⟨rfl, rfl⟩, rfl⟩
   show RdL _ _ [.int .i64 1, .int .i64 0, .int .i64 0, .int .i64 0, .int .i64 0, dEntries [], dInts [1, 2, 3], dInts [], dInts [], dBytes []] _
   simp only [RdL]
   exact ⟨_, _, rfl, rfl, _, _, rfl, rfl, _, _, rfl, rfl, _, _, rfl, rfl, _, _, rfl, rfl, _, _, rfl, z 3, _, _, rfl, o1, _, _, rfl, z 1, _, _, rfl, z 1, _, _, rfl, z 1, rfl⟩
  have fS := exS_fit
  refine wCall_use ⟨u2.1, u2.2 _ HA 2 exH _ 0 rh (fS.logOk (by omega)) ((right_few (by decide : exH.conf.right = true)).le (by decide)) (by decide) (by decide)⟩ ?_
  rintro _ hB ⟨q, rfl, hq, rowq, XB⟩
  have YB := YA.tr XB
  obtain ⟨LB, mB, mlB⟩ : ∃ LB, MemAt LB hB q exS /\ ∀ m, LB m ≠ 0 -> h.length <= m := by
   refine ⟨_, new_mem rowq, fun m hm => ?_⟩
   by_cases c : m = q
   ·have := YA.1; omega
   ·exact absurd (if_neg c) hm
  clear rh CA rowq
  simp only [go_sem, reduceEqDiff, reduceAdd, reduceLeDiff]
  refine wCall_use ⟨u9.1, u9.2 LB hB q exS 100 (exM 1 1 1 0 0) _ mB fS (by omega) (exM_at _ _ 1 1 1 0 0) (exM_fit (by omega) (by constructor <;> (constructor <;> decide)) (by omega))⟩ ?_
  intro v hC ro
  obtain ⟨LC, ma1, ca1, aa1, rfl, mC, eC, dm1, dc1, -, ⟨s1, s2, s3⟩, XC⟩ := ro.dat mB
  change MemAt LC hC q exT at mC
  have mlC := stepLab eC mlB YB.1
  have YC := stepExt YB XC mlB
  clear ro
  simp only [go_sem, reduceEqDiff, reduceAdd, reduceLeDiff, s1, s2, s3]
  obtain ⟨HC, hHC⟩ : ∃ HC, HC = hC ++ [some (ABlk.arr 5 [[ma1, ca1, aa1, .int .i64 (exS.step (exM 1 1 1 0 0)).o.first, .bool (exS.step (exM 1 1 1 0 0)).o.restore]] false)] := ⟨_, rfl⟩
  have ZC : Ext nof hC HC := by rw [hHC]; exact Ext.b1 _
  have C1 : HC[hC.length]? = some (some (ABlk.arr 5 [[ma1, ca1, aa1, .int .i64 (exS.step (exM 1 1 1 0 0)).o.first, .bool (exS.step (exM 1 1 1 0 0)).o.restore]] false)) := by rw [hHC]; exact bx10 _ _
  rw [<- hHC]
  have zC := mC.ge (Nat.le_refl _)
  have mC' := mC.up ZC
  have YC' := YC.tr ZC
  have lC : HC.length = hC.length + 1 := by rw [hHC]; simp
  clear hHC
  replace dm1 := dm1.up ZC
  replace dc1 := dc1.up ZC
  refine wCall_use ⟨u9.1, u9.2 LC HC q exT 100 (exM 1 3 1 0 0) _ mC' exT_fit (by omega) (exM_at _ _ 1 3 1 0 0) (exM_fit (by omega) (by constructor <;> (constructor <;> decide)) (by omega))⟩ ?_
  intro v hD ro
  obtain ⟨LD, ma2, ca2, aa2, rfl, mD, eD, dm2, dc2, -, ⟨s1, s2, s3⟩, XD⟩ := ro.dat mC'
  change MemAt LD hD q exU at mD
  have mlD := stepLab eD mlC YC'.1
  have YD := stepExt YC' XD mlC
  clear ro
  replace dm1 := dm1.keep XD eD
  replace dc1 := dc1.keep XD eD
  have C1D := (XD.2 hC.length (by omega) (by show ¬ wA (LC hC.length); rw [zC]; exact wA0)).trans C1
  have z1D := (eD hC.length (by omega)).trans zC
  simp only [go_sem, reduceEqDiff, reduceAdd, reduceLeDiff, s1, s2, s3]
  obtain ⟨HD, hHD⟩ : ∃ HD, HD = hD ++ [some (ABlk.arr 5 [[ma2, ca2, aa2, .int .i64 (exT.step (exM 1 3 1 0 0)).o.first, .bool (exT.step (exM 1 3 1 0 0)).o.restore]] false)] := ⟨_, rfl⟩
  have ZD : Ext nof hD HD := by rw [hHD]; exact Ext.b1 _
  have C2 : HD[hD.length]? = some (some (ABlk.arr 5 [[ma2, ca2, aa2, .int .i64 (exT.step (exM 1 3 1 0 0)).o.first, .bool (exT.step (exM 1 3 1 0 0)).o.restore]] false)) := by rw [hHD]; exact bx10 _ _
  rw [<- hHD]
  have zD := mD.ge (Nat.le_refl _)
  have mD' := mD.up ZD
  have YD' := YD.tr ZD
  have lD : HD.length = hD.length + 1 := by rw [hHD]; simp
  have xD := XD.1
  clear hHD
  replace dm1 := dm1.up ZD
  replace dc1 := dc1.up ZD
  replace dm2 := dm2.up ZD
  replace dc2 := dc2.up ZD
  replace C1D := ZD.get C1D
  refine wCall_use ⟨u9.1, u9.2 LD HD q exU 100 (exM 1 4 9 0 0) _ mD' exU_fit (by omega) (exM_at _ _ 1 4 9 0 0) (exM_fit (by omega) (by constructor <;> (constructor <;> decide)) (by omega))⟩ ?_
  intro v hE ro
  obtain ⟨LE, ma3, ca3, aa3, rfl, mE, eE, dm3, -, -, ⟨s1, s2, s3⟩, XE⟩ := ro.dat mD'
  change MemAt LE hE q exV at mE
  have mlE := stepLab eE mlD YD'.1
  have YE := stepExt YD' XE mlD
  clear ro
  replace dm1 := dm1.keep XE eE
  replace dc1 := dc1.keep XE eE
  replace dm2 := dm2.keep XE eE
  replace dc2 := dc2.keep XE eE
  have C1E := (XE.2 hC.length (by omega) (by show ¬ wA (LD hC.length); rw [z1D]; exact wA0)).trans C1D
  have C2E := (XE.2 hD.length (by omega) (by show ¬ wA (LD hD.length); rw [zD]; exact wA0)).trans C2
  have z1E := (eE hC.length (by omega)).trans z1D
  have z2E := (eE hD.length (by omega)).trans zD
  simp only [go_sem, reduceEqDiff, reduceAdd, reduceLeDiff, s1, s2, s3]
  obtain ⟨HE, hHE⟩ : ∃ HE, HE = hE ++ [some (ABlk.arr 5 [[ma3, ca3, aa3, .int .i64 (exU.step (exM 1 4 9 0 0)).o.first, .bool (exU.step (exM 1 4 9 0 0)).o.restore]] false)] := ⟨_, rfl⟩
  have ZE : Ext nof hE HE := by rw [hHE]; exact Ext.b1 _
  have C3 : HE[hE.length]? = some (some (ABlk.arr 5 [[ma3, ca3, aa3, .int .i64 (exU.step (exM 1 4 9 0 0)).o.first, .bool (exU.step (exM 1 4 9 0 0)).o.restore]] false)) := by rw [hHE]; exact bx10 _ _
  rw [<- hHE]
  have zE := mE.ge (Nat.le_refl _)
  have mE' := mE.up ZE
  have YE' := YE.tr ZE
  have lE : HE.length = hE.length + 1 := by rw [hHE]; simp
  have xE := XE.1
  clear hHE
  replace dm1 := dm1.up ZE
  replace dc1 := dc1.up ZE
  replace dm2 := dm2.up ZE
  replace dc2 := dc2.up ZE
  replace dm3 := dm3.up ZE
  replace C1E := ZE.get C1E
  replace C2E := ZE.get C2E
  refine wCall_use ⟨u9.1, u9.2 LE HE q exV 100 (exM 3 1 1 1 1) _ mE' exV_fit (by omega) (exM_at _ _ 3 1 1 1 1) (exM_fit (by omega) (by constructor <;> (constructor <;> decide)) (by omega))⟩ ?_
  intro v hF ro
  obtain ⟨LF, ma4, ca4, aa4, rfl, mF, eF, dm4, -, -, ⟨s1, s2, s3⟩, XF⟩ := ro.dat mE'
  change MemAt LF hF q exW at mF
  have mlF := stepLab eF mlE YE'.1
  have YF := stepExt YE' XF mlE
  clear ro
  replace dm1 := dm1.keep XF eF
  replace dc1 := dc1.keep XF eF
  replace dm2 := dm2.keep XF eF
  replace dc2 := dc2.keep XF eF
  replace dm3 := dm3.keep XF eF
  have C1F := (XF.2 hC.length (by omega) (by show ¬ wA (LE hC.length); rw [z1E]; exact wA0)).trans C1E
  have C2F := (XF.2 hD.length (by omega) (by show ¬ wA (LE hD.length); rw [z2E]; exact wA0)).trans C2E
  have C3F := (XF.2 hE.length (by omega) (by show ¬ wA (LE hE.length); rw [zE]; exact wA0)).trans C3
  have z1F := (eF hC.length (by omega)).trans z1E
  have z2F := (eF hD.length (by omega)).trans z2E
  have z3F := (eF hE.length (by omega)).trans zE
  simp only [go_sem, reduceEqDiff, reduceAdd, reduceLeDiff, s1, s2, s3]
  obtain ⟨HF, hHF⟩ : ∃ HF, HF = hF ++ [some (ABlk.arr 5 [[ma4, ca4, aa4, .int .i64 (exV.step (exM 3 1 1 1 1)).o.first, .bool (exV.step (exM 3 1 1 1 1)).o.restore]] false)] := ⟨_, rfl⟩
  have ZF : Ext nof hF HF := by rw [hHF]; exact Ext.b1 _
  have C4 : HF[hF.length]? = some (some (ABlk.arr 5 [[ma4, ca4, aa4, .int .i64 (exV.step (exM 3 1 1 1 1)).o.first, .bool (exV.step (exM 3 1 1 1 1)).o.restore]] false)) := by rw [hHF]; exact bx10 _ _
  rw [<- hHF]
  have zF := mF.ge (Nat.le_refl _)
  have mF' := mF.up ZF
  have YF' := YF.tr ZF
  have lF : HF.length = hF.length + 1 := by rw [hHF]; simp
  have xF := XF.1
  clear hHF
  replace dm1 := dm1.up ZF
  replace dc1 := dc1.up ZF
  replace dm2 := dm2.up ZF
  replace dc2 := dc2.up ZF
  replace dm3 := dm3.up ZF
  replace dm4 := dm4.up ZF
  replace C1F := ZF.get C1F
  replace C2F := ZF.get C2F
  replace C3F := ZF.get C3F
  obtain ⟨w1, w2, w3, w4, w5, w6⟩ := ex_k
  refine wCall_use ⟨u4.1, u4.2 LF HF q exW 100 1 [] .nils mF' exW_fit (by omega) (dat_nils _ _ _) ⟨(by intro e he; cases he), by decide⟩ (by constructor <;> decide)⟩ ?_
  rintro _ hG ⟨w, rfl, ro⟩
  obtain ⟨LG, ma, ca, aa, rfl, mG, eG, -, -, -, ⟨s1, s2, s3⟩, XG⟩ := ro.dat mF'
  rw [w1] at mG
  have mlG := stepLab eG mlF YF'.1
  have YG := stepExt YF' XG mlF
  clear ro
  replace dm1 := dm1.keep XG eG
  replace dc1 := dc1.keep XG eG
  replace dm2 := dm2.keep XG eG
  replace dc2 := dc2.keep XG eG
  replace dm3 := dm3.keep XG eG
  replace dm4 := dm4.keep XG eG
  have C1G := (XG.2 hC.length (by omega) (by show ¬ wA (LF hC.length); rw [z1F]; exact wA0)).trans C1F
  have C2G := (XG.2 hD.length (by omega) (by show ¬ wA (LF hD.length); rw [z2F]; exact wA0)).trans C2F
  have C3G := (XG.2 hE.length (by omega) (by show ¬ wA (LF hE.length); rw [z3F]; exact wA0)).trans C3F
  have C4G := (XG.2 hF.length (by omega) (by show ¬ wA (LF hF.length); rw [zF]; exact wA0)).trans C4
  have z1G := (eG hC.length (by omega)).trans z1F
  have z2G := (eG hD.length (by omega)).trans z2F
  have z3G := (eG hE.length (by omega)).trans z3F
  have z4G := (eG hF.length (by omega)).trans zF
  simp only [go_sem, reduceEqDiff, reduceAdd, reduceLeDiff, s1, s2, s3, w2]
  have ZG := Ext.b1 (h := hG) (some (ABlk.arr 5 [[ma, ca, aa, .int .i64 (exW.propose 1 []).2.1.o.first, .bool (exW.propose 1 []).2.1.o.restore]] false))
  have lG : (hG ++ [some (ABlk.arr 5 [[ma, ca, aa, .int .i64 (exW.propose 1 []).2.1.o.first, .bool (exW.propose 1 []).2.1.o.restore]] false)]).length = hG.length + 1 := by simp
  generalize hG ++ [some (ABlk.arr 5 [[ma, ca, aa, .int .i64 (exW.propose 1 []).2.1.o.first, .bool (exW.propose 1 []).2.1.o.restore]] false)] = HG at ZG lG ⊢
  have mG' := mG.up ZG
  have YG' := YG.tr ZG
  have xG := XG.1
  replace dm1 := dm1.up ZG
  replace dc1 := dc1.up ZG
  replace dm2 := dm2.up ZG
  replace dc2 := dc2.up ZG
  replace dm3 := dm3.up ZG
  replace dm4 := dm4.up ZG
  replace C1G := ZG.get C1G
  replace C2G := ZG.get C2G
  replace C3G := ZG.get C3G
  replace C4G := ZG.get C4G
  refine wCall_use ⟨u5.1, u5.2 LG HG q exW 100 mG' exW_fit (by omega)⟩ ?_
  rintro _ hI ⟨w, rfl, ro⟩
  obtain ⟨LI, mb, cb, ab, rfl, mI, eI, -, -, -, ⟨s1, s2, s3⟩, XI⟩ := ro.dat mG'
  rw [w3] at mI
  have YI := stepExt YG' XI mlG
  clear ro
  replace dm1 := dm1.keep XI eI
  replace dc1 := dc1.keep XI eI
  replace dm2 := dm2.keep XI eI
  replace dc2 := dc2.keep XI eI
  replace dm3 := dm3.keep XI eI
  replace dm4 := dm4.keep XI eI
  have C1I := (XI.2 hC.length (by omega) (by show ¬ wA (LG hC.length); rw [z1G]; exact wA0)).trans C1G
  have C2I := (XI.2 hD.length (by omega) (by show ¬ wA (LG hD.length); rw [z2G]; exact wA0)).trans C2G
  have C3I := (XI.2 hE.length (by omega) (by show ¬ wA (LG hE.length); rw [z3G]; exact wA0)).trans C3G
  have C4I := (XI.2 hF.length (by omega) (by show ¬ wA (LG hF.length); rw [z4G]; exact wA0)).trans C4G
  simp only [go_sem, reduceEqDiff, reduceAdd, reduceLeDiff, s1, s2, s3, w4]
  have ZI := Ext.b1 (h := hI) (some (ABlk.arr 5 [[mb, cb, ab, .int .i64 exW.read.2.1.o.first, .bool exW.read.2.1.o.restore]] false))
  generalize hI ++ [some (ABlk.arr 5 [[mb, cb, ab, .int .i64 exW.read.2.1.o.first, .bool exW.read.2.1.o.restore]] false)] = HI at ZI ⊢
  have mI' := mI.up ZI
  have YI' := YI.tr ZI
  replace dm1 := dm1.up ZI
  replace dc1 := dc1.up ZI
  replace dm2 := dm2.up ZI
  replace dc2 := dc2.up ZI
  replace dm3 := dm3.up ZI
  replace dm4 := dm4.up ZI
  replace C1I := ZI.get C1I
  replace C2I := ZI.get C2I
  replace C3I := ZI.get C3I
  replace C4I := ZI.get C4I
  obtain ⟨g1, g2⟩ := ex_f
  obtain ⟨g3, g4⟩ := ex_g
  have g5 := ex_i
  have g6 := ex_j
  obtain ⟨a1, ha1⟩ : ∃ m, (exS.step (exM 1 1 1 0 0)).o.msgs = [m] := List.length_eq_one_iff.1 (by have := congrArg List.length g1; simpa using this)
  obtain ⟨a2, ha2⟩ : ∃ m, (exT.step (exM 1 3 1 0 0)).o.msgs = [m] := List.length_eq_one_iff.1 (by have := congrArg List.length g3; simpa using this)
  obtain ⟨a4, ha4⟩ : ∃ m, (exV.step (exM 3 1 1 1 1)).o.msgs = [m] := List.length_eq_one_iff.1 (by have := congrArg List.length g6; simpa using this)
  rw [ha1] at g1; rw [ha2] at g3; rw [ha4] at g6
  simp at g1 g3 g6
  obtain ⟨g61, g62, g63⟩ := g6
  obtain ⟨p1, b11, b12, b13, b14, -, -⟩ := headMsg dm1 ha1
  obtain ⟨p2, b21, b22, b23, b24, -, -⟩ := headMsg dm2 ha2
  obtain ⟨p4, b41, b42, b43, b44, b45, b46⟩ := headMsg dm4 ha4
  have c1l := datLen dc1 (n := 2) (by rw [List.length_map]; exact g2)
  have c2l := datLen dc2 (n := 0) (by rw [List.length_map]; exact g4)
  have b31 := datLen dm3 (n := 0) (by rw [List.length_map]; exact g5)
  rw [g1] at b14; rw [g3] at b24; rw [g61] at b45; rw [g62] at b44; rw [g63] at b46
  clear dm1 dc1 dm2 dc2 dm3 dm4
  have e2 : alen ca1 = some (.int .i64 2) := c1l
  have e0 : alen ca2 = some (.int .i64 0) := c2l
  have e3 : alen ma3 = some (.int .i64 0) := b31
  simp only [go_sem, reduceEqDiff, reduceAdd, decide_true, C1I, C2I, C3I, C4I, b11, b12, b13, b14, b21, b22, b23, b24, e3, b41, b42, b43, b44, b45, b46, e2, e0, Bool.not_true]
  refine use1 u10.1 (u10.2 HI q exW mI'.row) ?_
  simp only [go_sem, reduceEqDiff, decide_true, w5]
  refine use1 u11.1 (u11.2 HI q exW mI'.row) ?_
  simp only [go_sem, reduceEqDiff, decide_true, w6]
  refine use1 u12.1 (u12.2 HI) ?_
  simp only [go_sem, reduceEqDiff]
  exact YI'
end Glb
