/-
  A library of its own: its parts, one behind the other.
-/
import Derived.Test.YtdeiamnhnfmilaaGreatGlbRafE
import Derived.Test.YtdeiamnhnfmilaaGreatGlbCglebelaw17
set_option linter.unusedSimpArgs false
set_option linter.unusedVariables false
namespace Glb
open Go
open Nat (reduceAdd reduceEqDiff reduceLeDiff)
set_option maxRecDepth 10000
set_option maxHeartbeats 8000000
def aloneH : Hard := ⟨1, 0, 0, ⟨0, 0, []⟩, ⟨[1], [], []⟩, []⟩
def knR : Nat -> Raft
 | 0 => Raft.new 1 aloneH 0
 | i + 1 => ((knR i).tick 0).r
theorem knR_fit0 : (Raft.new 1 aloneH 0).fit 1 := by
 refine ⟨by decide, by decide, by decide, (by intro e he; cases he), by decide, ⟨(by intro e he; cases he), by decide⟩, by decide, ⟨⟨by decide, by decide⟩, ⟨by decide, by decide⟩, ⟨by decide, by decide⟩⟩, by decide, by decide, by decide, by decide, by decide, ⟨by decide, (by intro e he; cases he)⟩, by decide⟩
theorem knR_fit : ∀ i, i <= 20 -> (knR i).fit (1 + 2 * i)
 | 0, _ => knR_fit0
 | i + 1, h => Raft.tick_fit (knR_fit i (by omega)) (by omega) 0
theorem knR_still : ∀ i, i < 9 -> ((knR i).tick 0).o.changes.length = 0 /\ ((knR i).tick 0).r.role = 0 := by decide +kernel
theorem knR_leads : ((knR 9).tick 0).o.changes.length = 2 /\ ((knR 9).tick 0).o.first = 1 /\ ((knR 9).tick 0).o.apply.length = 1 /\ ((knR 9).tick 0).r.role = 2 := by decide +kernel
theorem knR_proposed : ((knR 10).propose 1 [7]).1 = 2 /\ ((knR 10).propose 1 [7]).2.2 = 0 /\ ((knR 10).propose 1 [7]).2.1.o.first = 2 /\ ((knR 10).propose 1 [7]).2.1.o.apply.length = 1 /\ ((knR 10).propose 1 [7]).2.1.r.commit = 2 /\ ((knR 10).propose 1 [7]).2.1.r.role = 2 := by decide +kernel
def RAloneOk (P : Program) (f : FuncId) : Prop := isFn P f = true /\ ∀ h : AHeap, ACalls P f [] h fun v h' => v = .agg aloneH.v /\ h' = h
theorem ralone_ok {P : Program} {f : FuncId} (hf : Is P f c_glebelaw17_alone) : RAloneOk P f := by
 refine ⟨hf.2, fun h => ACalls.freeze (K := fun v h' => (∃ b, v = .agg b /\ OwnL aloneH.c (fun m => h.length <= m) h' b) /\ Ext nof h h') (fun_sound hf.1 (Nat.le_of_ble_eq_true rfl) ?_) (fun r _ ⟨⟨b, e, o⟩, hx⟩ => ⟨hx, _, e ▸ Frz.aggD (ds := aloneH.c) (OwnL.fz _ (fun _ x => x) _ o), rfl⟩)⟩
 show vc P c_glebelaw17_alone.code ⟨[], [], h⟩ (atEnd c_glebelaw17_alone.res _)
 simp only [c_glebelaw17_alone, go_sem, reduceEqDiff, reduceAdd, reduceLeDiff]
 refine ⟨⟨_, rfl, ?_⟩, Ext.b2 _ _⟩
 have o1 : Own (dInts [1]) (fun m => h.length <= m) (h ++ [some (ABlk.arr 10 [[.int .i64 1, .int .i64 0, .int .i64 0, .int .i64 0, .int .i64 0, .nils, .ref (h.length + 1) 1 0 1 (some 1), .nils, .nils, .nils]] false)] ++ [some (ABlk.arr 1 [[.int .i64 1]] false)]) (.ref (h.length + 1) 1 0 1 (some 1)) :=
  .inr (.inr ⟨_, 0, some 1, _, _, rfl, by omega, bx21 _ _ _, by simp, (fun c hc => by cases hc; simp), by simp [OwnLL, OwnL, Own]⟩)
 have z : ∀ {F h} (sz : Nat), Own (.sl sz []) F h .nils := fun sz => Own.nils sz
 show OwnL [.int .i64 1, .int .i64 0, .int .i64 0, .int .i64 0, .int .i64 0, dEntries [], dInts [1], dInts [], dInts [], dBytes []] _ _ _
 simp only [OwnL]
 exact ⟨_, _, rfl, rfl, _, _, rfl, rfl, _, _, rfl, rfl, _, _, rfl, rfl, _, _, rfl, rfl, _, _, rfl, Own.nils 3, _, _, rfl, o1, _, _, rfl, Own.nils 1, _, _, rfl, Own.nils 1, _, _, rfl, Own.nils 1, rfl⟩
def Mine (lo : Nat) (h : AHeap) (r : Nat) (x : Raft) : Prop := ∃ L, MemAt L h r x /\ ∀ m, L m ≠ 0 -> lo <= m
theorem Mine.out {L : Nat -> Nat} {lo : Nat} {h : AHeap} {r : Nat} {x0 : Raft} {x : RX} {v : AV} {h' : AHeap} (a : MemAt L h r x0) (hlo : ∀ m, L m ≠ 0 -> lo <= m) (hl : lo <= h.length) (b : ROut L h r x v h') : Mine lo h' r x.r /\ (∃ A B C, RdyAt A B C h' x.o v) /\ Ext (fun m => lo <= m) h h' := by
 obtain ⟨L', m1, e, ra, hx⟩ := b.split a
 refine ⟨⟨_, m1, fun m hm => ?_⟩, ⟨_, _, _, ra⟩, ⟨hx.1, fun m hm hn => hx.2 m hm (fun z => hn (hlo m z))⟩⟩
 by_cases c : m < h.length
 ·rw [e m c] at hm; exact hlo m hm
 ·omega
theorem Mine.up {lo h h' r x} (a : Mine lo h r x) (hx : Ext nof h h') : Mine lo h' r x := let ⟨L, m, e⟩ := a; ⟨L, m.up hx, e⟩
theorem rev_peqR (g : Opd -> AV) (h : AHeap) (neg : Bool) (x : Opd) : rev g h (.x (.peq neg x)) = (pnil (g x)).map fun b => .bool (b != neg) := Eq.trans rfl rfl
theorem pnil_ptrR (n sz i o : Nat) : pnil (.ptr n sz i o) = some false := Eq.trans rfl rfl
def RKnownOk (P : Program) (f : FuncId) : Prop := isFn P f = true /\ ∀ h : AHeap, ACalls P f [] h fun v h' => v = .bool true /\ h' = h
theorem rknown_ok {P : Program} {f f1 f2 f3 f4 f5 f6 : FuncId} (hf : Is P f (c_glebelaw17_known f1 f2 f3 f4 f5 f6)) (u1 : RAloneOk P f1) (u2 : RNewOk P f2) (u3 : RTickOk P f3) (u4 : NumOk P f4 Raft.role) (u5 : RProposeOk P f5) (u6 : NumOk P f6 Raft.commit) : RKnownOk P f := by
 refine ⟨hf.2, fun h => ACalls.freeze (K := fun v h' => v = .bool true /\ Ext nof h h') (fun_sound hf.1 (Nat.le_of_ble_eq_true rfl) ?_) (fun r _ ⟨e, hx⟩ => ⟨hx, r, by rw [e]; exact Frz.bool _, e⟩)⟩
 show vc P (c_glebelaw17_known f1 f2 f3 f4 f5 f6).code ⟨[], [], h⟩ (atEnd (c_glebelaw17_known f1 f2 f3 f4 f5 f6).res _)
 simp only [c_glebelaw17_known, go_sem]
 refine use1 u1.1 (u1.2 h) ?_
 simp only [go_sem]
 refine wCall_use ⟨u2.1, u2.2 nof h 1 aloneH _ 0 (rd_hardv nof h aloneH) (knR_fit0.logOk (by decide)) ((right_few (by decide : aloneH.conf.right = true)).le (by decide)) (by decide) (by decide)⟩ ?_
 rintro _ h1 ⟨r, rfl, hr, row, X1⟩
 have m1 : Mine h.length h1 r (knR 0) := by
  refine ⟨_, new_mem row, fun m hm => ?_⟩
  by_cases c : m = r
  ·omega
  ·exact absurd (if_neg c) hm
 simp only [go_sem, reduceEqDiff, rev_peqR, pnil_ptrR, show (false != false) = false from rfl]
 obtain ⟨I, hI⟩ : ∃ I : Nat -> Env -> AHeap -> Prop, ∀ m L h', I m L h' ↔ ∃ i : Nat, lk 1 L = .ptr r 21 0 0 /\ lk 2 L = .int .i64 i /\ Mine h.length h' r (knR i) /\ Ext nof h h' /\ i <= 9 /\ m = 9 - i := ⟨_, fun _ _ _ => Iff.rfl⟩
 refine vc_loop I 9 ((hI _ _ _).2 ⟨0, by simp [lk_ins], by simp [lk_ins], m1, X1, by omega, by omega⟩) ?_
 intro m L h2 hh
 obtain ⟨i, k1, k2, ⟨L2, mm, ml⟩, X2, hi, rfl⟩ := (hI _ _ _).1 hh
 have x2 := X2.1
 simp only [c_glebelaw17_known_l0, go_sem, k2]
 refine wCond_split (fun ci => ?_) (fun ci => ?_)
 ·simp at ci
  have ci : i < 9 := by omega
  have ew : IntKind.i64.wrap ((i : Int) + 1) = ((i + 1 : Nat) : Int) := by rw [wrap_i64 (by omega)]; omega
  have ft := knR_fit i (by omega)
  simp only [go_sem, reduceEqDiff, k1]
  refine wCall_use ⟨u3.1, u3.2 L2 h2 r (knR i) _ 0 mm ft (by omega)⟩ ?_
  intro v h3 ro
  obtain ⟨m3, ⟨A, B, C, ⟨ma, ca, aa, rfl, oa, ob, oc, -, -⟩⟩, X3⟩ := Mine.out mm ml (by omega) ro
  have X23 : Ext nof h h3 := ⟨by have := X3.1; omega, fun m hm _ => (X3.2 m (by omega) (by omega)).trans (X2.2 m hm (fun z => z))⟩
  obtain ⟨s1, s2⟩ := knR_still i ci
  have lc : alen ca = some (.int .i64 0) := by have := (Own.rd _ (F' := B) (fun _ y => y) _ ob).len; simpa [dChanges, s1] using this
  simp only [go_sem, reduceEqDiff, reduceAdd, reduceLeDiff, k1, oa.scalar, ob.scalar, oc.scalar, lc, show decide ((0 : Int) < 0) = false from rfl]
  have m4 := m3.up (Ext.b1 (some (ABlk.arr 5 [[ma, ca, aa, .int .i64 ((knR i).tick 0).o.first, .bool ((knR i).tick 0).o.restore]] false)))
  obtain ⟨L4, q4, r4⟩ := id m4
  refine use1 u4.1 (u4.2 _ r _ q4.row) ?_
  simp only [go_sem, reduceEqDiff, decide_true, k2, s2, ew]
  exact ⟨_, by omega, (hI _ _ _).2 ⟨i + 1, by simp [lk_ins, k1], by simp [lk_ins], m4, X23.tr (Ext.b1 _), by omega, rfl⟩⟩
 ·simp at ci
  have : i = 9 := by omega
  subst this
  have ft := knR_fit 9 (by omega)
  simp only [go_sem, reduceEqDiff, k1]
  refine wCall_use ⟨u3.1, u3.2 L2 h2 r (knR 9) _ 0 mm ft (by omega)⟩ ?_
  intro v h3 ro
  obtain ⟨m3, ⟨A, B, C, ⟨ma, ca, aa, rfl, oa, ob, oc, -, -⟩⟩, X3⟩ := Mine.out mm ml (by omega) ro
  have X23 : Ext nof h h3 := ⟨by have := X3.1; omega, fun m hm _ => (X3.2 m (by omega) (by omega)).trans (X2.2 m hm (fun z => z))⟩
  have x23 := X23.1
  obtain ⟨t1, t2, t3, t4⟩ := knR_leads
  obtain ⟨p1, p2, p3, p4, p5, p6⟩ := knR_proposed
  have lc : alen ca = some (.int .i64 2) := by have := (Own.rd _ (F' := B) (fun _ y => y) _ ob).len; simpa [dChanges, t1] using this
  have la : alen aa = some (.int .i64 1) := by have := (Own.rd _ (F' := C) (fun _ y => y) _ oc).len; simpa [dEntries, t3] using this
  obtain ⟨H4, hH4⟩ : ∃ H4, H4 = h3 ++ [some (ABlk.arr 5 [[ma, ca, aa, .int .i64 ((knR 9).tick 0).o.first, .bool ((knR 9).tick 0).o.restore]] false)] ++ [some (ABlk.arr 1 [[.int .u8 7]] false)] := ⟨_, rfl⟩
  have X4 : Ext nof h3 H4 := by rw [hH4]; exact Ext.b2 _ _
  have l4 : H4.length = h3.length + 2 := by rw [hH4]; simp
  have C0 : H4[h3.length]? = some (some (ABlk.arr 5 [[ma, ca, aa, .int .i64 ((knR 9).tick 0).o.first, .bool ((knR 9).tick 0).o.restore]] false)) := by rw [hH4]; exact bx20 _ _ _
  have C1 : H4[h3.length + 1]? = some (some (ABlk.arr 1 [[.int .u8 7]] false)) := by rw [hH4]; exact bx21 _ _ _
  simp only [go_sem, reduceEqDiff, reduceAdd, reduceLeDiff, k1, oa.scalar, ob.scalar, oc.scalar]
  rw [<- hH4]
  clear hH4
  obtain ⟨L4, q3, r4⟩ := m3
  have q4 := q3.up X4
  have f10 : (knR 10).fit 21 := knR_fit 10 (by omega)
  have dt : DatAt L4 H4 (dBytes [7]) (.ref (h3.length + 1) 1 0 1 (some 1)) := by
   refine ⟨fun m => m = h3.length + 1, ?_, fun m hm => ⟨by rw [hm]; exact q3.ge (by omega), by omega⟩⟩
   exact ⟨_, .inr (.inr ⟨_, _, _, _, _, _, rfl, rfl, C1, by simp, (fun c hc => by cases hc; simp), rfl⟩), by simp [RdLL, RdL, Rd]⟩
  refine wCall_use ⟨u5.1, u5.2 L4 H4 r (knR 10) 21 1 [7] _ q4 f10 (by omega) dt ⟨by intro e he; simp at he; subst he; decide, by decide⟩ (by constructor <;> decide)⟩ ?_
  rintro _ h5 ⟨w, rfl, ro5⟩
  obtain ⟨L5, m5, e5, ⟨mb, cb, ab, rfl, oa5, ob5, oc5, -, -⟩, X5⟩ := ro5.split q4
  have D0 := (X5.2 h3.length (by omega) (by show ¬ wA (L4 h3.length); rw [q3.ge (Nat.le_refl _)]; exact wA0)).trans C0
  have x5 := X5.1
  have lb : alen ab = some (.int .i64 1) := by have := (Own.rd _ (F' := fun m => (H4.length <= m /\ m < h5.length) /\ L5 m = 5) (fun _ y => y) _ oc5).len; simpa [dEntries, p4] using this
  rw [p1, p2, p3] at *
  simp only [go_sem, reduceEqDiff, reduceAdd, reduceLeDiff, k1, oa5.scalar, ob5.scalar, oc5.scalar]
  have C6 := fun a => (Ext.b1 a).get D0
  have m6 := m5.up (Ext.b1 (some (ABlk.arr 5 [[mb, cb, ab, .int .i64 2, .bool ((knR 10).propose 1 [7]).2.1.o.restore]] false)))
  refine use1 u4.1 (u4.2 _ r _ m6.row) ?_
  simp only [go_sem, reduceEqDiff, reduceAdd, decide_true, k1, C6, p6, t2, lc, la, lb]
  refine use1 u6.1 (u6.2 _ r _ m6.row) ?_
  simp only [go_sem, reduceEqDiff, decide_true, p5]
  have X45 : Ext nof h h5 := by
   refine ⟨by omega, fun m hm _ => (X5.2 m (by omega) (fun z => ?_)).trans ((X4.2 m (by omega) (fun y => y)).trans (X23.2 m hm (fun y => y)))⟩
   have := r4 m z; omega
  exact X45.tr (Ext.b1 _)
end Glb
namespace Glb
open Go
open Nat (reduceAdd reduceEqDiff reduceLeDiff)
set_option maxRecDepth 10000
set_option maxHeartbeats 8000000
instance (l : List Int) : Decidable (bytesOk l) := by unfold bytesOk; infer_instance
instance (n : Int) : Decidable (i64ok n) := by unfold i64ok; infer_instance
instance (e : Entry) : Decidable e.fit := by unfold Entry.fit; infer_instance
instance (w : Flow) : Decidable w.well := by unfold Flow.well; infer_instance
def Raft.fitB (k : Nat) (x : Raft) : Bool :=
 decide (0 <= x.hard.log.base /\ x.hard.log.base <= 2^40 + k) && decide (x.hard.log.es.length <= k) && decide (x.hard.log.last <= 2^40 + k) && decide (∀ e ∈ x.hard.log.es, e.fit) && x.hard.conf.right && decide (bytesOk x.hard.snap /\ x.hard.snap.length <= 2^16) &&
 decide (0 <= x.hard.term /\ x.hard.term <= 2^40) && decide (i64ok x.hard.group /\ i64ok x.hard.vote /\ i64ok x.hard.log.bterm) && decide (x.hard.log.base <= x.applied /\ x.applied <= x.commit /\ x.commit <= x.hard.log.last) && decide (0 <= x.elapsed /\ x.elapsed <= k) &&
 decide (0 <= x.beat /\ x.beat <= 1) && decide (0 <= x.round /\ x.round <= k) && decide (x.granted.length <= k + 1) && decide (x.flows.length <= 21 /\ ∀ w ∈ x.flows, w.well) && decide (1 <= x.id /\ x.id <= 7)
theorem Raft.fit_of {k : Nat} {x : Raft} (h : x.fitB k = true) : x.fit k := by
 unfold Raft.fitB at h
 simp only [Bool.and_eq_true, decide_eq_true_eq] at h
 obtain ⟨⟨⟨⟨⟨⟨⟨⟨⟨⟨⟨⟨⟨⟨h1, h2⟩, h3⟩, h4⟩, h5⟩, h6⟩, h7⟩, h8⟩, h9⟩, h10⟩, h11⟩, h12⟩, h13⟩, h14⟩, h15⟩ := h
 exact ⟨h1, h2, h3, h4, h5, h6, h7, h8, h9, h10, h11, h12, h13, h14, h15⟩
def exA : Raft := ((knR 10).propose 1 [7]).2.1.r
def exB : Raft := (exA.read).2.1.r
def exC : Raft := (exB.compact 2 [9]).1.r
theorem exA_fit : exA.fit 100 := Raft.fit_of (by decide +kernel)
theorem exB_fit : exB.fit 100 := Raft.fit_of (by decide +kernel)
theorem exC_fit : exC.fit 100 := Raft.fit_of (by decide +kernel)
theorem ex_kinds : (exA.propose 3 []).2.1.r = exA /\ (exA.propose 3 []).2.2 = 13 /\ (exA.propose 2 []).2.1.r = exA /\ (exA.propose 2 []).2.2 = 4 := by decide +kernel
theorem ex_read : (exA.read).1 = 1 /\ (exA.read).2.2 = 0 := by decide +kernel
theorem ex_compact : (exB.compact 3 []).1.r = exB /\ (exB.compact 3 []).2 = 3 /\ (exB.compact 2 [9]).2 = 0 /\ (exB.compact 2 [9]).1.o.changes.map Change.kind = [3] := by decide +kernel
theorem ex_hard : exC.hard.log.base = 2 /\ exC.hard.log.bterm = 1 /\ exC.hard.log.es = [] /\ exC.hard.snap.length = 1 /\ exC.hard.conf.old.length = 1 := by decide +kernel
theorem ex_safe : exC.safe 1 = true /\ exC.safe 2 = false /\ exC.safe 0 = false := by decide +kernel
def exM (kind from_ term index prev : Int) : Msg := { Msg.zero with kind := kind, from_ := from_, to := 2, group := 1, term := term, index := index, prev := prev }
def exH : Hard := ⟨1, 0, 0, ⟨0, 0, []⟩, ⟨[1, 2, 3], [], []⟩, []⟩
def exS : Raft := Raft.new 2 exH 0
def exT : Raft := (exS.step (exM 1 1 1 0 0)).r
def exU : Raft := (exT.step (exM 1 3 1 0 0)).r
def exV : Raft := (exU.step (exM 1 4 9 0 0)).r
def exW : Raft := (exV.step (exM 3 1 1 1 1)).r
theorem exS_fit : exS.fit 100 := Raft.fit_of (by decide +kernel)
theorem exT_fit : exT.fit 100 := Raft.fit_of (by decide +kernel)
theorem exU_fit : exU.fit 100 := Raft.fit_of (by decide +kernel)
theorem exV_fit : exV.fit 100 := Raft.fit_of (by decide +kernel)
theorem exW_fit : exW.fit 100 := Raft.fit_of (by decide +kernel)
theorem ex_f : (exS.step (exM 1 1 1 0 0)).o.msgs.map Msg.ok = [true] /\ (exS.step (exM 1 1 1 0 0)).o.changes.length = 2 := by decide +kernel
theorem ex_g : (exT.step (exM 1 3 1 0 0)).o.msgs.map Msg.ok = [false] /\ (exT.step (exM 1 3 1 0 0)).o.changes.length = 0 := by decide +kernel
theorem ex_i : (exU.step (exM 1 4 9 0 0)).o.msgs.length = 0 := by decide +kernel
theorem ex_j : (exV.step (exM 3 1 1 1 1)).o.msgs.map (fun m => (m.kind, m.ok, m.index)) = [(4, false, 0)] := by decide +kernel
theorem ex_k : (exW.propose 1 []).2.1.r = exW /\ (exW.propose 1 []).2.2 = 30 /\ (exW.read).2.1.r = exW /\ (exW.read).2.2 = 30 /\ exW.leader = 1 /\ exW.role = 0 := by decide +kernel
end Glb
