/-
  A library of its own: its parts, one behind the other.
-/
import Derived.Test.YtdeiamnhnfmilaaGreatGlbLogA
import Derived.Test.YtdeiamnhnfmilaaGreatGlbLibD
import Derived.Test.YtdeiamnhnfmilaaGreatGlbLibB
import Derived.Test.YtdeiamnhnfmilaaGreatGlbQuoA
import Derived.Test.YtdeiamnhnfmilaaGreatGlbKitB
import Derived.Test.YtdeiamnhnfmilaaGreatGlbCvote
import Derived.Test.YtdeiamnhnfmilaaGreatGlbImgK
import Derived.Test.YtdeiamnhnfmilaaGreatGlbImgC
import Derived.Test.YtdeiamnhnfmilaaGreatGlbImgE
import Derived.Test.YtdeiamnhnfmilaaGreatGlbKitA
import Derived.Test.YtdeiamnhnfmilaaGreatGlbFlow
import Derived.Test.YtdeiamnhnfmilaaGreatGlbImgA
import Derived.Test.YtdeiamnhnfmilaaGreatGlbQuoB
import Derived.Test.YtdeiamnhnfmilaaGreatGlbTurA
set_option linter.unusedSimpArgs false
set_option linter.unusedVariables false
namespace Glb
open Go
open Nat (reduceAdd reduceEqDiff reduceLeDiff)
set_option maxRecDepth 10000
set_option maxHeartbeats 8000000
def wait (d : Int) : Int := 10 + d % 10
theorem tmod10 (d : Int) : (0 <= d /\ d.tmod 10 = d % 10) \/ (d < 0 /\ (d.tmod 10 = d % 10 - 10 \/ d.tmod 10 = 0 /\ d % 10 = 0)) := by
 by_cases h : 0 <= d
 ·exact .inl ⟨h, Int.tmod_eq_emod_of_nonneg h⟩
 ·have e : d.tmod 10 = -((-d) % 10) := by
   rw [<- Int.tmod_eq_emod_of_nonneg (show 0 <= -d by omega), Int.neg_tmod]; omega
  refine .inr ⟨by omega, ?_⟩
  rw [e]
  omega
def TimeOk (P : Program) (f : FuncId) : Prop := isFn P f = true /\ ∀ (h : AHeap) (d : Int), ACalls P f [.int .i64 d] h fun r h' => r = .int .i64 (wait d) /\ h' = h
theorem vote_Timeout_ok {P : Program} {f : FuncId} (hf : Is P f c_vote_Timeout) : TimeOk P f := by
 refine ⟨hf.2, fun h d => fun_sound hf.1 (Nat.le_of_ble_eq_true rfl) ?_⟩
 show vc P c_vote_Timeout.code ⟨[(0, .int .i64 d)], [], h⟩ (atEnd c_vote_Timeout.res _)
 have z : ¬ (10 : Int) = 0 := by decide
 simp only [c_vote_Timeout, go_sem, reduceEqDiff, rem64, if_neg z]
 have t := tmod10 d
 by_cases c : d.tmod 10 < 0
 ·have e1 : IntKind.i64.wrap (d.tmod 10 + 10) = d % 10 := by rw [wrap_i64 (by omega)]; omega
  have e2 : IntKind.i64.wrap (10 + d % 10) = wait d := by rw [wrap_i64 (by omega)]; rfl
  simp only [go_sem, reduceEqDiff, decide_eq_true c, e1, e2]
 ·have e1 : d.tmod 10 = d % 10 := by omega
  have e2 : IntKind.i64.wrap (10 + d % 10) = wait d := by rw [wrap_i64 (by omega)]; rfl
  have c' : ¬ d % 10 < 0 := by omega
  simp only [go_sem, reduceEqDiff, decide_eq_false c', e1, e2]
def grants (term voted : Int) (l : Log) (m : Msg) : Bool := decide (m.kind = 1) && (decide (m.term = term) && ((decide (voted = 0) || decide (voted = m.from_)) && l.newer m.index m.prev))
def GrantsOk (P : Program) (f : FuncId) : Prop := isFn P f = true /\ ∀ (F F' : Nat -> Prop) (h : AHeap) (term voted : Int) (l : Log) (m : Msg) (a b : List AV), RdL F h l.c a -> RdL F' h m.c b -> LogOk l ->
 ACalls P f [.int .i64 term, .int .i64 voted, .agg a, .agg b] h fun r h' => r = .bool (grants term voted l m) /\ h' = h
theorem rd_msgL {m : Msg} {F : Nat -> Prop} {h : AHeap} {a : List AV} (hh : RdL F h m.c a) : ∃ e d, a = m.cells e d /\ Rd F h (dEntries m.es) e /\ Rd F h (dBytes m.data) d := by
 simp only [Msg.c, RdL, Rd] at hh
 obtain ⟨_, _, rfl, rfl, _, _, rfl, rfl, _, _, rfl, rfl, _, _, rfl, rfl, _, _, rfl, rfl, _, _, rfl, rfl, _, _, rfl, rfl, _, _, rfl, rfl, _, _, rfl, rfl, _, _, rfl, rfl, _, _, rfl, rfl, _, _, rfl, rfl, _, _, rfl, rfl, _, _, rfl, rfl, _, _, rfl, rfl, e, _, rfl, he, d, _, rfl, hd, rfl⟩ := hh
 exact ⟨e, d, rfl, he, hd⟩
theorem rd_logL {l : Log} {F : Nat -> Prop} {h : AHeap} {a : List AV} (hh : RdL F h l.c a) : ∃ d, a = [.int .i64 l.base, .int .i64 l.bterm, d] /\ Rd F h (dEntries l.es) d := by
 simp only [Log.c, RdL, Rd] at hh
 obtain ⟨_, _, rfl, rfl, _, _, rfl, rfl, d, _, rfl, hd, rfl⟩ := hh
 exact ⟨d, rfl, hd⟩
theorem vote_Grants_ok {P : Program} {f g : FuncId} (hf : Is P f (c_vote_Grants g)) (hg : NewerOk P g) : GrantsOk P f := by
 refine ⟨hf.2, fun F F' h term voted l m a b ha hb ok => obs (upto_bool _ _) (fun_sound hf.1 (Nat.le_of_ble_eq_true rfl) ?_)⟩
 show vc P (c_vote_Grants g).code ⟨[(0, .int .i64 term), (1, .int .i64 voted), (2, .agg a), (3, .agg b)], [], h⟩ (atEnd (c_vote_Grants g).res _)
 have ha0 := ha
 obtain ⟨d, rfl, hd⟩ := rd_logL ha
 obtain ⟨e, s, rfl, he, hs⟩ := rd_msgL hb
 simp only [c_vote_Grants, go_sem, reduceEqDiff, reduceAdd, Msg.cells, hd.scalar, he.scalar, hs.scalar]
 repeat' (first
  | refine wGuardT (fun _ => ?_) (fun _ => ?_)
  | refine wGuardF (fun _ => ?_) (fun _ => ?_)
  | (refine wCall_use ⟨hg.1, hg.2 F _ l _ _ _ (ha0.up ((Ext.b1 _).tr (Ext.b1 _))) ok⟩ ?_; rintro _ _ ⟨rfl, rfl⟩)
  | simp only [go_sem, reduceEqDiff, reduceAdd, reduceLeDiff, *])
 all_goals refine ⟨?_, (Ext.b1 _).tr (Ext.b1 _)⟩
 all_goals simp_all [grants]
end Glb
namespace Glb
open Go
open Nat (reduceAdd reduceEqDiff reduceLeDiff)
set_option maxRecDepth 10000
set_option maxHeartbeats 16000000
def dMsgs (l : List Msg) : D := .sl 17 (l.map Msg.c)
def ask (id group term index last n : Int) : Msg := ⟨1, id, n, group, term, index, last, 0, 0, 0, 0, 0, 0, 0, false, [], []⟩
def asks (id group term : Int) (l : Log) (c : Conf) : List Msg := (c.voters.filter fun n => decide (n ≠ id)).map (ask id group term l.last l.lastTerm)
def mrow (m : Msg) : List AV := m.cells .nils .nils
theorem asks_no {id group term : Int} {l : Log} {c : Conf} : ∀ m ∈ asks id group term l c, m.es = [] /\ m.data = [] := by
 intro m hm
 simp only [asks, List.mem_map] at hm
 obtain ⟨n, -, rfl⟩ := hm
 exact ⟨rfl, rfl⟩
theorem asks_len (id group term : Int) (l : Log) (c : Conf) : (asks id group term l c).length <= c.voters.length := by
 simp only [asks, List.length_map]; exact List.length_filter_le _ _
def AsksOk (P : Program) (f : FuncId) : Prop := isFn P f = true /\ ∀ (F F' : Nat -> Prop) (h : AHeap) (id group term : Int) (l : Log) (c : Conf) (a b : List AV), RdL F h l.c a -> RdL F' h c.c b -> LogOk l -> c.few (2^30) ->
 ACalls P f [.int .i64 id, .int .i64 group, .int .i64 term, .agg a, .agg b] h fun r h' => OwnO h.length h' 17 r ((asks id group term l c).map mrow) /\ Ext nof h h'
theorem vote_Asks_ok {P : Program} {f g v : FuncId} (hf : Is P f (c_vote_Asks g v)) (hg : LastOk P g) (hv : ListOk P v Conf.voters) : AsksOk P f := by
 refine ⟨hf.2, fun F F' h id group term l c a b ha hb ok few => fun_sound hf.1 (Nat.le_of_ble_eq_true rfl) ?_⟩
 show vc P (c_vote_Asks g v).code ⟨[(0, .int .i64 id), (1, .int .i64 group), (2, .int .i64 term), (3, .agg a), (4, .agg b)], [], h⟩ (atEnd (c_vote_Asks g v).res _)
 have ha0 := ha
 have hb0 := hb
 obtain ⟨d, rfl, hd⟩ := rd_logL ha
 obtain ⟨o, n, e, rfl, ho, hn, he⟩ := rd_conf hb
 simp only [c_vote_Asks, go_sem, reduceEqDiff, reduceAdd, reduceLeDiff, hd.scalar, ho.scalar, hn.scalar, he.scalar]
 have X0 := Ext.b2 (h := h) (some (.arr 3 [[.int .i64 l.base, .int .i64 l.bterm, d]] false)) (some (.arr 3 [[o, n, e]] false))
 have B1 := bx21 h (some (.arr 3 [[.int .i64 l.base, .int .i64 l.bterm, d]] false)) (some (.arr 3 [[o, n, e]] false))
 refine use1 hg.1 (hg.2 F _ l _ (ha0.up X0) ok) ?_
 simp only [go_sem, reduceEqDiff, reduceAdd, reduceLeDiff]
 have hb1 := hb0.up X0
 have lH : (h ++ [some (ABlk.arr 3 [[.int .i64 l.base, .int .i64 l.bterm, d]] false)] ++ [some (ABlk.arr 3 [[o, n, e]] false)]).length = h.length + 2 := by simp
 generalize h ++ [some (ABlk.arr 3 [[.int .i64 l.base, .int .i64 l.bterm, d]] false)] ++ [some (ABlk.arr 3 [[o, n, e]] false)] = H at *
 refine wCall_use ⟨hv.1, hv.2 F' H c _ hb1 ⟨by have := few.1; omega, by have := few.2.1; omega, by have := few.2.2; omega⟩⟩ ?_
 rintro w h1 ⟨ow, x1⟩
 have ow := Own.lt _ _ ow
 have vl : c.voters.length <= 2^31 := by have u := uni_length (c.old ++ c.new); simp only [List.length_append] at u; have := few.1; have := few.2.1; simp only [Conf.voters]; omega
 have lw : alen w = some (.int .i64 c.voters.length) := (Own.rd _ (F' := fun _ => True) (fun _ _ => trivial) _ ow).ints_len
 have l1 := x1.1
 have X1 := X0.trans x1 (F'' := nof) (fun _ _ x => x) (fun _ _ x => x)
 simp only [go_sem, reduceEqDiff, lw]
 obtain ⟨R, hR⟩ : ∃ R : Int -> List AV, R = fun n => mrow (ask id group term l.last l.lastTerm n) := ⟨_, rfl⟩
 obtain ⟨Q, hQ⟩ : ∃ Q : Int -> Bool, Q = fun n => decide (n ≠ id) := ⟨_, rfl⟩
 have eA : (asks id group term l c).map mrow = (c.voters.filter Q).map R := by rw [hR, hQ]; simp [asks]
 rw [eA]
 generalize c.voters = vs at *
 obtain ⟨I, hI⟩ : ∃ I : Nat -> Env -> AHeap -> Prop, ∀ m L h', I m L h' ↔ ∃ (i : Nat) (o : AV), lk 0 L = .int .i64 id /\ lk 1 L = .int .i64 group /\ lk 2 L = .int .i64 term /\ lk 11 L = .int .i64 l.last /\ lk 12 L = .int .i64 l.lastTerm /\ lk 13 L = o /\ lk 22 L = w /\ lk 23 L = .int .i64 vs.length /\ lk 24 L = .int .i64 i /\
   OwnO h1.length h' 17 o (((vs.take i).filter Q).map R) /\ Ext nof h1 h' /\ i <= vs.length /\ m = vs.length - i := ⟨_, fun _ _ _ => Iff.rfl⟩
 refine vc_loop I vs.length ((hI _ _ _).2 ⟨0, .nils, by simp [lk_ins, lk_cons], by simp [lk_ins, lk_cons], by simp [lk_ins, lk_cons], by simp [lk_ins], by simp [lk_ins], by simp [lk_ins], by simp [lk_ins], by simp [lk_ins], by simp [lk_ins], .inl ⟨rfl, by simp⟩, Ext.refl _ _, by omega, by omega⟩) ?_
 intro m L h2 hh
 obtain ⟨i, o, k0, k1, k2, k11, k12, k13, k22, k23, k24, oo, X2, hi, rfl⟩ := (hI _ _ _).1 hh
 simp only [c_vote_Asks_l0, go_sem, k23, k24]
 refine wCond_split (fun ci => ?_) (fun ci => ?_)
 ·simp at ci
  obtain ⟨p, hp, hv'⟩ := (Own.rd _ (F' := fun _ => True) (fun _ _ => trivial) _ (Own.mono _ (fun _ x => x) (fun m hm y hy => by rw [X2.2 m hm.2 (by simp [nof])]; exact hy) _ ow)).int_at (i := i) ci
  have ew : IntKind.i64.wrap (↑i + 1) = (i : Int) + 1 := wrap_i64 (by omega)
  have tk : vs.take (i + 1) = vs.take i ++ [vs[i]] := List.take_succ_eq_append_getElem ci
  simp only [go_sem, reduceEqDiff, k0, k22, k24, hp, hv']
  by_cases c0 : vs[i] = id
  ·have q : Q vs[i] = false := by rw [hQ]; simp [c0]
   simp only [go_sem, reduceEqDiff, decide_eq_true c0, ew, k24]
   exact ⟨_, by omega, (hI _ _ _).2 ⟨i + 1, o, by simp [lk_ins, k0], by simp [lk_ins, k1], by simp [lk_ins, k2], by simp [lk_ins, k11], by simp [lk_ins, k12], by simp [lk_ins, k13], by simp [lk_ins, k22], by simp [lk_ins, k23], by simp [lk_ins], by rw [tk, List.filter_append]; simpa [q] using oo, X2, ci, rfl⟩⟩
  ·have q : Q vs[i] = true := by rw [hQ]; simp [c0]
   have ll := List.length_filter_le Q (vs.take i)
   have lt := List.length_take_le i vs
   obtain ⟨o2, h3, s1, s2, s3⟩ := acc_app (bytes := 168) (h := h2 ++ [some (.arr 17 [R vs[i]] false)]) (ys := [R vs[i]]) oo (Ext.b1 _) X2.1 (by simp; omega)
   rw [<- aappend_of (aelems_new h2 17 [R vs[i]] false (some 1) (len := 1) rfl)] at s1
   have eR : R vs[i] = [.int .i64 1, .int .i64 id, .int .i64 vs[i], .int .i64 group, .int .i64 term, .int .i64 l.last, .int .i64 l.lastTerm, .int .i64 0, .int .i64 0, .int .i64 0, .int .i64 0, .int .i64 0, .int .i64 0, .int .i64 0, .bool false, .nils, .nils] := by rw [hR]; rfl
   rw [eR] at s1
   simp only [go_sem, reduceEqDiff, reduceAdd, reduceLeDiff, decide_eq_false c0, k0, k1, k2, k11, k12, k13, k24, s1, ew]
   exact ⟨_, by omega, (hI _ _ _).2 ⟨i + 1, o2, by simp [lk_ins, k0], by simp [lk_ins, k1], by simp [lk_ins, k2], by simp [lk_ins, k11], by simp [lk_ins, k12], by simp [lk_ins], by simp [lk_ins, k22], by simp [lk_ins, k23], by simp [lk_ins], by rw [tk, List.filter_append, List.map_append]; simpa [q] using s2, (X2.tr (Ext.b1 _)).then s3 (fun m hm hm' => by omega), ci, rfl⟩⟩
 ·simp at ci
  obtain rfl : i = vs.length := by omega
  rw [List.take_length] at oo
  simp only [go_sem, reduceEqDiff, k13]
  exact ⟨OwnO.lo oo (by omega), X1.tr X2⟩
end Glb
