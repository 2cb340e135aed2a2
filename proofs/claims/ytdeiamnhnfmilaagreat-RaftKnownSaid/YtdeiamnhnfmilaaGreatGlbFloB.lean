/-
  A library of its own: its parts, one behind the other.
-/
import Derived.Test.YtdeiamnhnfmilaaGreatGlbFlow
import Derived.Test.YtdeiamnhnfmilaaGreatGlbLibD
import Derived.Test.YtdeiamnhnfmilaaGreatGlbKitB
import Derived.Test.YtdeiamnhnfmilaaGreatGlbLogA
import Derived.Test.YtdeiamnhnfmilaaGreatGlbLibE
set_option linter.unusedSimpArgs false
set_option linter.unusedVariables false
namespace Glb
open Go
open Nat (reduceAdd reduceDiv reduceEqDiff reduceLeDiff reduceMod reducePow)
set_option maxRecDepth 10000
set_option maxHeartbeats 4000000
end Glb
namespace Glb
open Go
open Nat (reduceAdd reduceDiv reduceEqDiff reduceLeDiff reduceMod reducePow)
set_option maxRecDepth 10000
set_option maxHeartbeats 4000000
def Reads (d : D) (a : AV) : Prop := ∀ (F : Nat -> Prop) (h : AHeap), Rd F h d a
theorem reads_nils (sz : Nat) : Reads (.sl sz []) .nils := fun _ _ => Rd.nils sz
theorem reads_abytes (l : List Int) : Reads (dBytes l) (abytes l) := fun _ _ => rd_abytes _ _ l
def FBlobP (P : Program) (f : FuncId) : Prop := isFn P f = true /\ ∀ (l p : List Int) (a b : AV), Reads (dBytes l) a -> Reads (dBytes p) b -> l.length <= 2^41 -> p.length <= 2^41 -> Pure P f [a, b] (abytes (l ++ num p.length ++ p))
theorem BlobOk.fp {P : Program} {f : FuncId} (hc : BlobOk P f) : FBlobP P f := ⟨hc.1, fun l p a b ha hb h1 h2 => pure_d (d := dBytes _) fun h => (hc.2 nof h l p _ _ (ha _ _) (hb _ _) h1 h2).mono fun _ _ hk => ⟨hk.1, hk.2.2⟩⟩
def ConfBytesP (P : Program) (f : FuncId) : Prop := isFn P f = true /\ ∀ x : Conf, x.few (2^33) -> Pure P f [.agg x.v] (abytes x.bytes)
theorem ConfBytesOk.fp {P : Program} {f : FuncId} (hc : ConfBytesOk P f) : ConfBytesP P f := ⟨hc.1, fun x hx => pure_d (d := dBytes _) fun h => (hc.2 nof h x _ (rd_confv _ _ x) hx.1 hx.2.1 hx.2.2).mono fun _ _ hk => ⟨hk.1, hk.2.2⟩⟩
def TermP (P : Program) (f : FuncId) : Prop := isFn P f = true /\ ∀ (l : Log) (i : Int), LogOk l -> Pure P f [.agg l.v, .int .i64 i] (.tup [.int .i64 (l.term i), .bool (l.has i)])
theorem TermOk.p {P : Program} {f : FuncId} (hc : TermOk P f) : TermP P f := ⟨hc.1, fun l i hl h => hc.2 nof h l _ i (rd_logv _ _ l) hl⟩
def Flow.send (w : Flow) (id : Int) (x : Hard) (commit round : Int) : Msg :=
 if w.next <= x.log.base then ⟨5, id, w.node, x.group, x.term, x.log.base, x.log.bterm, 0, round, 0, 0, 0, 0, 0, false, [], num x.conf.bytes.length ++ x.conf.bytes ++ num x.snap.length ++ x.snap⟩
 else ⟨3, id, w.node, x.group, x.term, w.next - 1, x.log.term (w.next - 1), commit, round, 0, 0, 0, 0, 0, false, x.log.slice w.next 8, []⟩
def Hard.fit (x : Hard) : Prop := LogOk x.log /\ x.conf.few (2^33) /\ x.snap.length <= 2^33
def FNextOk (P : Program) (f : FuncId) : Prop :=
 isFn P f = true /\ ∀ (h : AHeap) (w : Flow) (id : Int) (x : Hard) (commit round : Int), w.placed -> x.fit ->
  ACalls P f [.agg w.cells, .int .i64 id, .agg x.v, .int .i64 commit, .int .i64 round] h fun r h' => ∃ e d, r = .agg ((w.send id x commit round).cells e d) /\
   Own (dEntries (w.send id x commit round).es) (fun k => h.length <= k) h' e /\ Own (dBytes (w.send id x commit round).data) (fun k => h.length <= k) h' d /\ Ext nof h h'
theorem own_junk {d : D} {lo : Nat} {H H' j : AHeap} {r : AV} (ho : Own d (fun m => H.length <= m) (H ++ j) r) (hl : H'.length = H.length) (hlo : lo <= H.length) : Own d (fun m => lo <= m) (H' ++ j) r :=
 Own.mono d (fun m hm => Nat.le_trans hlo hm) (fun m hm x hx => by rw [List.getElem?_append_right (by omega)] at hx ⊢; rw [hl]; exact hx) r ho
theorem bytes_length (x : Conf) : x.bytes.length = 24 + 8 * (x.old.length + x.new.length + x.learners.length) := by
 simp only [Conf.bytes, List.length_append, num_length, nums_length]; omega
theorem flow_Next_ok {P : Program} {f p b t s : FuncId} (hf : Is P f (c_flow_Next p b t s)) (hp : ConfBytesP P p) (hb : BlobOk P b) (ht : TermP P t) (hs : SliceOk P s) : FNextOk P f := by
 refine ⟨hf.2, fun h w id x commit round hw hx => fun_sound hf.1 (Nat.le_of_ble_eq_true rfl) ?_⟩
 show vc P (c_flow_Next p b t s).code ⟨[(0, .agg w.cells), (1, .int .i64 id), (2, .agg x.v), (3, .int .i64 commit), (4, .int .i64 round)], [], h⟩ (atEnd (c_flow_Next p b t s).res _)
 have hbb := hb.fp
 have e1 := hp.2 x.conf hx.2.1
 have e2 := ht.2 x.log (w.next - 1) hx.1
 simp only [Log.v_eq, Conf.v_eq] at e1 e2
 have ew : IntKind.i64.wrap (w.next - 1) = w.next - 1 := wrap_i64 (by obtain ⟨⟨_, h1, _⟩, _, h2, _⟩ := hw; omega)
 simp only [c_flow_Next, Hard.v_eq, Flow.cells, go_sem, reduceEqDiff, reduceAdd]
 by_cases c : w.next <= x.log.base
 ·simp only [go_sem, reduceEqDiff, reduceAdd, reduceLeDiff, decide_eq_true c]
  refine e1.use hp.1 ?_
  simp only [go_sem, reduceEqDiff, reduceAdd, reduceLeDiff, reducePow, reduceDiv, reduceMod, decide_true]
  refine (hbb.2 [] x.conf.bytes .nils (abytes x.conf.bytes) (reads_nils 1) (reads_abytes _) (by simp) (by have := hx.2.1; rw [bytes_length]; simp only [Conf.few] at this; omega)).use hb.1 ?_
  simp only [go_sem, reduceEqDiff, reduceAdd, reduceLeDiff, reducePow, reduceDiv, reduceMod, decide_true]
  refine wCall_use ⟨hb.1, hb.2 nof _ _ x.snap _ _ (rd_abytes _ _ _) (rd_abytes _ _ _) (by have := hx.2.1; simp only [List.length_append, num_length, bytes_length]; simp only [Conf.few] at this; simp; omega) (by have := hx.2.2; omega)⟩ ?_
  rintro r h2 ⟨ro, _, rx⟩
  obtain ⟨j, rfl⟩ := rx.junk
  simp only [go_sem, reduceEqDiff, reduceAdd, reduceLeDiff, reducePow, reduceDiv, reduceMod, decide_true, ro.scalar, cells_of ro.scalar]
  have hm : w.send id x commit round = ⟨5, id, w.node, x.group, x.term, x.log.base, x.log.bterm, 0, round, 0, 0, 0, 0, 0, false, [], num x.conf.bytes.length ++ x.conf.bytes ++ num x.snap.length ++ x.snap⟩ := if_pos c
  rw [hm]
  exact ⟨.nils, r, rfl, Own.nils 3, own_junk ro (by simp) (by simp), (Ext.b3 _ _ _).tr (Ext.app _ _ _)⟩
 ·simp only [go_sem, reduceEqDiff, reduceAdd, reduceLeDiff, decide_eq_false c]
  rw [ew]
  refine e2.use ht.1 ?_
  simp only [go_sem, reduceEqDiff, reduceAdd, reduceLeDiff, ew]
  refine wCall_use ⟨hs.1, hs.2 nof _ x.log _ _ _ (by simpa only [Log.v_eq] using rd_logv _ _ x.log) hx.1⟩ ?_
  rintro r h2 ⟨ro, _, rx⟩
  obtain ⟨j, rfl⟩ := rx.junk
  simp only [go_sem, reduceEqDiff, reduceAdd, reduceLeDiff, reducePow, reduceDiv, reduceMod, decide_true, ro.scalar, cells_of ro.scalar]
  have hm : w.send id x commit round = ⟨3, id, w.node, x.group, x.term, w.next - 1, x.log.term (w.next - 1), commit, round, 0, 0, 0, 0, 0, false, x.log.slice w.next 8, []⟩ := if_neg c
  rw [hm]
  exact ⟨r, .nils, rfl, own_junk ro (by simp) (by simp), Own.nils 1, (Ext.b3 _ _ _).tr (Ext.app _ _ _)⟩
end Glb
