/-
  Messages and flows; whether a message is big, a message copied.
-/
import Derived.Test.YtoijpkpfgamlpaaGlbKit3
set_option linter.unusedSimpArgs false
set_option linter.unusedVariables false
namespace Glb
open Go
set_option maxRecDepth 10000
set_option maxHeartbeats 4000000

structure Msg where
  kind : Int
  from_ : Int
  to : Int
  group : Int
  term : Int
  index : Int
  prev : Int
  commit : Int
  round : Int
  txn : Int
  part : Int
  ballot : Int
  value : Int
  seq : Int
  ok : Bool
  es : List Entry
  data : List Int
  deriving DecidableEq

def Msg.c (m : Msg) : List D := [.int .i64 m.kind, .int .i64 m.from_, .int .i64 m.to, .int .i64 m.group, .int .i64 m.term, .int .i64 m.index, .int .i64 m.prev, .int .i64 m.commit, .int .i64 m.round, .int .i64 m.txn, .int .i64 m.part, .int .i64 m.ballot,
  .int .i64 m.value, .int .i64 m.seq, .bool m.ok, dEntries m.es, dBytes m.data]
/-- its cells -/
def Msg.cells (m : Msg) (e d : AV) : List AV := [.int .i64 m.kind, .int .i64 m.from_, .int .i64 m.to, .int .i64 m.group, .int .i64 m.term, .int .i64 m.index, .int .i64 m.prev, .int .i64 m.commit, .int .i64 m.round, .int .i64 m.txn, .int .i64 m.part, .int .i64 m.ballot,
  .int .i64 m.value, .int .i64 m.seq, .bool m.ok, e, d]

theorem rdL_int {F h k n ds a} : RdL F h (.int k n :: ds) a ↔ ∃ r, a = .int k n :: r ∧ RdL F h ds r := by
  simp only [RdL, Rd]
  constructor
  · rintro ⟨x, r, h1, h2, h3⟩; subst h2; exact ⟨r, h1, h3⟩
  · rintro ⟨r, h1, h3⟩; exact ⟨_, r, h1, rfl, h3⟩
theorem rdL_bool {F h n ds a} : RdL F h (.bool n :: ds) a ↔ ∃ r, a = .bool n :: r ∧ RdL F h ds r := by
  simp only [RdL, Rd]
  constructor
  · rintro ⟨x, r, h1, h2, h3⟩; subst h2; exact ⟨r, h1, h3⟩
  · rintro ⟨r, h1, h3⟩; exact ⟨_, r, h1, rfl, h3⟩
theorem ownL_int {F h k n ds a} : OwnL (.int k n :: ds) F h a ↔ ∃ r, a = .int k n :: r ∧ OwnL ds F h r := by
  simp only [OwnL, Own]
  constructor
  · rintro ⟨x, r, h1, h2, h3⟩; subst h2; exact ⟨r, h1, h3⟩
  · rintro ⟨r, h1, h3⟩; exact ⟨_, r, h1, rfl, h3⟩
theorem ownL_bool {F h n ds a} : OwnL (.bool n :: ds) F h a ↔ ∃ r, a = .bool n :: r ∧ OwnL ds F h r := by
  simp only [OwnL, Own]
  constructor
  · rintro ⟨x, r, h1, h2, h3⟩; subst h2; exact ⟨r, h1, h3⟩
  · rintro ⟨r, h1, h3⟩; exact ⟨_, r, h1, rfl, h3⟩

theorem rd_msg {m : Msg} {F : Nat → Prop} {h : AHeap} {a : List AV} (hh : RdL F h m.c a) : ∃ e d, a = m.cells e d ∧ Rd F h (dEntries m.es) e ∧ Rd F h (dBytes m.data) d := by
  simp only [Msg.c, rdL_int, rdL_bool] at hh
  obtain ⟨_, rfl, _, rfl, _, rfl, _, rfl, _, rfl, _, rfl, _, rfl, _, rfl, _, rfl, _, rfl, _, rfl, _, rfl, _, rfl, _, rfl, _, rfl, hh⟩ := hh
  simp only [RdL] at hh
  obtain ⟨e, _, rfl, he, d, _, rfl, hd, rfl⟩ := hh
  exact ⟨e, d, rfl, he, hd⟩
theorem msg_rd {m : Msg} {F : Nat → Prop} {h : AHeap} {e d : AV} (he : Rd F h (dEntries m.es) e) (hd : Rd F h (dBytes m.data) d) : RdL F h m.c (m.cells e d) := by
  simp only [Msg.c, Msg.cells, rdL_int, rdL_bool]
  refine ⟨_, rfl, _, rfl, _, rfl, _, rfl, _, rfl, _, rfl, _, rfl, _, rfl, _, rfl, _, rfl, _, rfl, _, rfl, _, rfl, _, rfl, _, rfl, ?_⟩
  simp only [RdL]
  exact ⟨e, _, rfl, he, d, _, rfl, hd, rfl⟩
theorem own_msg {m : Msg} {F : Nat → Prop} {h : AHeap} {a : List AV} (hh : OwnL m.c F h a) : ∃ e d, a = m.cells e d ∧ Own (dEntries m.es) F h e ∧ Own (dBytes m.data) F h d := by
  simp only [Msg.c, ownL_int, ownL_bool] at hh
  obtain ⟨_, rfl, _, rfl, _, rfl, _, rfl, _, rfl, _, rfl, _, rfl, _, rfl, _, rfl, _, rfl, _, rfl, _, rfl, _, rfl, _, rfl, _, rfl, hh⟩ := hh
  simp only [OwnL] at hh
  obtain ⟨e, _, rfl, he, d, _, rfl, hd, rfl⟩ := hh
  exact ⟨e, d, rfl, he, hd⟩
theorem msg_own {m : Msg} {F : Nat → Prop} {h : AHeap} {e d : AV} (he : Own (dEntries m.es) F h e) (hd : Own (dBytes m.data) F h d) : OwnL m.c F h (m.cells e d) := by
  simp only [Msg.c, Msg.cells, ownL_int, ownL_bool]
  refine ⟨_, rfl, _, rfl, _, rfl, _, rfl, _, rfl, _, rfl, _, rfl, _, rfl, _, rfl, _, rfl, _, rfl, _, rfl, _, rfl, _, rfl, _, rfl, ?_⟩
  simp only [OwnL]
  exact ⟨e, _, rfl, he, d, _, rfl, hd, rfl⟩

def BigMsgOk (P : Program) (f : FuncId) : Prop :=
  isFn P f = true ∧ ∀ (F : Nat → Prop) (h : AHeap) (m : Msg) (a : List AV) (items bytes : Int), RdL F h m.c a → 0 ≤ items ∧ items ≤ 2^40 → 0 ≤ bytes ∧ bytes ≤ 2^40 →
    ACalls P f [.agg a, .int .i64 items, .int .i64 bytes] h fun r h' => ∃ b, r = .bool b ∧ h' = h ∧ (b = false → (m.es.length ≤ items.toNat ∧ ∀ e ∈ m.es, e.data.length ≤ bytes.toNat) ∧ m.data.length ≤ bytes.toNat)

theorem BigMsg_ok {P : Program} {f g : FuncId} (hf : Is P f (c_glebekit_BigMsg g)) (hg : BigEntriesOk P g) : BigMsgOk P f := by
  refine ⟨hf.2, fun F h m a items bytes hm hi hb => (ACalls.trunc (K := fun r h' => Ext nof h h' ∧ ∃ b, r = .bool b ∧ (b = false → (m.es.length ≤ items.toNat ∧ ∀ e ∈ m.es, e.data.length ≤ bytes.toNat) ∧ m.data.length ≤ bytes.toNat))
    (K' := fun r => ∃ b, r = .bool b ∧ (b = false → (m.es.length ≤ items.toNat ∧ ∀ e ∈ m.es, e.data.length ≤ bytes.toNat) ∧ m.data.length ≤ bytes.toNat)) (fun_sound hf.1 (Nat.le_of_ble_eq_true rfl) ?_)
    (fun r h' hk => ⟨hk.1, by obtain ⟨b, rfl, _⟩ := hk.2; exact upto_bool _ _, hk.2⟩)).mono fun r h' hk => let ⟨b, h1, h2⟩ := hk.2; ⟨b, h1, hk.1, h2⟩⟩
  show vc P (c_glebekit_BigMsg g).code ⟨[(0, .agg a), (1, .int .i64 items), (2, .int .i64 bytes)], [], h⟩ (atEnd (c_glebekit_BigMsg g).res _)
  obtain ⟨e, d, rfl, he, hd⟩ := rd_msg hm
  have ld := hd.len
  simp only [List.length_map] at ld
  simp only [c_glebekit_BigMsg, Msg.cells, go_sem, reduceIte, Nat.reduceEqDiff, Nat.reduceAdd, Nat.reduceLeDiff, Nat.reducePow, Nat.reduceDiv, Nat.reduceMod, decide_true, he.scalar, hd.scalar]
  refine wCall_use ⟨hg.1, hg.2 F _ m.es _ items bytes (he.up (Ext.b1 _)) hi hb⟩ ?_
  rintro _ _ ⟨b, rfl, rfl, hbb⟩
  cases b
  · simp only [go_sem, reduceIte, Nat.reduceEqDiff, Nat.reduceAdd, Nat.reduceLeDiff, Nat.reducePow, Nat.reduceDiv, Nat.reduceMod, decide_true, ld]
    refine ⟨Ext.b1 _, _, rfl, fun e => ⟨hbb rfl, ?_⟩⟩
    simp at e
    omega
  · simp only [go_sem, reduceIte, Nat.reduceEqDiff, Nat.reduceAdd, Nat.reduceLeDiff, Nat.reducePow, Nat.reduceDiv, Nat.reduceMod, decide_true]
    exact ⟨Ext.b1 _, _, rfl, fun e => by cases e⟩

def CopyMsgOk (P : Program) (f : FuncId) : Prop :=
  isFn P f = true ∧ ∀ (F : Nat → Prop) (h : AHeap) (m : Msg) (a : List AV), RdL F h m.c a → SmallEntries m.es → m.data.length ≤ 2^40 →
    ACalls P f [.agg a] h fun r h' => ∃ e d, r = .agg (m.cells e d) ∧ Own (dEntries m.es) (fun k => h.length ≤ k) h' e ∧ Own (dBytes m.data) (fun k => h.length ≤ k) h' d ∧ Ext nof h h'

theorem CopyMsg_ok {P : Program} {f g k : FuncId} (hf : Is P f (c_glebekit_CopyMsg g k)) (hg : CopyEntriesOk P g) (hk : CopyOk P k .u8) : CopyMsgOk P f := by
  refine ⟨hf.2, fun F h m a hm hs hl => fun_sound hf.1 (Nat.le_of_ble_eq_true rfl) ?_⟩
  show vc P (c_glebekit_CopyMsg g k).code ⟨[(0, .agg a)], [], h⟩ (atEnd (c_glebekit_CopyMsg g k).res _)
  obtain ⟨e, d, rfl, he, hd⟩ := rd_msg hm
  simp only [c_glebekit_CopyMsg, Msg.cells, go_sem, reduceIte, Nat.reduceEqDiff, Nat.reduceAdd, Nat.reduceLeDiff, Nat.reducePow, Nat.reduceDiv, Nat.reduceMod, decide_true, he.scalar, hd.scalar]
  refine wCall_use ⟨hg.1, hg.2 F _ m.es _ (he.up (Ext.b2 _ _)) hs⟩ ?_
  rintro r h2 ⟨hr, _, x2⟩
  have hA := x2.get (bx20 _ _ _)
  have hB := x2.get (bx21 _ _ _)
  have l1 := (List.getElem?_eq_some_iff.1 hA).1
  have l2 := (List.getElem?_eq_some_iff.1 hB).1
  simp only [go_sem, reduceIte, Nat.reduceEqDiff, Nat.reduceAdd, Nat.reduceLeDiff, Nat.reducePow, Nat.reduceDiv, Nat.reduceMod, decide_true, hA, hB, hr.scalar, cells_of hr.scalar, he.scalar, hd.scalar, l1, l2, List.length_set]
  have x3 := ((Ext.b2 _ _).tr x2).setNew (Nat.le_refl h.length) (some (.arr 17 [m.cells r d] false))
  have hr3 : Own (dEntries m.es) (fun k => h.length + 2 ≤ k) (h2.set h.length (some (.arr 17 [m.cells r d] false))) r :=
    Own.mono _ (fun m hm => by simp at hm; omega) (fun m hm y hy => by simp at hm; rw [List.getElem?_set_ne (by omega)]; exact hy) _ hr
  have hA3 : (h2.set h.length (some (.arr 17 [m.cells r d] false)))[h.length]? = _ := List.getElem?_set_self l1
  have hB3 : (h2.set h.length (some (.arr 17 [m.cells r d] false)))[h.length + 1]? = _ := (List.getElem?_set_ne (by omega)).trans hB
  simp only [Msg.cells] at x3 hr3 hA3 hB3
  generalize h2.set h.length (some (.arr 17 [[.int .i64 m.kind, .int .i64 m.from_, .int .i64 m.to, .int .i64 m.group, .int .i64 m.term, .int .i64 m.index, .int .i64 m.prev, .int .i64 m.commit, .int .i64 m.round, .int .i64 m.txn, .int .i64 m.part, .int .i64 m.ballot,
    .int .i64 m.value, .int .i64 m.seq, .bool m.ok, r, d]] false)) = h3 at *
  refine wCall_use ⟨hk.1, hk.2 F _ m.data _ (hd.up x3) hl⟩ ?_
  rintro s h4 ⟨hs4, _, x4⟩
  have hA4 := x4.get hA3
  have hB4 := x4.get hB3
  have l3 := (List.getElem?_eq_some_iff.1 hA4).1
  have l4 := (List.getElem?_eq_some_iff.1 hB4).1
  have hr4 := hr3.up x4
  have l0 := x3.1
  have l5 := (List.getElem?_eq_some_iff.1 hB3).1
  simp only [go_sem, reduceIte, Nat.reduceEqDiff, Nat.reduceAdd, Nat.reduceLeDiff, Nat.reducePow, Nat.reduceDiv, Nat.reduceMod, decide_true, hA4, hB4, hr.scalar, cells_of hr.scalar, hs4.scalar, cells_of hs4.scalar, he.scalar, hd.scalar, l3, l4, List.length_set]
  refine ⟨r, s, rfl, ?_, ?_, ((x3.tr x4).setNew (Nat.le_refl _) _).setNew (by omega) _⟩
  · exact Own.mono _ (fun m hm => by omega) (fun m hm y hy => by rw [List.getElem?_set_ne (by omega), List.getElem?_set_ne (by omega)]; exact hy) _ hr4
  · exact Own.mono _ (fun m hm => by omega) (fun m hm y hy => by rw [List.getElem?_set_ne (by omega), List.getElem?_set_ne (by omega)]; exact hy) _ hs4

end Glb
