/-
  A library of its own: its parts, one behind the other.
-/
import Derived.Test.YtodbhmdfmdfiaaaGlbConA
set_option linter.unusedSimpArgs false
set_option linter.unusedVariables false
/-
  What follows: the program's function and the document's.
-/
namespace Glb
open Go
set_option maxRecDepth 10000
set_option maxHeartbeats 8000000

attribute [go_sem] rev_clo

theorem own_confL {x : Conf} {F : Nat → Prop} {h : AHeap} {a : List AV} (hh : OwnL x.c F h a) : ∃ o n e, a = [o, n, e] ∧ Own (dInts x.old) F h o ∧ Own (dInts x.new) F h n ∧ Own (dInts x.learners) F h e := by
  simp only [Conf.c, OwnL] at hh
  obtain ⟨o, _, rfl, ho, n, _, rfl, hn, e, _, rfl, he, rfl⟩ := hh
  exact ⟨o, n, e, rfl, ho, hn, he⟩

/-- what follows, in new memory -/
def NextOk (P : Program) (f : FuncId) : Prop :=
  isFn P f = true ∧ ∀ (F G : Nat → Prop) (h : AHeap) (x : Conf) (far : List Int) (a : List AV) (b : AV), RdL F h x.c a → Rd G h (dInts far) b → x.few (2^38) → far.length ≤ 2^38 →
    ACalls P f [.agg a, b] h fun r h' => ∃ cs, r = .tup [.agg cs, .bool (x.next far).2] ∧ OwnL (x.next far).1.c (fun m => h.length ≤ m) h' cs ∧ Ext nof h h'

end Glb
/-
  What follows, by the document; the steps as plain data.
-/
namespace Glb
open Go
set_option maxRecDepth 10000
set_option maxHeartbeats 8000000

theorem CopyOk.g {P : Program} {f : FuncId} (hc : CopyOk P f .i64) {F : Nat → Prop} {h : AHeap} {l : List Int} {a : AV} (ha : Rd F h (dInts l) a) (hl : l.length ≤ 2^40) : ACalls P f [a] h fun r h' => r = aints l ∧ h' = h :=
  (hc.2 F h l a ha hl).freeze fun _ _ hk => ⟨hk.2.2, _, Frz.d (Own.fz (dInts l) (fun _ x => x) _ hk.1), rfl⟩
theorem CopyConfOk.g {P : Program} {f : FuncId} (hc : CopyConfOk P f) {F : Nat → Prop} {h : AHeap} {x : Conf} {a : List AV} (ha : RdL F h x.c a) (hl : x.few (2^40)) : ACalls P f [.agg a] h fun r h' => r = .agg x.v ∧ h' = h :=
  (hc.2 F h x a ha hl.1 hl.2.1 hl.2.2).freeze fun _ _ ⟨o, n, e, h1, h2, h3, h4, h5⟩ => ⟨h5, _, h1 ▸ Frz.aggD (OwnL.fz x.c (fun _ x => x) _ (own_conf h2 h3 h4)), rfl⟩

/-- a step by a node, as plain data -/
def StepP (P : Program) (f : FuncId) (t : Conf → Int → Conf × Int) : Prop :=
  isFn P f = true ∧ ∀ (F : Nat → Prop) (h : AHeap) (x : Conf) (a : List AV) (n : Int), RdL F h x.c a → x.few (2^38) → ACalls P f [.agg a, .int .i64 n] h fun r h' => r = .tup [.agg (t x n).1.v, .int .i64 (t x n).2] ∧ h' = h
theorem StepOk.p {P : Program} {f : FuncId} {t : Conf → Int → Conf × Int} (hc : StepOk P f t) : StepP P f t := ⟨hc.1, fun F h x a n ha hx => (hc.2 F h x a n ha hx).freeze fun _ _ ⟨cs, h1, h2, h3⟩ =>
  ⟨h3, _, h1 ▸ Frz.tup2 (Frz.aggD (OwnL.fz _ (fun _ x => x) _ h2)) (Frz.int _ _), rfl⟩⟩
def NextP (P : Program) (f : FuncId) : Prop :=
  isFn P f = true ∧ ∀ (F G : Nat → Prop) (h : AHeap) (x : Conf) (far : List Int) (a : List AV) (b : AV), RdL F h x.c a → Rd G h (dInts far) b → x.few (2^38) → far.length ≤ 2^38 →
    ACalls P f [.agg a, b] h fun r h' => r = .tup [.agg (x.next far).1.v, .bool (x.next far).2] ∧ h' = h
theorem NextOk.p {P : Program} {f : FuncId} (hc : NextOk P f) : NextP P f := ⟨hc.1, fun F G h x far a b ha hb hx hf => (hc.2 F G h x far a b ha hb hx hf).freeze fun _ _ ⟨cs, h1, h2, h3⟩ =>
  ⟨h3, _, h1 ▸ Frz.tup2 (Frz.aggD (OwnL.fz _ (fun _ x => x) _ h2)) (Frz.bool _), rfl⟩⟩

end Glb
