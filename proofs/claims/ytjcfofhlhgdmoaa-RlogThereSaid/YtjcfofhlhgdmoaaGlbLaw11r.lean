/-
  The statements on a group's log.
-/
import Derived.Test.YtjcfofhlhgdmoaaGlbLog3
import Derived.Test.YtjcfofhlhgdmoaaGlbClosed
import Derived.Test.YtjcfofhlhgdmoaaGlbEnter
import Derived.Test.YtjcfofhlhgdmoaaGlbCglebelaw11
set_option linter.unusedSimpArgs false
set_option linter.unusedVariables false
namespace Glb
open Go
set_option maxRecDepth 10000
set_option maxHeartbeats 4000000

/-- a log of which something is promised -/
def Right (l : Log) : Prop := (0 ≤ l.base ∧ l.base ≤ 2^40) ∧ (0 ≤ l.bterm ∧ l.bterm ≤ 2^40) ∧ l.es.length ≤ 2000 ∧ ∀ e ∈ l.es, e.data.length ≤ 65536

theorem Right.ok {l : Log} (h : Right l) : LogOk l := ⟨h.1.1, by have := h.1.2; omega, by have := h.2.2.1; omega, fun e he => by have := h.2.2.2 e he; omega⟩

def RightOk (P : Program) (f : FuncId) : Prop :=
  isFn P f = true ∧ ∀ (F : Nat → Prop) (h : AHeap) (l : Log) (a : List AV), RdL F h l.c a →
    ACalls P f [.agg a] h fun r h' => ∃ b, r = .bool b ∧ h' = h ∧ (b = true → Right l)

theorem right_ok {P : Program} {f g : FuncId} (hf : Is P f (c_glebelaw11_right g)) (hg : BigEntriesOk P g) : RightOk P f := by
  refine ⟨hf.2, fun F h l a hl => (ACalls.trunc (K := fun r h' => Ext nof h h' ∧ ∃ b, r = .bool b ∧ (b = true → Right l)) (K' := fun r => ∃ b, r = .bool b ∧ (b = true → Right l)) (fun_sound hf.1 (Nat.le_of_ble_eq_true rfl) ?_)
    (fun r h' hk => ⟨hk.1, by obtain ⟨b, rfl, _⟩ := hk.2; exact upto_bool _ _, hk.2⟩)).mono fun r h' hk => let ⟨b, h1, h2⟩ := hk.2; ⟨b, h1, hk.1, h2⟩⟩
  show vc P (c_glebelaw11_right g).code ⟨[(0, .agg a)], [], h⟩ (atEnd (c_glebelaw11_right g).res _)
  simp only [Log.c, RdL, Rd] at hl
  obtain ⟨_, _, rfl, rfl, _, _, rfl, rfl, d, _, rfl, hl, rfl⟩ := hl
  simp only [c_glebelaw11_right, go_sem, reduceIte, Nat.reduceEqDiff, Nat.reduceAdd, Nat.reduceLeDiff, Nat.reducePow, Nat.reduceDiv, Nat.reduceMod, decide_true, hl.scalar, cells_of hl.scalar]
  repeat' (first
    | refine wGuardT (fun _ => ?_) (fun _ => ?_)
    | (refine wCall_use ⟨hg.1, hg.2 F _ l.es _ 2000 65536 (hl.up (Ext.b1 _)) (by omega) (by omega)⟩ ?_; rintro _ _ ⟨bb, rfl, rfl, hbb⟩)
    | simp only [go_sem, reduceIte, Nat.reduceEqDiff, Nat.reduceAdd, Nat.reduceLeDiff, Nat.reducePow, Nat.reduceDiv, Nat.reduceMod, decide_true, *])
  all_goals refine ⟨Ext.b1 _, _, rfl, fun hb => ?_⟩
  all_goals first
    | (cases hb; done)
    | (have h4 := hbb (by simpa using hb)
       simp only [decide_eq_true_eq] at *
       exact ⟨⟨by assumption, by assumption⟩, ⟨by assumption, by assumption⟩, by have := h4.1; omega, fun e he => by have := h4.2 e he; omega⟩)

end Glb
