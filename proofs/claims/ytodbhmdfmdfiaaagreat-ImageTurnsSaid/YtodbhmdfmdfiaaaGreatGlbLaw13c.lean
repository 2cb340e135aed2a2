/-
  The sizes of changes; ranges and codecs.
-/
import Derived.Test.YtodbhmdfmdfiaaaGreatGlbImgK
import Derived.Test.YtodbhmdfmdfiaaaGreatGlbKitJ
import Derived.Test.YtodbhmdfmdfiaaaGreatGlbFitI
set_option linter.unusedSimpArgs false
set_option linter.unusedVariables false
namespace Glb
open Go
set_option maxRecDepth 10000
set_option maxHeartbeats 8000000

def Change.small (x : Change) : Prop := (x.log.es.length ≤ 100 ∧ ∀ e ∈ x.log.es, e.data.length ≤ 16384) ∧ (x.conf.old.length ≤ 100 ∧ x.conf.new.length ≤ 100 ∧ x.conf.learners.length ≤ 100) ∧ x.snap.length ≤ 16384
theorem change_bound {x : Change} (h : x.small) : (changeC.enc x).length ≤ 1700000 := by
  obtain ⟨⟨h1, h2⟩, ⟨h3, h4, h5⟩, h6⟩ := h
  have h7 := entries_bound h1 h2
  have hn8 := nums_length
  rw [changeC_enc, logC_enc, voteC_enc]
  simp only [Conf.bytes, List.length_append, hn8, num_length, List.length_cons, List.length_nil]
  omega
theorem changes_bound {l : List Change} (hl : l.length ≤ 20) (h : ∀ x ∈ l, x.small) : (changesC.enc l).length ≤ 40000000 := by
  have h4 := flat_bound changeC.enc 1700000 l (fun y hy => change_bound (h y hy))
  have e : changesC.enc l = num l.length ++ l.flatMap changeC.enc := rfl
  rw [e]
  simp only [List.length_append, num_length]
  have h6 : l.length * 1700000 ≤ 20 * 1700000 := Nat.mul_le_mul_right _ hl
  omega
theorem Change.small.few {x : Change} (h : x.small) : x.few := by
  obtain ⟨⟨h1, h2⟩, ⟨h3, h4, h5⟩, h6⟩ := h
  refine ⟨⟨by omega, fun e he => by have := h2 e he; omega⟩, ⟨by omega, by omega, by omega⟩, by omega⟩

/-! in range: of what the codecs write -/
theorem le63 {n m : Nat} (h : n ≤ m) (hm : m ≤ 9223372036854775807 := by decide) : n ≤ 9223372036854775807 := Nat.le_trans h hm
theorem entry_okR {e : Entry} (h : e.R) (hl : e.data.length ≤ 2^40) : entryC.ok e := ⟨h.1, h.2.1, le63 hl, h.2.2⟩
theorem log_okR {x : Log} (h : x.R) (hl : SmallEntries x.es) : logC.ok x := ⟨h.1, h.2.1, le63 hl.1, fun e he => entry_okR (h.2.2 e he) (hl.2 e he)⟩
theorem ints_okR {l : List Int} (h : intsR l) (hl : l.length ≤ 2^40) : intsC.ok l := ⟨le63 hl, h⟩
theorem conf_okR {x : Conf} (h : x.R) (hl : x.few (2^40)) : confC.ok x := ⟨ints_okR h.1 hl.1, ints_okR h.2.1 hl.2.1, ints_okR h.2.2 hl.2.2⟩
theorem vote_okR {x : Vote} (h : x.R) : voteC.ok x := h
theorem hard_okR {x : Hard} (h : x.R) (hl : x.few) : hardC.ok x := ⟨h.1, h.2.1, h.2.2.1, log_okR h.2.2.2.1 hl.1, conf_okR h.2.2.2.2.1 hl.2.1, le63 hl.2.2, h.2.2.2.2.2⟩
theorem change_okR {x : Change} (h : x.R) (hl : x.few) : changeC.ok x := ⟨h.1, h.2.1, h.2.2.1, h.2.2.2.1, h.2.2.2.2.1, log_okR h.2.2.2.2.2.1 hl.1, conf_okR h.2.2.2.2.2.2.1 hl.2.1, ⟨le63 hl.2.2, h.2.2.2.2.2.2.2.1⟩, vote_okR h.2.2.2.2.2.2.2.2⟩
theorem image_okR {x : Image} (h : x.R) (hl : x.few) : imageC.ok x := ⟨⟨le63 hl.1, fun y hy => hard_okR (h.1 y hy) (hl.2.2 y hy)⟩, ⟨le63 hl.2.1, fun y hy => vote_okR (h.2 y hy)⟩⟩
def ChFewOk (P : Program) (f : FuncId) : Prop :=
  isFn P f = true ∧ ∀ (F : Nat → Prop) (h : AHeap) (x : Change) (a : List AV), RdL F h x.c a → ACalls P f [.agg a] h fun r h' => ∃ b, r = .bool b ∧ h' = h ∧ (b = true → x.small)

theorem chFew_ok {P : Program} {f g k : FuncId} (hf : Is P f (c_glebelaw13_few g k)) (hg : BigEntriesOk P g) (hk : BigConfOk P k) : ChFewOk P f := by
  refine ⟨hf.2, fun F h x a ha => ?_⟩
  have key : ACalls P f [.agg a] h fun r h' => ∃ b, r = .bool b ∧ Ext nof h h' ∧ (b = true → x.small) := by
    refine fun_sound hf.1 (Nat.le_of_ble_eq_true rfl) ?_
    show vc P (c_glebelaw13_few g k).code ⟨[(0, .agg a)], [], h⟩ (atEnd (c_glebelaw13_few g k).res _)
    obtain ⟨e, o, n, l, s, rfl, re, ro, rn, rl, rs⟩ := rd_changeL ha
    have ls : alen s = some (.int .i64 x.snap.length) := rs.bytes_len
    simp only [c_glebelaw13_few, Change.cells, go_sem, reduceIte, Nat.reduceEqDiff, Nat.reduceAdd, Nat.reduceLeDiff, Nat.reducePow, Nat.reduceDiv, Nat.reduceMod, decide_true, re.scalar, ro.scalar, rn.scalar, rl.scalar, rs.scalar]
    refine wCall_use ⟨hg.1, hg.2 F _ x.log.es e 100 16384 (re.up (Ext.b1 _)) (by omega) (by omega)⟩ ?_
    rintro _ _ ⟨b, rfl, rfl, hb⟩
    cases b with
    | true =>
      simp only [go_sem, reduceIte, Nat.reduceEqDiff, Nat.reduceAdd, Nat.reduceLeDiff, Nat.reducePow, Nat.reduceDiv, Nat.reduceMod, decide_true]
      exact ⟨_, rfl, Ext.b1 _, fun h => by cases h⟩
    | false =>
      simp only [go_sem, reduceIte, Nat.reduceEqDiff, Nat.reduceAdd, Nat.reduceLeDiff, Nat.reducePow, Nat.reduceDiv, Nat.reduceMod, decide_true]
      refine wCall_use ⟨hk.1, hk.2 F _ x.conf _ 100 ((conf_rd ro rn rl).up (Ext.b1 _))⟩ ?_
      rintro _ _ ⟨b, rfl, rfl, hb2⟩
      cases b with
      | true =>
        simp only [go_sem, reduceIte, Nat.reduceEqDiff, Nat.reduceAdd, Nat.reduceLeDiff, Nat.reducePow, Nat.reduceDiv, Nat.reduceMod, decide_true]
        exact ⟨_, rfl, Ext.b1 _, fun h => by cases h⟩
      | false =>
        obtain ⟨h1, h2⟩ := hb rfl
        obtain ⟨h3, h4, h5⟩ := hb2 rfl
        simp only [go_sem, reduceIte, Nat.reduceEqDiff, Nat.reduceAdd, Nat.reduceLeDiff, Nat.reducePow, Nat.reduceDiv, Nat.reduceMod, decide_true, ls]
        refine ⟨_, rfl, Ext.b1 _, fun hc => ⟨⟨h1, h2⟩, ⟨by omega, by omega, by omega⟩, by simp at hc; omega⟩⟩
  exact ACalls.freezeH (K' := fun r h' => ∃ b, r = .bool b ∧ h' = h ∧ (b = true → x.small)) key (fun r h' ⟨b, e, hx, hq⟩ => ⟨.bool b, h, FrzH.same hx, by subst e; exact Frz.bool b, b, rfl, rfl, hq⟩)

end Glb
