/-
  A library of its own: its parts, one behind the other.
-/
import Derived.Test.YtgjgniadldlmiaaGlbJouB
set_option linter.unusedSimpArgs false
set_option linter.unusedVariables false
/-
  Layer 7: one epoch of a journal over a disk.
-/
namespace Glb
open Go
set_option maxRecDepth 10000
set_option maxHeartbeats 8000000

def CopyBF (P : Program) (f : FuncId) : Prop := isFn P f = true ∧ ∀ (F : Nat → Prop) (h : AHeap) (x : List Int) (a : AV), Rd F h (dBytes x) a → x.length ≤ 2^40 → ACalls P f [a] h fun r h' => r = abytes x ∧ h' = h
theorem CopyOk.bf {P : Program} {f : FuncId} (hc : CopyOk P f .u8) : CopyBF P f :=
  ⟨hc.1, fun F h x a ha hl => (hc.2 F h x a ha hl).freeze fun _ _ hk => ⟨hk.2.2, _, Frz.d (Own.fz (dBytes x) (fun _ x => x) _ hk.1), rfl⟩⟩
def CopyRowsOk (P : Program) (f : FuncId) : Prop := isFn P f = true ∧ ∀ (F : Nat → Prop) (h : AHeap) (R : List (List Int)) (a : AV), Rd F h (dRows R) a → R.length ≤ 2^20 → (∀ b ∈ R, b.length ≤ 2^40) →
  ACalls P f [a] h fun r h' => OwnO h.length h' 1 r (arowL R) ∧ Ext nof h h'

theorem copyrows_ok {P : Program} {f g : FuncId} (hf : Is P f (c_glebekit_CopyRows g)) (hg : CopyBF P g) : CopyRowsOk P f := by
  refine ⟨hf.2, fun F h R a ha hl hb => fun_sound hf.1 (Nat.le_of_ble_eq_true rfl) ?_⟩
  show vc P (c_glebekit_CopyRows g).code ⟨[(0, a)], [], h⟩ (atEnd (c_glebekit_CopyRows g).res _)
  simp only [c_glebekit_CopyRows, go_sem, reduceIte, Nat.reduceEqDiff, Nat.reduceAdd, Nat.reduceLeDiff, Nat.reducePow, Nat.reduceDiv, Nat.reduceMod, decide_true]
  obtain ⟨I, hI⟩ : ∃ I : Nat → Env → AHeap → Prop, ∀ m L h', I m L h' ↔ ∃ (i : Nat) (o : AV), lk 0 L = a ∧ lk 3 L = o ∧ lk 4 L = .int .i64 i ∧ OwnO h.length h' 1 o (arowL (R.take i)) ∧ Ext nof h h' ∧ i ≤ R.length ∧ m = R.length - i := ⟨_, fun _ _ _ => Iff.rfl⟩
  refine vc_loop I R.length ((hI _ _ _).2 ⟨0, .nils, by simp [lk_ins, lk_cons], by simp [lk_ins, lk_cons], by simp [lk_ins, lk_cons], .inl ⟨rfl, rfl⟩, Ext.refl _ _, by omega, by omega⟩) ?_
  intro m L H hh
  obtain ⟨i, o, k0, k3, k4, ho, hx, hi, rfl⟩ := (hI _ _ _).1 hh
  have hr := ha.up hx
  have lr := hr.len
  simp only [List.length_map] at lr
  simp only [c_glebekit_CopyRows_l0, go_sem, reduceIte, Nat.reduceEqDiff, Nat.reduceAdd, Nat.reduceLeDiff, Nat.reducePow, Nat.reduceDiv, Nat.reduceMod, decide_true, k0, k3, k4, lr]
  refine wCond_split (fun ci => ?_) (fun ci => ?_)
  · simp at ci
    obtain ⟨p, c, p1, p2, p3⟩ := jrows_at hr ci
    have ew : IntKind.i64.wrap (↑i + 1) = ((i + 1 : Nat) : Int) := by rw [wrap_i64 (by omega)]; omega
    simp only [go_sem, reduceIte, Nat.reduceEqDiff, Nat.reduceAdd, Nat.reduceLeDiff, Nat.reducePow, Nat.reduceDiv, Nat.reduceMod, decide_true, k0, k3, k4, p1, p2]
    refine use1 hg.1 (hg.2 F H R[i] c p3 (hb _ (List.getElem_mem ci))) ?_
    have sv : (abytes R[i]).scalar = true := (rd_abytes nof [] R[i]).scalar
    obtain ⟨o2, h3, t1, t2, t3⟩ := acc_app (bytes := 24) (h := H ++ [some (.arr 1 [[abytes R[i]]] false)]) (ys := [[abytes R[i]]]) ho (Ext.b1 _) hx.1 (by simp [arowL]; omega)
    simp only [go_sem, reduceIte, Nat.reduceEqDiff, Nat.reduceAdd, Nat.reduceLeDiff, Nat.reducePow, Nat.reduceDiv, Nat.reduceMod, decide_true, k4, ew, sv, cells_of sv, aappend_of (aelems_new H 1 [[abytes R[i]]] false (some 1) (len := 1) rfl), t1]
    refine ⟨_, by omega, (hI _ _ _).2 ⟨i + 1, o2, by simp [lk_ins, k0], by simp [lk_ins], by simp [lk_ins], ?_, (hx.tr (Ext.b1 _)).then t3 (fun m hm hm' => by omega), ci, rfl⟩⟩
    rw [List.take_succ_eq_append_getElem ci, arowL_snoc]
    exact t2
  · simp at ci
    obtain rfl : i = R.length := by omega
    rw [List.take_length] at ho
    simp only [go_sem, reduceIte, Nat.reduceEqDiff, Nat.reduceAdd, Nat.reduceLeDiff, Nat.reducePow, Nat.reduceDiv, Nat.reduceMod, decide_true, k3]
    exact ⟨ho, hx⟩

end Glb
