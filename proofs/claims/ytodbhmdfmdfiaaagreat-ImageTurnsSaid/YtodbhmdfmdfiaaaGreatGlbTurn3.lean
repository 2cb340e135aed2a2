/-
  Lists of changes copied, and written by the document.
-/
import Derived.Test.YtodbhmdfmdfiaaaGreatGlbSpoil
import Derived.Test.YtodbhmdfmdfiaaaGreatGlbImgA
set_option linter.unusedSimpArgs false
set_option linter.unusedVariables false
namespace Glb
open Go
set_option maxRecDepth 10000
set_option maxHeartbeats 16000000

def CopyChangesP (P : Program) (f : FuncId) : Prop := isFn P f = true ∧ ∀ (F : Nat → Prop) (h : AHeap) (l : List Change) (a : AV), Rd F h (dChanges l) a → l.length ≤ 2^30 → (∀ y ∈ l, y.few) → ACalls P f [a] h fun r h' => r = achanges l ∧ h' = h

theorem CopyChanges_ok {P : Program} {f g : FuncId} (hf : Is P f (c_glebekit_CopyChanges g)) (hg : CopyChangeP P g) : CopyChangesP P f := by
  refine ⟨hf.2, fun F h l a ha hl hx => ACalls.freeze (K := fun r h' => OwnO h.length h' 17 r (D.avLL (l.map Change.c)) ∧ Ext nof h h') (fun_sound hf.1 (Nat.le_of_ble_eq_true rfl) ?_) (fun _ _ hk => ⟨hk.2, _, Frz.d (OwnO.fz hk.1 (Nat.le_refl _)), rfl⟩)⟩
  show vc P (c_glebekit_CopyChanges g).code ⟨[(0, a)], [], h⟩ (atEnd (c_glebekit_CopyChanges g).res _)
  have la : alen a = some (.int .i64 l.length) := by simpa using ha.len
  simp only [c_glebekit_CopyChanges, go_sem, reduceIte, Nat.reduceEqDiff, Nat.reduceAdd, Nat.reduceLeDiff, Nat.reducePow, Nat.reduceDiv, Nat.reduceMod, decide_true]
  obtain ⟨I, hI⟩ : ∃ I : Nat → Env → AHeap → Prop, ∀ m L h', I m L h' ↔ ∃ (i : Nat) (o : AV), lk 0 L = a ∧ lk 3 L = o ∧ lk 4 L = .int .i64 i ∧ OwnO h.length h' 17 o (D.avLL ((l.take i).map Change.c)) ∧ Ext nof h h' ∧ i ≤ l.length ∧ m = l.length - i := ⟨_, fun _ _ _ => Iff.rfl⟩
  refine vc_loop I l.length ((hI _ _ _).2 ⟨0, .nils, by simp [lk_ins, lk_cons], by simp [lk_ins, lk_cons], by simp [lk_ins], .inl ⟨rfl, by simp [D.avLL]⟩, Ext.refl _ _, by omega, by omega⟩) ?_
  intro m L h2 hh
  obtain ⟨i, o, k0, k3, k4, hO, hE, hi, rfl⟩ := (hI _ _ _).1 hh
  simp only [c_glebekit_CopyChanges_l0, go_sem, reduceIte, Nat.reduceEqDiff, Nat.reduceAdd, Nat.reduceLeDiff, Nat.reducePow, Nat.reduceDiv, Nat.reduceMod, decide_true, k0, k3, k4, la]
  refine wCond_split (fun ci => ?_) (fun ci => ?_)
  · simp at ci
    obtain ⟨p, cs, hp1, hp2, hcs⟩ := (ha.up hE).index .i64 (i := i) (d := l[i].c) (by omega) (by simp [ci])
    have hcl : cs.length = 17 := by rw [RdL_length hcs]; rfl
    have tk : cs.take 17 = cs := List.take_of_length_le (by omega)
    have e1 : IntKind.i64.wrap (↑i + 1) = (i : Int) + 1 := wrap_i64 (by omega)
    simp only [go_sem, reduceIte, Nat.reduceEqDiff, Nat.reduceAdd, Nat.reduceLeDiff, Nat.reducePow, Nat.reduceDiv, Nat.reduceMod, decide_true, k0, k3, k4, hp1, aload_p hp2, hcl, tk]
    refine use1 hg.1 (hg.2 F h2 l[i] cs hcs (hx _ (List.getElem_mem _))) ?_
    have hv17 : l[i].v.length = 17 := rfl
    have hvs : l[i].v.all AV.scalar = true := Change.v_sc _
    have tk2 : D.avLL ((l.take (i + 1)).map Change.c) = D.avLL ((l.take i).map Change.c) ++ [l[i].v] := by
      rw [List.take_succ_eq_append_getElem ci, avLL_map, avLL_map]; simp only [List.map_append, List.map_cons, List.map_nil]; rfl
    obtain ⟨o2, h3, s1, s2, s3⟩ := acc_app (bytes := 216) (h := h2 ++ [some (.arr 17 [l[i].v] false)]) (ys := [l[i].v]) hO (Ext.b1 _) hE.1 (by simp [avLL_length]; omega)
    rw [← aappend_of (aelems_new h2 17 [l[i].v] false (some 1) (len := 1) rfl)] at s1
    simp only [go_sem, reduceIte, Nat.reduceEqDiff, Nat.reduceAdd, Nat.reduceLeDiff, Nat.reducePow, Nat.reduceDiv, Nat.reduceMod, decide_true, k0, k3, k4, hv17, hvs, s1, e1]
    exact ⟨_, by omega, (hI _ _ _).2 ⟨i + 1, o2, by simp [lk_ins, k0], by simp [lk_ins], by simp [lk_ins], by rw [tk2]; exact s2, (hE.tr (Ext.b1 _)).then s3 (fun m hm hm' => by omega), ci, rfl⟩⟩
  · simp at ci
    obtain rfl : i = l.length := by omega
    rw [List.take_length] at hO
    simp only [go_sem, reduceIte, Nat.reduceEqDiff, Nat.reduceAdd, Nat.reduceLeDiff, Nat.reducePow, Nat.reduceDiv, Nat.reduceMod, decide_true, k3]
    exact ⟨hO, hE⟩

theorem r_PutChanges_ok {P : Program} {f g lo co k vo : FuncId} (hf : Is P f (c_gleberef13_PutChanges g lo co k vo)) (hg : IntP P g) (hlo : PutT P lo Log.c logC.enc) (hco : PutT P co Conf.c Conf.bytes) (hk : BlobP P k) (hv : PutT P vo Vote.c voteC.enc) : PutChsP P f := by
  refine ⟨hf.2, fun G h l a ha hl => obs (upto_av _ _) (fun_sound hf.1 (Nat.le_of_ble_eq_true rfl) ?_)⟩
  show vc P (c_gleberef13_PutChanges g lo co k vo).code ⟨[(0, a)], [], h⟩ (atEnd (c_gleberef13_PutChanges g lo co k vo).res _)
  have f1 := flat_big changeC l
  have ec : changesC.enc l = num l.length ++ l.flatMap changeC.enc := rfl
  rw [ec] at hl ⊢
  simp only [List.length_append, num_length] at hl
  have ld : alen a = some (.int .i64 l.length) := by simpa using ha.len
  simp only [c_gleberef13_PutChanges, go_sem, reduceIte, Nat.reduceEqDiff, Nat.reduceAdd, Nat.reduceLeDiff, Nat.reducePow, Nat.reduceDiv, Nat.reduceMod, decide_true, ld]
  refine use1 hg.1 (hg.2 nof _ [] _ _ (Rd.nils 1) (by simp)) ?_
  simp only [go_sem, reduceIte, Nat.reduceEqDiff, Nat.reduceAdd, Nat.reduceLeDiff, Nat.reducePow, Nat.reduceDiv, Nat.reduceMod, decide_true]
  obtain ⟨I, hI⟩ : ∃ I : Nat → Env → AHeap → Prop, ∀ m L h', I m L h' ↔ ∃ (i : Nat), lk 0 L = a ∧ lk 3 L = abytes (num l.length ++ (l.take i).flatMap changeC.enc) ∧ lk 4 L = .int .i64 i ∧
      Ext nof h h' ∧ i ≤ l.length ∧ m = l.length - i := ⟨_, fun _ _ _ => Iff.rfl⟩
  refine vc_loop I l.length ((hI _ _ _).2 ⟨0, by simp [lk_ins, lk_cons], by simp [lk_ins, lk_cons], by simp [lk_ins], Ext.refl _ _, by omega, by omega⟩) ?_
  intro m L h2 hh
  obtain ⟨i, k0, k3, k4, hE, hi, rfl⟩ := (hI _ _ _).1 hh
  simp only [c_gleberef13_PutChanges_l0, go_sem, reduceIte, Nat.reduceEqDiff, Nat.reduceAdd, Nat.reduceLeDiff, Nat.reducePow, Nat.reduceDiv, Nat.reduceMod, decide_true, k0, k3, k4, ld]
  refine wCond_split (fun ci => ?_) (fun ci => ?_)
  · simp at ci
    obtain ⟨p, cs, hp1, hp2, hcs⟩ := (ha.up hE).index .i64 (i := i) (d := l[i].c) (by omega) (by simp [ci])
    obtain ⟨e, o, n, q, s, rfl, he, ho, hn, hq, hs⟩ := rd_changeL hcs
    have ld2 := aload_p hp2 true 17
    rw [take_agg, if_pos (by simp [Change.cells]), List.take_of_length_le (by simp [Change.cells])] at ld2
    have e1 : IntKind.i64.wrap (↑i + 1) = (i : Int) + 1 := wrap_i64 (by omega)
    have fl := flat_take changeC.enc ci
    have fl2 := flat_le2 changeC.enc ci
    have ee := changeC_enc l[i]
    rw [ee] at fl fl2
    simp only [nums, List.append_nil, List.length_append, num_length] at fl fl2
    simp only [Change.cells] at ld2
    simp only [go_sem, reduceIte, Nat.reduceEqDiff, Nat.reduceAdd, Nat.reduceLeDiff, Nat.reducePow, Nat.reduceDiv, Nat.reduceMod, decide_true, k0, k3, k4, hp1, ld2, he.scalar, ho.scalar, hn.scalar, hq.scalar, hs.scalar]
    refine use1 hg.1 (hg.2 nof _ _ _ _ (rd_abytes _ _ _) (by simp only [List.length_append, num_length]; omega)) ?_
    simp only [go_sem, reduceIte, Nat.reduceEqDiff, Nat.reduceAdd, Nat.reduceLeDiff, Nat.reducePow, Nat.reduceDiv, Nat.reduceMod, decide_true]
    refine use1 hg.1 (hg.2 nof _ _ _ _ (rd_abytes _ _ _) (by simp only [List.length_append, num_length]; omega)) ?_
    simp only [go_sem, reduceIte, Nat.reduceEqDiff, Nat.reduceAdd, Nat.reduceLeDiff, Nat.reducePow, Nat.reduceDiv, Nat.reduceMod, decide_true]
    refine use1 hg.1 (hg.2 nof _ _ _ _ (rd_abytes _ _ _) (by simp only [List.length_append, num_length]; omega)) ?_
    simp only [go_sem, reduceIte, Nat.reduceEqDiff, Nat.reduceAdd, Nat.reduceLeDiff, Nat.reducePow, Nat.reduceDiv, Nat.reduceMod, decide_true]
    refine use1 hg.1 (hg.2 nof _ _ _ _ (rd_abytes _ _ _) (by simp only [List.length_append, num_length]; omega)) ?_
    simp only [go_sem, reduceIte, Nat.reduceEqDiff, Nat.reduceAdd, Nat.reduceLeDiff, Nat.reducePow, Nat.reduceDiv, Nat.reduceMod, decide_true]
    refine use1 hg.1 (hg.2 nof _ _ _ _ (rd_abytes _ _ _) (by simp only [List.length_append, num_length]; omega)) ?_
    simp only [go_sem, reduceIte, Nat.reduceEqDiff, Nat.reduceAdd, Nat.reduceLeDiff, Nat.reducePow, Nat.reduceDiv, Nat.reduceMod, decide_true]
    refine use1 hlo.1 (hlo.2 nof G _ _ _ l[i].log _ (rd_abytes _ _ _) ((log_rd he).up (Ext.b1 _)) (by simp only [List.length_append, num_length]; omega)) ?_
    simp only [go_sem, reduceIte, Nat.reduceEqDiff, Nat.reduceAdd, Nat.reduceLeDiff, Nat.reducePow, Nat.reduceDiv, Nat.reduceMod, decide_true]
    refine use1 hco.1 (hco.2 nof G _ _ _ l[i].conf _ (rd_abytes _ _ _) ((conf_rd ho hn hq).up (Ext.b1 _)) (by simp only [List.length_append, num_length]; omega)) ?_
    simp only [go_sem, reduceIte, Nat.reduceEqDiff, Nat.reduceAdd, Nat.reduceLeDiff, Nat.reducePow, Nat.reduceDiv, Nat.reduceMod, decide_true]
    refine use1 hk.1 (hk.2 nof G _ _ _ _ s (rd_abytes _ _ _) (hs.up (Ext.b1 _)) (by simp only [List.length_append, num_length]; omega) (by omega)) ?_
    simp only [go_sem, reduceIte, Nat.reduceEqDiff, Nat.reduceAdd, Nat.reduceLeDiff, Nat.reducePow, Nat.reduceDiv, Nat.reduceMod, decide_true]
    refine use1 hv.1 (hv.2 nof nof _ _ _ l[i].vote _ (rd_abytes _ _ _) vote_rd (by simp only [List.length_append, num_length]; omega)) ?_
    simp only [go_sem, reduceIte, Nat.reduceEqDiff, Nat.reduceAdd, Nat.reduceLeDiff, Nat.reducePow, Nat.reduceDiv, Nat.reduceMod, decide_true, k0, k3, k4, e1]
    exact ⟨_, by omega, (hI _ _ _).2 ⟨i + 1, by simp [lk_ins, k0], by rw [fl]; simp only [lk_ins, reduceIte, Nat.reduceEqDiff, List.append_assoc], by simp [lk_ins], hE.tr (Ext.b1 _), ci, rfl⟩⟩
  · simp at ci
    obtain rfl : i = l.length := by omega
    rw [List.take_length] at k3
    simp only [go_sem, reduceIte, Nat.reduceEqDiff, Nat.reduceAdd, Nat.reduceLeDiff, Nat.reducePow, Nat.reduceDiv, Nat.reduceMod, decide_true, k3]
    exact hE

end Glb
