/-
  A library of its own: its parts, one behind the other.
-/
import Derived.Test.YtcegihlhpmdbnaaGreatGlbConA
import Derived.Test.YtcegihlhpmdbnaaGreatGlbQuoC
set_option linter.unusedSimpArgs false
set_option linter.unusedVariables false
/-
  What follows: the program's function and the document's.
-/
namespace Glb
open Go
set_option maxRecDepth 10000
set_option maxHeartbeats 8000000

attribute [go_sem] rev_clo

def AloneOk (P : Program) (f : FuncId) : Prop :=
  isFn P f = true ∧ ∀ (F : Nat → Prop) (h : AHeap) (x : Conf) (a : List AV), RdL F h x.c a → x.few (2^38) → ACalls P f [.agg a] h fun r h' => ∃ cs, r = .agg cs ∧ OwnL (Conf.mk x.new [] []).c (fun m => h.length ≤ m) h' cs ∧ Ext nof h h'
def JointOk (P : Program) (f : FuncId) : Prop :=
  isFn P f = true ∧ ∀ (F : Nat → Prop) (h : AHeap) (x : Conf) (a : List AV), RdL F h x.c a → x.few (2^38) → x.old ≠ [] → ACalls P f [.agg a] h fun r h' => ∃ cs, r = .agg cs ∧ OwnL (Conf.mk x.old (sorted (x.old ++ x.learners)) []).c (fun m => h.length ≤ m) h' cs ∧ Ext nof h h'

theorem alone_ok {P : Program} {f k : FuncId} (hf : Is P f (c_conf_members_alone k)) (hk : CloneOk P k) : AloneOk P f := by
  refine ⟨hf.2, fun F h x a ha hx => fun_sound hf.1 (Nat.le_of_ble_eq_true rfl) ?_⟩
  show vc P (c_conf_members_alone k).code ⟨[(0, .agg a)], [], h⟩ (atEnd (c_conf_members_alone k).res _)
  obtain ⟨o, n, e, rfl, ho, hn, he⟩ := rd_conf ha
  obtain ⟨h1, h2, h3⟩ := id hx
  simp only [c_conf_members_alone, go_sem, reduceIte, Nat.reduceEqDiff, Nat.reduceAdd, Nat.reduceLeDiff, Nat.reducePow, Nat.reduceDiv, Nat.reduceMod, decide_true, ho.scalar, hn.scalar, he.scalar]
  refine wCall_use ⟨hk.1, hk.2 F _ x.new n (hn.up (Ext.b2 _ _)) (by omega)⟩ ?_
  rintro r H ⟨ro, _, rx⟩
  have B := rx.get (bx21 _ _ _)
  have hl := rx.1
  simp only [len_app1] at hl
  have l2 : h.length + 1 < H.length := by omega
  simp only [go_sem, reduceIte, Nat.reduceEqDiff, Nat.reduceAdd, Nat.reduceLeDiff, Nat.reducePow, Nat.reduceDiv, Nat.reduceMod, decide_true, B, ro.scalar, cells_of ro.scalar, l2, List.length_set]
  refine ⟨_, rfl, own_conf ?_ (Own.nils 1) (Own.nils 1), ?_⟩
  · simp only [len_app1] at ro
    exact own_setOff ro (by omega) _ (by omega)
  · exact ((Ext.b2 _ _).tr rx).setNew (by omega) _

theorem joint_ok {P : Program} {f k s : FuncId} (hf : Is P f (c_conf_members_joint k s)) (hk : CloneOk P k) (hs : SortOk P s) : JointOk P f := by
  refine ⟨hf.2, fun F h x a ha hx hne => fun_sound hf.1 (Nat.le_of_ble_eq_true rfl) ?_⟩
  show vc P (c_conf_members_joint k s).code ⟨[(0, .agg a)], [], h⟩ (atEnd (c_conf_members_joint k s).res _)
  obtain ⟨o, n, e, rfl, ho, hn, he⟩ := rd_conf ha
  obtain ⟨h1, h2, h3⟩ := id hx
  simp only [c_conf_members_joint, go_sem, reduceIte, Nat.reduceEqDiff, Nat.reduceAdd, Nat.reduceLeDiff, Nat.reducePow, Nat.reduceDiv, Nat.reduceMod, decide_true, ho.scalar, hn.scalar, he.scalar]
  refine wCall_use ⟨hk.1, hk.2 F _ x.old o (ho.up (Ext.b2 _ _)) (by omega)⟩ ?_
  rintro r H ⟨ro, rc, rx⟩
  obtain ⟨ys, y1, y2⟩ := (((he.up (Ext.b2 _ _)).up rx)).elems
  obtain ⟨q, H2, s1, s2, s3, s4⟩ := own_app (bytes := 8) ro (rc hne) (Ext.refl nof H) (own_ints1 y2) rx.1 (by simp; omega)
  rw [← aappend_of y1] at s1
  have A := rx.get (bx20 _ _ _)
  have B := rx.get (bx21 _ _ _)
  simp only [go_sem, reduceIte, Nat.reduceEqDiff, Nat.reduceAdd, Nat.reduceLeDiff, Nat.reducePow, Nat.reduceDiv, Nat.reduceMod, decide_true, A, B, s1]
  have s2' : Own (dInts (x.old ++ x.learners)) (fun m => (h ++ [some (ABlk.arr 3 [[o, n, e]] false)] ++ [some (ABlk.arr 3 [[.nils, .nils, .nils]] false)]).length ≤ m) H2 q := by rw [dInts, List.map_append]; exact s2
  refine wCall_use ⟨hs.1, hs.2 _ _ _ q s2' (by simp; omega)⟩ ?_
  rintro _ H3 ⟨so, sx⟩
  have X2 := rx.then s4 (fun m hm hm' => by omega)
  have X3 := X2.then sx (fun m hm hm' => by omega)
  simp only [go_sem, reduceIte, Nat.reduceEqDiff, Nat.reduceAdd, Nat.reduceLeDiff, Nat.reducePow, Nat.reduceDiv, Nat.reduceMod, decide_true, X3.get (bx20 _ _ _), X3.get (bx21 _ _ _)]
  refine wCall_use ⟨hk.1, hk.2 F _ x.old o ((ho.up (Ext.b2 _ _)).up X3) (by omega)⟩ ?_
  rintro v H4 ⟨vo, _, vx⟩
  have X4 := X3.tr vx
  have B4 := X4.get (bx21 h (some (ABlk.arr 3 [[o, n, e]] false)) (some (.arr 3 [[.nils, .nils, .nils]] false)))
  have hl := X3.1
  have hl4 := vx.1
  simp only [len_app1] at hl
  have l2 : h.length + 1 < H4.length := by omega
  simp only [go_sem, reduceIte, Nat.reduceEqDiff, Nat.reduceAdd, Nat.reduceLeDiff, Nat.reducePow, Nat.reduceDiv, Nat.reduceMod, decide_true, B4, vo.scalar, cells_of vo.scalar, so.scalar, cells_of so.scalar, l2, List.length_set]
  refine ⟨_, rfl, own_conf ?_ ?_ (Own.nils 1), ?_⟩
  · exact own_setOff vo (by omega) _ (by omega)
  · simp only [len_app1] at so
    exact own_setOff (Own.mono (F' := fun m => h.length + 1 + 1 ≤ m) _ (fun m hm => hm) (vx.keep _) _ so) (by omega) _ (by omega)
  · exact ((Ext.b2 _ _).tr X4).setNew (by omega) _

theorem own_confL {x : Conf} {F : Nat → Prop} {h : AHeap} {a : List AV} (hh : OwnL x.c F h a) : ∃ o n e, a = [o, n, e] ∧ Own (dInts x.old) F h o ∧ Own (dInts x.new) F h n ∧ Own (dInts x.learners) F h e := by
  simp only [Conf.c, OwnL] at hh
  obtain ⟨o, _, rfl, ho, n, _, rfl, hn, e, _, rfl, he, rfl⟩ := hh
  exact ⟨o, n, e, rfl, ho, hn, he⟩

/-- what follows, in new memory -/
def NextOk (P : Program) (f : FuncId) : Prop :=
  isFn P f = true ∧ ∀ (F G : Nat → Prop) (h : AHeap) (x : Conf) (far : List Int) (a : List AV) (b : AV), RdL F h x.c a → Rd G h (dInts far) b → x.few (2^38) → far.length ≤ 2^38 →
    ACalls P f [.agg a, b] h fun r h' => ∃ cs, r = .tup [.agg cs, .bool (x.next far).2] ∧ OwnL (x.next far).1.c (fun m => h.length ≤ m) h' cs ∧ Ext nof h h'

theorem Next_f1_ok {P : Program} {f g : FuncId} (hf : Is P f (c_conf_Next_f1 g)) (hg : HasOk P g) {F : Nat → Prop} {h : AHeap} {far : List Int} {b q : AV} (hb : Rd F h (dInts far) b) (hy : far.length ≤ 2^38) (hq : aload h false 1 q = some b) (n : Int) :
    ACalls P f ([] ++ [.int .i64 n] ++ [q]) h fun r h' => r = .bool (!decide (n ∈ far)) ∧ h' = h := by
  refine fun_sound hf.1 (Nat.le_of_ble_eq_true rfl) ?_
  show vc P (c_conf_Next_f1 g).code ⟨[(0, .int .i64 n), (1, q)], [], h⟩ (atEnd (c_conf_Next_f1 g).res _)
  simp only [c_conf_Next_f1, go_sem, reduceIte, Nat.reduceEqDiff, Nat.reduceAdd, Nat.reduceLeDiff, Nat.reducePow, Nat.reduceDiv, Nat.reduceMod, decide_true, hq]
  refine use1 hg.1 (hg.2 F _ far b n hb (by omega)) ?_
  simp only [go_sem, reduceIte, Nat.reduceEqDiff, Nat.reduceAdd, Nat.reduceLeDiff, Nat.reducePow, Nat.reduceDiv, Nat.reduceMod, decide_true]

theorem conf_Next_ok {P : Program} {f f1 q b c k j l s : FuncId} (hf : Is P f (c_conf_Next f1 q b c k j l)) (h1 : Is P f1 (c_conf_Next_f1 s)) (hs : HasOk P s) (hq : CheckOk P q) (hb : BusyOk P b) (hc : AnyOk P c) (hk : CloneOk P k) (hj : JointOk P j) (hl : AloneOk P l) : NextOk P f := by
  refine ⟨hf.2, fun F G h x far a y ha hy hx hfar => fun_sound hf.1 (Nat.le_of_ble_eq_true rfl) ?_⟩
  show vc P (c_conf_Next f1 q b c k j l).code ⟨[(0, .agg a), (1, y)], [], h⟩ (atEnd (c_conf_Next f1 q b c k j l).res _)
  have ha2 := ha
  obtain ⟨o, n, e, rfl, ho, hn, he⟩ := rd_conf ha
  obtain ⟨l1, l2, l3⟩ := id hx
  simp only [c_conf_Next, go_sem, reduceIte, Nat.reduceEqDiff, Nat.reduceAdd, Nat.reduceLeDiff, Nat.reducePow, Nat.reduceDiv, Nat.reduceMod, decide_true, ho.scalar, hn.scalar, he.scalar, hy.scalar, cells_of hy.scalar]
  have b0 := bx40 h (some (ABlk.arr 3 [[o, n, e]] false)) (some (.arr 1 [[y]] false)) (some (.arr 3 [[.nils, .nils, .nils]] false)) (some (.arr 3 [[o, n, e]] false))
  have b1 := bx41 h (some (ABlk.arr 3 [[o, n, e]] false)) (some (.arr 1 [[y]] false)) (some (.arr 3 [[.nils, .nils, .nils]] false)) (some (.arr 3 [[o, n, e]] false))
  have b2 := bx42 h (some (ABlk.arr 3 [[o, n, e]] false)) (some (.arr 1 [[y]] false)) (some (.arr 3 [[.nils, .nils, .nils]] false)) (some (.arr 3 [[o, n, e]] false))
  have b3 := bx43 h (some (ABlk.arr 3 [[o, n, e]] false)) (some (.arr 1 [[y]] false)) (some (.arr 3 [[.nils, .nils, .nils]] false)) (some (.arr 3 [[o, n, e]] false))
  have hX := Ext.b4 (h := h) (some (ABlk.arr 3 [[o, n, e]] false)) (some (.arr 1 [[y]] false)) (some (.arr 3 [[.nils, .nils, .nils]] false)) (some (.arr 3 [[o, n, e]] false))
  have hlen : (h ++ [some (ABlk.arr 3 [[o, n, e]] false)] ++ [some (ABlk.arr 1 [[y]] false)] ++ [some (ABlk.arr 3 [[AV.nils, AV.nils, AV.nils]] false)] ++ [some (ABlk.arr 3 [[o, n, e]] false)]).length = h.length + 4 := by simp
  generalize h ++ [some (ABlk.arr 3 [[o, n, e]] false)] ++ [some (ABlk.arr 1 [[y]] false)] ++ [some (ABlk.arr 3 [[AV.nils, AV.nils, AV.nils]] false)] ++ [some (ABlk.arr 3 [[o, n, e]] false)] = H0 at *
  have le := (he.up hX).ints_len
  have ln := (hn.up hX).ints_len
  refine use1 hq.1 (hq.2 F _ x _ (RdL.up ha2 hX) hx) ?_
  by_cases hst : x.stays far = true
  · have e0 : x.next far = (x, false) := by simp [Conf.next, hst]
    rw [e0]
    have three : x.right = false ∨ (x.right = true ∧ x.busy = false) ∨ (x.right = true ∧ x.busy = true ∧ x.new.length = 0 ∧ (x.learners.any fun n => !decide (n ∈ far)) = true) := by
      simp only [Conf.stays, Bool.or_eq_true, Bool.and_eq_true, Bool.not_eq_true', decide_eq_true_eq] at hst
      cases c : x.right <;> cases c' : x.busy <;> simp_all
    rcases three with d0 | ⟨d0, d1⟩ | ⟨d0, d1, d2, d3⟩
    focus
      simp only [go_sem, reduceIte, Nat.reduceEqDiff, Nat.reduceAdd, Nat.reduceLeDiff, Nat.reducePow, Nat.reduceDiv, Nat.reduceMod, decide_true, d0, Bool.false_eq_true, if_false, nz29, b0]
    rotate_left
    focus
      simp only [go_sem, reduceIte, Nat.reduceEqDiff, Nat.reduceAdd, Nat.reduceLeDiff, Nat.reducePow, Nat.reduceDiv, Nat.reduceMod, decide_true, d0, if_true, nz0, b3]
      refine use1 hb.1 (hb.2 F _ x _ (RdL.up ha2 hX) hx) ?_
      simp only [go_sem, reduceIte, Nat.reduceEqDiff, Nat.reduceAdd, Nat.reduceLeDiff, Nat.reducePow, Nat.reduceDiv, Nat.reduceMod, decide_true, d1, b0]
    rotate_left
    focus
      simp only [go_sem, reduceIte, Nat.reduceEqDiff, Nat.reduceAdd, Nat.reduceLeDiff, Nat.reducePow, Nat.reduceDiv, Nat.reduceMod, decide_true, d0, if_true, nz0, b3]
      refine use1 hb.1 (hb.2 F _ x _ (RdL.up ha2 hX) hx) ?_
      have d2' : (x.new.length : Int) = 0 := by omega
      simp only [go_sem, reduceIte, Nat.reduceEqDiff, Nat.reduceAdd, Nat.reduceLeDiff, Nat.reducePow, Nat.reduceDiv, Nat.reduceMod, decide_true, d1, b0, ln, decide_eq_true d2']
      refine use1 hc.1 (hc.2 F _ x.learners e f1 [] [.ptr (h.length + 1) 1 0 0] _ (he.up hX) (by omega) h1.2 (fun m => Next_f1_ok h1 hs (hy.up hX) hfar (by rw [aload_ptr, b1]; rfl) m)) ?_
      simp only [go_sem, reduceIte, Nat.reduceEqDiff, Nat.reduceAdd, Nat.reduceLeDiff, Nat.reducePow, Nat.reduceDiv, Nat.reduceMod, decide_true, d3, b0]
    rotate_left
    all_goals
      refine wCall_use ⟨hk.1, hk.2 F _ x.old o (ho.up hX) (by omega)⟩ ?_
      rintro r H1 ⟨ro, _, rx⟩
      simp only [go_sem, reduceIte, Nat.reduceEqDiff, Nat.reduceAdd, Nat.reduceLeDiff, Nat.reducePow, Nat.reduceDiv, Nat.reduceMod, decide_true, b0, rx.get b0]
      refine wCall_use ⟨hk.1, hk.2 F _ x.new n ((hn.up hX).up rx) (by omega)⟩ ?_
      rintro u H2 ⟨uo, _, ux⟩
      simp only [go_sem, reduceIte, Nat.reduceEqDiff, Nat.reduceAdd, Nat.reduceLeDiff, Nat.reducePow, Nat.reduceDiv, Nat.reduceMod, decide_true, b0, rx.get b0, ux.get (rx.get b0)]
      refine wCall_use ⟨hk.1, hk.2 F _ x.learners e (((he.up hX).up rx).up ux) (by omega)⟩ ?_
      rintro v H3 ⟨vo, _, vx⟩
      have X := (rx.tr ux).tr vx
      have g1 := rx.1
      have g2 := ux.1
      have g3 := vx.1
      have l2' : h.length + 1 + 1 < H3.length := by omega
      simp only [go_sem, reduceIte, Nat.reduceEqDiff, Nat.reduceAdd, Nat.reduceLeDiff, Nat.reducePow, Nat.reduceDiv, Nat.reduceMod, decide_true, X.get b0, X.get b2, ro.scalar, cells_of ro.scalar, uo.scalar, cells_of uo.scalar, vo.scalar, cells_of vo.scalar, l2', List.length_set]
      refine ⟨_, rfl, own_conf ?_ ?_ ?_, ?_⟩
      · exact own_setOff (Own.mono (F' := fun m => h.length + 3 ≤ m) _ (fun m hm => by omega) ((ux.tr vx).keep _) _ ro) (by omega) _ (by omega)
      · exact own_setOff (Own.mono (F' := fun m => h.length + 3 ≤ m) _ (fun m hm => by omega) (vx.keep _) _ uo) (by omega) _ (by omega)
      · exact own_setOff (Own.mono (F' := fun m => h.length + 3 ≤ m) _ (fun m hm => by omega) (Keep.lt _ _) _ vo) (by omega) _ (by omega)
      · exact (hX.tr X).setNew (by omega) _
  · simp only [Bool.not_eq_true] at hst
    have hst2 := hst
    simp only [Conf.stays, Bool.or_eq_false_iff, Bool.and_eq_false_iff, Bool.not_eq_false', decide_eq_false_iff_not] at hst
    obtain ⟨⟨d0, d1⟩, d2⟩ := hst
    simp only [go_sem, reduceIte, Nat.reduceEqDiff, Nat.reduceAdd, Nat.reduceLeDiff, Nat.reducePow, Nat.reduceDiv, Nat.reduceMod, decide_true, d0, if_true, nz0, b3]
    refine use1 hb.1 (hb.2 F _ x _ (RdL.up ha2 hX) hx) ?_
    by_cases d3 : x.new.length = 0
    · have d3' : (x.new.length : Int) = 0 := by omega
      have d5 : ¬ (0 : Int) < x.new.length := by omega
      have d4 : (x.learners.any fun n => !decide (n ∈ far)) = false := by
        rcases d2 with d2 | d2
        · exact absurd d3 d2
        · exact d2
      have e0 : x.next far = (⟨x.old, sorted (x.old ++ x.learners), []⟩, true) := by simp [Conf.next, hst2, d3]
      rw [e0]
      simp only [go_sem, reduceIte, Nat.reduceEqDiff, Nat.reduceAdd, Nat.reduceLeDiff, Nat.reducePow, Nat.reduceDiv, Nat.reduceMod, decide_true, d1, b0, ln, decide_eq_true d3']
      refine use1 hc.1 (hc.2 F _ x.learners e f1 [] [.ptr (h.length + 1) 1 0 0] _ (he.up hX) (by omega) h1.2 (fun m => Next_f1_ok h1 hs (hy.up hX) hfar (by rw [aload_ptr, b1]; rfl) m)) ?_
      simp only [go_sem, reduceIte, Nat.reduceEqDiff, Nat.reduceAdd, Nat.reduceLeDiff, Nat.reducePow, Nat.reduceDiv, Nat.reduceMod, decide_true, d4, b0, b3, ln, decide_eq_false d5]
      refine wCall_use ⟨hj.1, hj.2 F _ x _ (RdL.up ha2 hX) hx (fun e => (right_spec d0).1 (by rw [e]; rfl))⟩ ?_
      rintro _ H1 ⟨cs, rfl, ro, rx⟩
      obtain ⟨p1, p2, p3, rfl, q1, q2, q3⟩ := own_confL ro
      have g1 := rx.1
      have l2' : h.length + 1 + 1 < H1.length := by omega
      simp only [go_sem, reduceIte, Nat.reduceEqDiff, Nat.reduceAdd, Nat.reduceLeDiff, Nat.reducePow, Nat.reduceDiv, Nat.reduceMod, decide_true, rx.get b2, q1.scalar, q2.scalar, q3.scalar, l2', List.length_set]
      refine ⟨_, rfl, own_conf ?_ ?_ ?_, (hX.tr rx).setNew (by omega) _⟩
      · exact own_setOff q1 (by omega) _ (by omega)
      · exact own_setOff q2 (by omega) _ (by omega)
      · exact own_setOff q3 (by omega) _ (by omega)
    · have d3' : ¬ (x.new.length : Int) = 0 := by omega
      have d5 : (0 : Int) < x.new.length := by omega
      have e0 : x.next far = (⟨x.new, [], []⟩, true) := by simp only [Conf.next, hst2]; rw [if_neg (by simp), if_pos (by omega)]
      rw [e0]
      simp only [go_sem, reduceIte, Nat.reduceEqDiff, Nat.reduceAdd, Nat.reduceLeDiff, Nat.reducePow, Nat.reduceDiv, Nat.reduceMod, decide_true, d1, b0, ln, decide_eq_false d3', decide_eq_true d5, b3]
      refine wCall_use ⟨hl.1, hl.2 F _ x _ (RdL.up ha2 hX) hx⟩ ?_
      rintro _ H1 ⟨cs, rfl, ro, rx⟩
      obtain ⟨p1, p2, p3, rfl, q1, q2, q3⟩ := own_confL ro
      have g1 := rx.1
      have l2' : h.length + 1 + 1 < H1.length := by omega
      simp only [go_sem, reduceIte, Nat.reduceEqDiff, Nat.reduceAdd, Nat.reduceLeDiff, Nat.reducePow, Nat.reduceDiv, Nat.reduceMod, decide_true, rx.get b2, q1.scalar, q2.scalar, q3.scalar, l2', List.length_set]
      refine ⟨_, rfl, own_conf ?_ ?_ ?_, (hX.tr rx).setNew (by omega) _⟩
      · exact own_setOff q1 (by omega) _ (by omega)
      · exact own_setOff q2 (by omega) _ (by omega)
      · exact own_setOff q3 (by omega) _ (by omega)

end Glb
/-
  What follows, by the document; the steps as plain data.
-/
namespace Glb
open Go
set_option maxRecDepth 10000
set_option maxHeartbeats 8000000

theorem sorted_pair (l : List Int) : (sorted l).Pairwise (· ≤ ·) := by
  have := List.pairwise_mergeSort (le := fun x y : Int => decide (x ≤ y)) (fun a b c h1 h2 => by simp at *; omega) (fun a b => by simp; omega) l
  exact this.imp fun h => by simpa using h
theorem sorted_perm (l : List Int) : (sorted l).Perm l := List.mergeSort_perm _ _
theorem sorted_rises {l : List Int} (h : l.Nodup) : Rises (sorted l) := by
  have h1 := sorted_pair l
  have h2 : (sorted l).Nodup := (sorted_perm l).nodup_iff.2 h
  exact (List.Pairwise.and h1 h2).imp fun ⟨a, b⟩ => by omega
theorem Rises.nodup {l : List Int} (h : Rises l) : l.Nodup := h.imp fun a => by omega
theorem join_eq {a b : List Int} (ha : Rises a) (hb : Rises b) (hd : ∀ m ∈ b, m ∉ a) : allI a b = sorted (a ++ b) := by
  refine rises_ext (allI_rises ha).1 (sorted_rises ?_) fun n => ?_
  · exact List.nodup_append.2 ⟨ha.nodup, hb.nodup, fun x hx y hy e => hd y hy (e ▸ hx)⟩
  · rw [(allI_rises ha).2 n, (sorted_perm _).mem_iff, List.mem_append]

theorem CopyOk.g {P : Program} {f : FuncId} (hc : CopyOk P f .i64) {F : Nat → Prop} {h : AHeap} {l : List Int} {a : AV} (ha : Rd F h (dInts l) a) (hl : l.length ≤ 2^40) : ACalls P f [a] h fun r h' => r = aints l ∧ h' = h :=
  (hc.2 F h l a ha hl).freeze fun _ _ hk => ⟨hk.2.2, _, Frz.d (Own.fz (dInts l) (fun _ x => x) _ hk.1), rfl⟩
theorem CopyConfOk.g {P : Program} {f : FuncId} (hc : CopyConfOk P f) {F : Nat → Prop} {h : AHeap} {x : Conf} {a : List AV} (ha : RdL F h x.c a) (hl : x.few (2^40)) : ACalls P f [.agg a] h fun r h' => r = .agg x.v ∧ h' = h :=
  (hc.2 F h x a ha hl.1 hl.2.1 hl.2.2).freeze fun _ _ ⟨o, n, e, h1, h2, h3, h4, h5⟩ => ⟨h5, _, h1 ▸ Frz.aggD (OwnL.fz x.c (fun _ x => x) _ (own_conf h2 h3 h4)), rfl⟩

/-- a step by a node, as plain data -/
def StepP (P : Program) (f : FuncId) (t : Conf → Int → Conf × Int) : Prop :=
  isFn P f = true ∧ ∀ (F : Nat → Prop) (h : AHeap) (x : Conf) (a : List AV) (n : Int), RdL F h x.c a → x.few (2^38) → ACalls P f [.agg a, .int .i64 n] h fun r h' => r = .tup [.agg (t x n).1.v, .int .i64 (t x n).2] ∧ h' = h
theorem StepOk.p {P : Program} {f : FuncId} {t : Conf → Int → Conf × Int} (hc : StepOk P f t) : StepP P f t := ⟨hc.1, fun F h x a n ha hx => (hc.2 F h x a n ha hx).freeze fun _ _ ⟨cs, h1, h2, h3⟩ =>
  ⟨h3, _, h1 ▸ Frz.tup2 (Frz.aggD (OwnL.fz _ (fun _ x => x) _ h2)) (Frz.int _ _), rfl⟩⟩
def NextP (P : Program) (f : FuncId) : Prop :=
  isFn P f = true ∧ ∀ (F G : Nat → Prop) (h : AHeap) (x : Conf) (far : List Int) (a : List AV) (b : AV), RdL F h x.c a → Rd G h (dInts far) b → x.few (2^38) → far.length ≤ 2^38 →
    ACalls P f [.agg a, b] h fun r h' => r = .tup [.agg (x.next far).1.v, .bool (x.next far).2] ∧ h' = h
theorem NextOk.p {P : Program} {f : FuncId} (hc : NextOk P f) : NextP P f := ⟨hc.1, fun F G h x far a b ha hb hx hf => (hc.2 F G h x far a b ha hb hx hf).freeze fun _ _ ⟨cs, h1, h2, h3⟩ =>
  ⟨h3, _, h1 ▸ Frz.tup2 (Frz.aggD (OwnL.fz _ (fun _ x => x) _ h2)) (Frz.bool _), rfl⟩⟩

/-- members in memory that stays, or none -/
def FzC (k : Nat) (h : AHeap) (x : Conf) (r : AV) (b : Bool) : Prop := ∃ cs, r = .tup [.agg cs, .bool b] ∧ FzL k h x.c cs
theorem fzC {k : Nat} {h : AHeap} {x : Conf} {o n e : AV} (b : Bool) (ho : Fz k h (dInts x.old) o) (hn : Fz k h (dInts x.new) n) (he : Fz k h (dInts x.learners) e) : FzC k h x (.tup [.agg [o, n, e], .bool b]) b :=
  ⟨_, rfl, by simp only [Conf.c, FzL]; exact ⟨_, _, rfl, ho, _, _, rfl, hn, _, _, rfl, he, rfl⟩⟩
theorem fz_nils (k : Nat) (h : AHeap) : Fz k h (dInts []) .nils := by simp only [dInts, List.map_nil, Fz]; exact .inl ⟨trivial, trivial⟩
theorem fz_aints (k : Nat) (h : AHeap) (l : List Int) : Fz k h (dInts l) (aints l) := fz_self k h _

theorem gleberef16_Next_ok {P : Program} {f q b c k i w : FuncId} (hf : Is P f (c_gleberef16_Next q b c k i w)) (hq : CheckOk P q) (hb : BusyOk P b) (hc : CopyConfOk P c) (hk : CopyOk P k .i64) (hi : HasOk P i) (hw : WithOk P w) : NextP P f := by
  refine ⟨hf.2, fun F G h x far a y ha hy hx hfar => ACalls.freeze (K := fun r h' => Ext nof h h' ∧ FzC h.length h' (x.next far).1 r (x.next far).2) (fun_sound hf.1 (Nat.le_of_ble_eq_true rfl) ?_) ?_⟩
  rotate_left
  · rintro r h' ⟨h1, cs, rfl, h2⟩
    exact ⟨h1, _, Frz.tup2 (Frz.aggD h2) (Frz.bool _), rfl⟩
  show vc P (c_gleberef16_Next q b c k i w).code ⟨[(0, .agg a), (1, y)], [], h⟩ (atEnd (c_gleberef16_Next q b c k i w).res _)
  have ha2 := ha
  obtain ⟨o, n, e, rfl, ho, hn, he⟩ := rd_conf ha
  obtain ⟨l1, l2, l3⟩ := id hx
  have hx40 : x.few (2^40) := ⟨by omega, by omega, by omega⟩
  simp only [c_gleberef16_Next, go_sem, reduceIte, Nat.reduceEqDiff, Nat.reduceAdd, Nat.reduceLeDiff, Nat.reducePow, Nat.reduceDiv, Nat.reduceMod, decide_true, ho.scalar, hn.scalar, he.scalar]
  have b0 := bx20 h (some (ABlk.arr 3 [[o, n, e]] false)) (some (.arr 3 [[.nils, .nils, .nils]] false))
  have b1 := bx21 h (some (ABlk.arr 3 [[o, n, e]] false)) (some (.arr 3 [[.nils, .nils, .nils]] false))
  have hX := Ext.b2 (h := h) (some (ABlk.arr 3 [[o, n, e]] false)) (some (.arr 3 [[.nils, .nils, .nils]] false))
  have hlen : (h ++ [some (ABlk.arr 3 [[o, n, e]] false)] ++ [some (ABlk.arr 3 [[AV.nils, AV.nils, AV.nils]] false)]).length = h.length + 2 := by simp
  generalize h ++ [some (ABlk.arr 3 [[o, n, e]] false)] ++ [some (ABlk.arr 3 [[AV.nils, AV.nils, AV.nils]] false)] = H0 at *
  have ln := (hn.up hX).ints_len
  have le := (he.up hX).ints_len
  have lt : h.length + 1 < H0.length := by omega
  have sx : ∀ z, Ext nof h (H0.set (h.length + 1) z) := fun z => hX.setNew (by omega) z
  have cv := Conf.v_eq x
  refine use1 hq.1 (hq.2 F _ x _ (RdL.up ha2 hX) hx) ?_
  have cpy := hc.g (RdL.up ha2 hX) hx40
  rw [cv] at cpy
  by_cases d0 : x.right = false
  · have e0 : x.next far = (x, false) := by simp [Conf.next, Conf.stays, d0]
    rw [e0]
    simp only [go_sem, reduceIte, Nat.reduceEqDiff, Nat.reduceAdd, Nat.reduceLeDiff, Nat.reducePow, Nat.reduceDiv, Nat.reduceMod, decide_true, d0, Bool.false_eq_true, if_false, nz29, b0]
    refine use1 hc.1 cpy ?_
    simp only [go_sem, reduceIte, Nat.reduceEqDiff, Nat.reduceAdd, Nat.reduceLeDiff, Nat.reducePow, Nat.reduceDiv, Nat.reduceMod, decide_true, b1, lt, scalar_aints]
    exact ⟨sx _, fzC _ (fz_aints _ _ _) (fz_aints _ _ _) (fz_aints _ _ _)⟩
  simp only [Bool.not_eq_false] at d0
  simp only [go_sem, reduceIte, Nat.reduceEqDiff, Nat.reduceAdd, Nat.reduceLeDiff, Nat.reducePow, Nat.reduceDiv, Nat.reduceMod, decide_true, d0, if_true, nz0, b0]
  refine use1 hb.1 (hb.2 F _ x _ (RdL.up ha2 hX) hx) ?_
  by_cases d1 : x.busy = false
  · have e0 : x.next far = (x, false) := by simp [Conf.next, Conf.stays, d1]
    rw [e0]
    simp only [go_sem, reduceIte, Nat.reduceEqDiff, Nat.reduceAdd, Nat.reduceLeDiff, Nat.reducePow, Nat.reduceDiv, Nat.reduceMod, decide_true, d1, b0]
    refine use1 hc.1 cpy ?_
    simp only [go_sem, reduceIte, Nat.reduceEqDiff, Nat.reduceAdd, Nat.reduceLeDiff, Nat.reducePow, Nat.reduceDiv, Nat.reduceMod, decide_true, b1, lt, scalar_aints]
    exact ⟨sx _, fzC _ (fz_aints _ _ _) (fz_aints _ _ _) (fz_aints _ _ _)⟩
  simp only [Bool.not_eq_false] at d1
  simp only [go_sem, reduceIte, Nat.reduceEqDiff, Nat.reduceAdd, Nat.reduceLeDiff, Nat.reducePow, Nat.reduceDiv, Nat.reduceMod, decide_true, d1, b0, ln]
  by_cases d2 : (0 : Int) < x.new.length
  · have e0 : x.next far = (⟨x.new, [], []⟩, true) := by
      have : ¬ x.new.length = 0 := by omega
      simp [Conf.next, Conf.stays, d0, d1, this]
      try omega
    rw [e0]
    simp only [go_sem, reduceIte, Nat.reduceEqDiff, Nat.reduceAdd, Nat.reduceLeDiff, Nat.reducePow, Nat.reduceDiv, Nat.reduceMod, decide_true, decide_eq_true d2, b0]
    refine use1 hk.1 (hk.g (hn.up hX) (by omega)) ?_
    simp only [go_sem, reduceIte, Nat.reduceEqDiff, Nat.reduceAdd, Nat.reduceLeDiff, Nat.reducePow, Nat.reduceDiv, Nat.reduceMod, decide_true, b1, lt, scalar_aints, cells_aints]
    exact ⟨sx _, fzC _ (fz_aints _ _ _) (fz_nils _ _) (fz_nils _ _)⟩
  have d2' : x.new.length = 0 := by omega
  simp only [go_sem, reduceIte, Nat.reduceEqDiff, Nat.reduceAdd, Nat.reduceLeDiff, Nat.reducePow, Nat.reduceDiv, Nat.reduceMod, decide_true, decide_eq_false d2, b0]
  refine use1 hk.1 (hk.g (ho.up hX) (by omega)) ?_
  simp only [go_sem, reduceIte, Nat.reduceEqDiff, Nat.reduceAdd, Nat.reduceLeDiff, Nat.reducePow, Nat.reduceDiv, Nat.reduceMod, decide_true]
  have rs := right_spec d0
  refine vc_loop (fun m L h' => ∃ j : Nat, lk 1 L = y ∧ lk 2 L = .ptr h.length 3 0 0 ∧ lk 4 L = .ptr (h.length + 1) 3 0 0 ∧ lk 6 L = aints (allI x.old (x.learners.take j)) ∧ lk 7 L = .int .i64 j ∧ h' = H0 ∧ (∀ n ∈ x.learners.take j, n ∈ far) ∧ j ≤ x.learners.length ∧ m = x.learners.length - j) x.learners.length ?_ ?_
  · exact ⟨0, by simp [lk_ins, lk_cons], by simp [lk_ins, lk_cons], by simp [lk_ins, lk_cons], by simp [lk_ins, lk_cons, allI], by simp [lk_ins], rfl, by simp, by omega, by omega⟩
  · rintro m L h' ⟨j, k1, k2, k4, k6, k7, rfl, hall, hj, rfl⟩
    simp only [c_gleberef16_Next_l0, go_sem, reduceIte, Nat.reduceEqDiff, Nat.reduceAdd, Nat.reduceLeDiff, Nat.reducePow, Nat.reduceDiv, Nat.reduceMod, decide_true, k1, k2, k4, k6, k7, b0, le]
    refine wCond_split (fun cj => ?_) (fun cj => ?_)
    · simp at cj
      obtain ⟨p, hp, hv⟩ := (he.up hX).int_at cj
      have e1 : IntKind.i64.wrap (↑j + 1) = (j : Int) + 1 := wrap_i64 (by omega)
      simp only [go_sem, reduceIte, Nat.reduceEqDiff, Nat.reduceAdd, Nat.reduceLeDiff, Nat.reducePow, Nat.reduceDiv, Nat.reduceMod, decide_true, k1, k2, k4, k6, k7, b0, hp, hv]
      refine use1 hi.1 (hi.2 G _ far y _ (hy.up hX) (by omega)) ?_
      by_cases d3 : x.learners[j] ∈ far
      · have hlen2 := allI_length (x.learners.take j) x.old
        simp only [List.length_take] at hlen2
        have t1 : allI x.old (x.learners.take (j + 1)) = withI (allI x.old (x.learners.take j)) x.learners[j] := by
          rw [List.take_succ_eq_append_getElem cj]; simp only [allI, List.foldl_append, List.foldl_cons, List.foldl_nil]
        simp only [go_sem, reduceIte, Nat.reduceEqDiff, Nat.reduceAdd, Nat.reduceLeDiff, Nat.reducePow, Nat.reduceDiv, Nat.reduceMod, decide_true, decide_eq_true d3, k1, k2, k4, k6, k7, b0, hp, hv]
        refine use1 hw.1 ((With_p hw).2 nof _ _ _ _ (rd_aints _ _ _) (by omega)) ?_
        simp only [go_sem, reduceIte, Nat.reduceEqDiff, Nat.reduceAdd, Nat.reduceLeDiff, Nat.reducePow, Nat.reduceDiv, Nat.reduceMod, decide_true, k1, k2, k4, k6, k7, e1]
        refine ⟨_, by omega, j + 1, by rw [t1], by simp, ?_, cj, rfl⟩
        rw [List.take_succ_eq_append_getElem cj]
        intro n hn2
        rcases List.mem_append.1 hn2 with h3 | h3
        · exact hall n h3
        · simp at h3; rw [h3]; exact d3
      · have e0 : x.next far = (x, false) := by
          have : (x.learners.any fun n => !decide (n ∈ far)) = true := List.any_eq_true.2 ⟨x.learners[j], List.getElem_mem _, by simp [d3]⟩
          simp [Conf.next, Conf.stays, d2', this]
        rw [e0]
        simp only [go_sem, reduceIte, Nat.reduceEqDiff, Nat.reduceAdd, Nat.reduceLeDiff, Nat.reducePow, Nat.reduceDiv, Nat.reduceMod, decide_true, decide_eq_false d3, k1, k2, k4, k6, k7, b0]
        refine use1 hc.1 cpy ?_
        simp only [go_sem, reduceIte, Nat.reduceEqDiff, Nat.reduceAdd, Nat.reduceLeDiff, Nat.reducePow, Nat.reduceDiv, Nat.reduceMod, decide_true, b1, lt, scalar_aints, k4]
        exact ⟨sx _, fzC _ (fz_aints _ _ _) (fz_aints _ _ _) (fz_aints _ _ _)⟩
    · simp at cj
      obtain rfl : j = x.learners.length := by omega
      rw [List.take_length] at hall k6
      rw [join_eq rs.2.1 rs.2.2.2.1 (fun m hm => (rs.2.2.2.2.2.2.2 m hm).1)] at k6
      have e0 : x.next far = (⟨x.old, sorted (x.old ++ x.learners), []⟩, true) := by
        have : (x.learners.any fun n => !decide (n ∈ far)) = false := by
          rw [← Bool.not_eq_true, List.any_eq_true]
          rintro ⟨n, h3, h4⟩
          simp [hall n h3] at h4
        simp [Conf.next, Conf.stays, d0, d1, d2', this]
      rw [e0]
      simp only [go_sem, reduceIte, Nat.reduceEqDiff, Nat.reduceAdd, Nat.reduceLeDiff, Nat.reducePow, Nat.reduceDiv, Nat.reduceMod, decide_true, k1, k2, k4, k6, k7, b0]
      refine use1 hk.1 (hk.g (ho.up hX) (by omega)) ?_
      simp only [go_sem, reduceIte, Nat.reduceEqDiff, Nat.reduceAdd, Nat.reduceLeDiff, Nat.reducePow, Nat.reduceDiv, Nat.reduceMod, decide_true, b1, lt, scalar_aints, cells_aints, k4, k6]
      exact ⟨sx _, fzC _ (fz_aints _ _ _) (fz_aints _ _ _) (fz_nils _ _)⟩

end Glb

/-
  Plain facts on steps: what they answer is right, and safe.
-/
namespace Glb
open Go
set_option maxRecDepth 10000
set_option maxHeartbeats 4000000

theorem rise_iff : ∀ {l : List Int} {p : Option Int}, rise p l = true ↔ Rises l ∧ (∀ y, p = some y → ∀ m ∈ l, y < m) ∧ ∀ m ∈ l, 1 ≤ m ∧ m ≤ 7
  | l, p => by
    refine ⟨rise_spec, ?_⟩
    induction l generalizing p with
    | nil => intro _; rfl
    | cons x r ih =>
      rintro ⟨h1, h2, h3⟩
      have h4 := List.pairwise_cons.1 h1
      have h5 := h3 x (by simp)
      simp only [rise, Bool.and_eq_true, Bool.not_eq_true', Bool.or_eq_false_iff, decide_eq_false_iff_not]
      refine ⟨⟨⟨by omega, by omega⟩, ?_⟩, ih _ ⟨h4.2, fun y hy m hm => ?_, fun m hm => h3 m (by simp [hm])⟩⟩
      · cases p with
        | none => rfl
        | some y => have := h2 y rfl x (by simp); simp; omega
      · cases hy; exact h4.1 m hm

theorem right_iff {x : Conf} : x.right = true ↔ x.old ≠ [] ∧ (Rises x.old ∧ ∀ m ∈ x.old, 1 ≤ m ∧ m ≤ 7) ∧ (Rises x.new ∧ ∀ m ∈ x.new, 1 ≤ m ∧ m ≤ 7) ∧ (Rises x.learners ∧ ∀ m ∈ x.learners, 1 ≤ m ∧ m ≤ 7) ∧ ∀ m ∈ x.learners, m ∉ x.old ∧ m ∉ x.new := by
  constructor
  · intro h
    obtain ⟨h0, h1, h2, h3, h4, h5, h6, h7⟩ := right_spec h
    exact ⟨fun e => h0 (by rw [e]; rfl), ⟨h1, h4⟩, ⟨h2, h5⟩, ⟨h3, h6⟩, h7⟩
  · rintro ⟨h0, ⟨h1, h4⟩, ⟨h2, h5⟩, ⟨h3, h6⟩, h7⟩
    have r1 : rise none x.old = true := rise_iff.2 ⟨h1, by simp, h4⟩
    have r2 : rise none x.new = true := rise_iff.2 ⟨h2, by simp, h5⟩
    have r3 : rise none x.learners = true := rise_iff.2 ⟨h3, by simp, h6⟩
    have r4 : x.learners.any x.votes = false := by
      rw [← Bool.not_eq_true, List.any_eq_true]
      rintro ⟨n, g1, g2⟩
      have := h7 n g1
      simp [Conf.votes, this.1, this.2] at g2
    have r0 : x.old.length ≠ 0 := fun e => h0 (List.eq_nil_of_length_eq_zero e)
    simp [Conf.right_eq, r0, r1, r2, r3, r4]

/-- two members' lists with a list in common: who is enough there -/
def Safe (x y : Conf) : Prop := y.right = true ∧ y ≠ x ∧ ∃ l : List Int, (∀ n ∈ l, n ∈ x.voters ∧ n ∈ y.voters) ∧ (∀ a, x.won a = true → enough l a = true) ∧ ∀ b, y.won b = true → enough l b = true

theorem add_ok {x : Conf} {n : Int} (h : (x.add n).2 = 0) : x.may n = 0 ∧ n ∉ x.old ∧ (x.add n).1 = ⟨x.old, [], [n]⟩ := by
  unfold Conf.add at h ⊢
  split at h
  · rename_i h1; exact absurd h h1
  · rename_i h1
    split at h
    · simp at h
    · rename_i h2
      rw [if_neg h1, if_neg h2]
      exact ⟨by simpa using h1, h2, rfl⟩
theorem drop_ok {x : Conf} {n : Int} (h : (x.drop n).2 = 0) : x.may n = 0 ∧ n ∈ x.old ∧ x.old.length ≠ 1 ∧ (x.drop n).1 = ⟨x.old, x.old.filter (fun m => !decide (m = n)), []⟩ := by
  unfold Conf.drop at h ⊢
  split at h
  · rename_i h1; exact absurd h h1
  · rename_i h1
    split at h
    · simp at h
    · rename_i h2
      split at h
      · simp at h
      · rename_i h3
        rw [if_neg h1, if_neg h2, if_neg h3]
        exact ⟨by simpa using h1, by simpa using h2, h3, rfl⟩

theorem count_one {n : Int} : ∀ {l : List Int}, l.Nodup → n ∈ l → l.count n = 1
  | [], _, h => by cases h
  | x :: r, hd, h => by
    have h1 := List.nodup_cons.1 hd
    by_cases e : x = n
    · subst e; simp [List.count_eq_zero_of_not_mem h1.1]
    · rw [List.count_cons_of_ne e]
      exact count_one h1.2 ((List.mem_cons.1 h).resolve_left fun q => e q.symm)

theorem filter_len {l : List Int} {n : Int} (h : Rises l) (hn : n ∈ l) : (l.filter fun m => !decide (m = n)).length + 1 = l.length := by
  have h1 := List.length_eq_countP_add_countP (fun m => decide (m = n)) (l := l)
  have h2 : l.countP (fun m => decide (m = n)) = 1 := by
    have := count_one h.nodup hn
    rw [List.count] at this
    rw [← this]; congr 1
  rw [← List.countP_eq_length_filter, h1, h2, Nat.add_comm]
  congr 2; funext m; simp

theorem add_safe {x : Conf} {n : Int} (h : (x.add n).2 = 0) : x.right = true ∧ Safe x (x.add n).1 := by
  obtain ⟨h1, h2, h3⟩ := add_ok h
  obtain ⟨r, n1, n7, e1, e2⟩ := may_zero h1
  obtain ⟨g0, g1, _, _, _⟩ := right_iff.1 r
  refine ⟨r, ?_⟩
  rw [h3]
  refine ⟨right_iff.2 ⟨g0, g1, ⟨List.Pairwise.nil, by simp⟩, ⟨List.pairwise_singleton _ _, by simp; omega⟩, by simp; exact h2⟩, fun e => ?_, x.old, fun m hm => ⟨mem_voters.2 (.inl hm), mem_voters.2 (.inl hm)⟩, fun a ha => won_old ha, fun b hb => by have := won_old hb; exact this⟩
  have := congrArg Conf.learners e
  rw [e2] at this
  simp at this

theorem drop_safe {x : Conf} {n : Int} (h : (x.drop n).2 = 0) : x.right = true ∧ Safe x (x.drop n).1 := by
  obtain ⟨h1, h2, h3, h4⟩ := drop_ok h
  obtain ⟨r, n1, n7, e1, e2⟩ := may_zero h1
  obtain ⟨g0, g1, _, _, _⟩ := right_iff.1 r
  refine ⟨r, ?_⟩
  rw [h4]
  have fl := filter_len g1.1 h2
  refine ⟨right_iff.2 ⟨g0, g1, ⟨g1.1.filter _, fun m hm => g1.2 m (List.mem_filter.1 hm).1⟩, ⟨List.Pairwise.nil, by simp⟩, by simp⟩, fun e => ?_, x.old, fun m hm => ⟨mem_voters.2 (.inl hm), mem_voters.2 (.inl hm)⟩, fun a ha => won_old ha, fun b hb => by have := won_old hb; exact this⟩
  have := congrArg (fun y => (Conf.new y).length) e
  rw [e1] at this
  simp only [List.length_nil] at this
  omega

theorem stays_false {x : Conf} {far : List Int} (h : x.stays far = false) : x.right = true ∧ x.busy = true ∧ (x.new = [] → ∀ n ∈ x.learners, n ∈ far) := by
  simp only [Conf.stays, Bool.or_eq_false_iff, Bool.and_eq_false_iff, Bool.not_eq_false', decide_eq_false_iff_not] at h
  refine ⟨h.1.1, h.1.2, fun e n hn => ?_⟩
  rcases h.2 with h2 | h2
  · exact absurd (by rw [e]; rfl) h2
  · rw [← Bool.not_eq_true, List.any_eq_true] at h2
    exact Classical.byContradiction fun hc => h2 ⟨n, hn, by simp [hc]⟩

theorem next_ok {x : Conf} {far : List Int} (h : (x.next far).2 = true) : x.right = true ∧ x.busy = true ∧ ((x.new ≠ [] ∧ (x.next far).1 = ⟨x.new, [], []⟩) ∨ (x.new = [] ∧ x.learners ≠ [] ∧ (x.next far).1 = ⟨x.old, sorted (x.old ++ x.learners), []⟩)) := by
  unfold Conf.next at h ⊢
  split at h
  · cases h
  · rename_i h1
    rw [if_neg h1]
    simp only [Bool.not_eq_true] at h1
    obtain ⟨s1, s2, s3⟩ := stays_false h1
    refine ⟨s1, s2, ?_⟩
    by_cases c : 0 < x.new.length
    · rw [if_pos c]; exact .inl ⟨by rintro e; rw [e] at c; simp at c, rfl⟩
    · rw [if_neg c]
      have : x.new = [] := List.eq_nil_of_length_eq_zero (by omega)
      refine .inr ⟨this, ?_, rfl⟩
      rintro e
      simp [Conf.busy, this, e] at s2

theorem joint_right {x : Conf} (r : x.right = true) : Rises (sorted (x.old ++ x.learners)) ∧ ∀ m ∈ sorted (x.old ++ x.learners), 1 ≤ m ∧ m ≤ 7 := by
  obtain ⟨g0, g1, g2, g3, g4⟩ := right_iff.1 r
  refine ⟨sorted_rises (List.nodup_append.2 ⟨g1.1.nodup, g3.1.nodup, fun a ha b hb e => (g4 b hb).1 (e ▸ ha)⟩), fun m hm => ?_⟩
  rcases List.mem_append.1 ((sorted_perm _).mem_iff.1 hm) with h | h
  · exact g1.2 m h
  · exact g3.2 m h

theorem next_safe {x : Conf} {far : List Int} (h : (x.next far).2 = true) : x.right = true ∧ Safe x (x.next far).1 := by
  obtain ⟨r, b, c⟩ := next_ok h
  obtain ⟨g0, g1, g2, g3, g4⟩ := right_iff.1 r
  refine ⟨r, ?_⟩
  rcases c with ⟨c1, c2⟩ | ⟨c1, c2, c3⟩
  · rw [c2]
    refine ⟨right_iff.2 ⟨c1, g2, ⟨List.Pairwise.nil, by simp⟩, ⟨List.Pairwise.nil, by simp⟩, by simp⟩, fun e => c1 (congrArg Conf.new e).symm, x.new, fun m hm => ⟨mem_voters.2 (.inr hm), mem_voters.2 (.inl hm)⟩, fun a ha => won_new ha c1, fun b hb => by have := won_old hb; exact this⟩
  · rw [c3]
    refine ⟨right_iff.2 ⟨g0, g1, joint_right r, ⟨List.Pairwise.nil, by simp⟩, by simp⟩, fun e => ?_, x.old, fun m hm => ⟨mem_voters.2 (.inl hm), mem_voters.2 (.inl hm)⟩, fun a ha => won_old ha, fun b hb => by have := won_old hb; exact this⟩
    have := congrArg (fun y => (Conf.learners y).length) e
    simp only [List.length_nil] at this
    exact c2 (List.eq_nil_of_length_eq_zero this.symm)

/-! the numbers that are in two lists -/

def bothI (a b : List Int) : List Int := a.flatMap fun x => List.replicate (b.count x) x
theorem bothI_more {a : List Int} {i : Nat} (hi : i < a.length) (b : List Int) : bothI (a.take (i + 1)) b = bothI (a.take i) b ++ List.replicate (b.count a[i]) a[i] := by
  rw [List.take_succ_eq_append_getElem hi]
  simp only [bothI, List.flatMap_append, List.flatMap_cons, List.flatMap_nil, List.append_nil]
theorem bothI_le (b : List Int) : ∀ a : List Int, (bothI a b).length ≤ a.length * b.length
  | [] => by simp [bothI]
  | x :: r => by
    have h1 := bothI_le b r
    have h2 : b.count x ≤ b.length := List.count_le_length
    simp only [bothI, List.flatMap_cons, List.length_append, List.length_replicate, List.length_cons] at h1 ⊢
    rw [Nat.add_mul]; omega
theorem mem_both {a b : List Int} {n : Int} : n ∈ bothI a b ↔ n ∈ a ∧ n ∈ b := by
  simp only [bothI, List.mem_flatMap, List.mem_replicate, ne_eq]
  constructor
  · rintro ⟨x, h1, h2, rfl⟩
    exact ⟨h1, List.count_pos_iff.1 (by omega)⟩
  · rintro ⟨h1, h2⟩
    exact ⟨n, h1, by have := List.count_pos_iff.2 h2; omega, rfl⟩
theorem both_count {b : List Int} (hb : b.Nodup) : ∀ a : List Int, (bothI a b).length = a.countP fun n => decide (n ∈ b)
  | [] => by simp [bothI]
  | x :: r => by
    have h1 := both_count hb r
    simp only [bothI, List.flatMap_cons, List.length_append, List.length_replicate, List.countP_cons] at h1 ⊢
    rw [h1, Nat.add_comm]
    congr 1
    by_cases hx : x ∈ b
    · simp [hx, count_one hb hx]
    · simp [hx, List.count_eq_zero_of_not_mem hx]

theorem safe_both {x y : Conf} (h : Safe x y) {a b : List Int} (ha : x.won a = true) (hb : y.won b = true) : bothI (bothI a b) (bothI x.voters y.voters) ≠ [] := by
  obtain ⟨_, _, l, h1, h2, h3⟩ := h
  obtain ⟨n, n1, n2, n3⟩ := enough_meet (h2 a ha) (h3 b hb)
  intro e
  have : n ∈ bothI (bothI a b) (bothI x.voters y.voters) := mem_both.2 ⟨mem_both.2 ⟨n2, n3⟩, mem_both.2 (h1 n n1)⟩
  rw [e] at this
  cases this

end Glb
