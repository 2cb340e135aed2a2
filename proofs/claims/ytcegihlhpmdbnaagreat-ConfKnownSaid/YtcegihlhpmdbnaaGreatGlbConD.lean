/-
  A library of its own: its parts, one behind the other.
-/
import Derived.Test.YtcegihlhpmdbnaaGreatGlbConC
import Derived.Test.YtcegihlhpmdbnaaGreatGlbQuoC
import Derived.Test.YtcegihlhpmdbnaaGreatGlbConA
import Derived.Shelf.Slices.Clone
set_option linter.unusedSimpArgs false
set_option linter.unusedVariables false
/-
  A node comes and goes: the law.
-/
namespace Glb
open Go
set_option maxRecDepth 10000
set_option maxHeartbeats 16000000

theorem comes_ok {P : Program} {f fb fw fa fn fm fd fs : FuncId} (hf : Is P f (c_glebelaw16_ConfComes fb fw fa fn fm fd fs)) (hb : BigConfOk P fb) (hw : YesOk P fw) (ha : StepP P fa Conf.add) (hn : NextP P fn) (hm : BothOk P fm) (hd : StepP P fd Conf.drop) (hs : SameConfOk P fs)
    (x : Conf) (n : Int) (h : AHeap) : ACalls P f [.agg x.v, .int .i64 n] h fun r _ => r = .bool true := by
  refine fun_sound hf.1 (Nat.le_of_ble_eq_true rfl) ?_
  show vc P (c_glebelaw16_ConfComes fb fw fa fn fm fd fs).code ⟨[(0, .agg x.v), (1, .int .i64 n)], [], h⟩ (atEnd (c_glebelaw16_ConfComes fb fw fa fn fm fd fs).res _)
  have yes : ∀ {h : AHeap} {K : AV → AHeap → Prop}, K (.bool true) h → wCall P fw [] h K := fun hK => wCall_use ⟨hw.1, hw.2 _⟩ (by rintro _ _ ⟨rfl, rfl⟩; exact hK)
  have hx : ∀ (x : Conf) h, RdL nof h x.c [aints x.old, aints x.new, aints x.learners] := fun x h => by simpa only [Conf.v_eq] using rd_confv nof h x
  simp only [c_glebelaw16_ConfComes, Conf.v_eq, go_sem, reduceIte, Nat.reduceEqDiff, Nat.reduceAdd, Nat.reduceLeDiff, Nat.reducePow, Nat.reduceDiv, Nat.reduceMod, decide_true, scalar_aints]
  refine wCall_use ⟨hb.1, hb.2 nof _ x _ 300 (hx x _)⟩ ?_
  rintro _ _ ⟨bb, rfl, rfl, hbb⟩
  cases bb
  rotate_left
  · simp only [go_sem, reduceIte, Nat.reduceEqDiff, Nat.reduceAdd, Nat.reduceLeDiff, Nat.reducePow, Nat.reduceDiv, Nat.reduceMod, decide_true]
    refine yes ?_
    simp only [go_sem, reduceIte, Nat.reduceEqDiff, Nat.reduceAdd, Nat.reduceLeDiff, Nat.reducePow, Nat.reduceDiv, Nat.reduceMod, decide_true]
  obtain ⟨l1, l2, l3⟩ := hbb rfl
  have few1 : x.few (2^38) := ⟨by omega, by omega, by omega⟩
  have few2 : x.few (2^40) := ⟨by omega, by omega, by omega⟩
  have qa := fun H => ha.2 nof H x _ n (hx x H) few1
  have qd := fun H => hd.2 nof H x _ n (hx x H) few1
  simp only [Conf.v_eq] at qa qd
  have fa := @comes_facts x n
  have fg := @goes_facts x n
  generalize hA : x.add n = A at *
  generalize hD : x.drop n = D at *
  obtain ⟨y, e⟩ := A
  obtain ⟨w, g⟩ := D
  simp only at fa fg qa qd
  simp only [go_sem, reduceIte, Nat.reduceEqDiff, Nat.reduceAdd, Nat.reduceLeDiff, Nat.reducePow, Nat.reduceDiv, Nat.reduceMod, decide_true]
  refine use1 ha.1 (qa _) ?_
  simp only [go_sem, reduceIte, Nat.reduceEqDiff, Nat.reduceAdd, Nat.reduceLeDiff, Nat.reducePow, Nat.reduceDiv, Nat.reduceMod, decide_true, scalar_aints]
  by_cases c : e = 0
  focus
    obtain ⟨d, f1, f2, f3, f4, f5, f6, f7, f8, f9, f10, f11⟩ := fa c
    subst f1
    obtain ⟨dold, dnew, dlearners⟩ := d
    simp only at f5 f6
    subst f5 f6
    simp only at f2 f3 f4 f7 f8 f9 f10 f11
    have q1 := fun H b (hb : Rd (fun _ => True) H (dInts all7) b) => hn.2 nof (fun _ => True) H ⟨x.old, [], [n]⟩ all7 _ b (hx _ H) hb ⟨by simp only; omega, by simp, by simp⟩ (by simp [all7])
    have q2 := fun H => hn.2 nof nof H ⟨x.old, dold, []⟩ [] _ .nils (hx _ H) (Rd.nils 1) ⟨by simp only; omega, by simp only; omega, by simp⟩ (by simp)
    have q3 := fun H b (hb : Rd (fun _ => True) H (dInts all7) b) => hn.2 nof (fun _ => True) H ⟨dold, [], []⟩ all7 _ b (hx _ H) hb ⟨by simp only; omega, by simp, by simp⟩ (by simp [all7])
    have q4 := fun H => hd.2 nof H ⟨dold, [], []⟩ _ n (hx _ H) ⟨by simp only; omega, by simp, by simp⟩
    have q5 := fun H => hn.2 nof nof H ⟨dold, x.old, []⟩ [] _ .nils (hx _ H) (Rd.nils 1) ⟨by simp only; omega, by simp only; omega, by simp⟩ (by simp)
    rw [f2] at q1
    rw [f3] at q2
    rw [f4] at q3
    rw [f10] at q4
    rw [f11] at q5
    simp only [Conf.v_eq] at q1 q2 q3 q4 q5
    simp only [go_sem, reduceIte, Nat.reduceEqDiff, Nat.reduceAdd, Nat.reduceLeDiff, Nat.reducePow, Nat.reduceDiv, Nat.reduceMod, decide_true, decide_eq_true c]
    refine use1 hn.1 (q1 _ _ (rd_row rfl (bx31 _ _ _ _))) ?_
    simp only [go_sem, reduceIte, Nat.reduceEqDiff, Nat.reduceAdd, Nat.reduceLeDiff, Nat.reducePow, Nat.reduceDiv, Nat.reduceMod, decide_true, scalar_aints]
    refine use1 hn.1 (q2 _) ?_
    simp only [go_sem, reduceIte, Nat.reduceEqDiff, Nat.reduceAdd, Nat.reduceLeDiff, Nat.reducePow, Nat.reduceDiv, Nat.reduceMod, decide_true, scalar_aints]
    have nr := fun (m : Nat) (hm : m < h.length + 1 + 1 + 1 + 1 + 1 + 1) (o : Nat) => (show notRes (h.length + 1 + 1 + 1 + 1 + 1 + 1) 1 (.ptr m 3 0 o) = true by simp [notRes]; omega)
    have nr0 := nr h.length (by omega)
    have nr4 := nr (h.length + 1 + 1 + 1 + 1) (by omega)
    clear nr
    have z0 : decide ((0 : Int) < ((0 : Nat) : Int)) = false := rfl
    have e1 : IntKind.i64.wrap ((x.old.length : Int) + 1) = (dold.length : Int) := by rw [wrap_i64 (by omega)]; omega
    refine use1 hn.1 (q3 _ _ (rd_row rfl (by simp only [go_sem, reduceIte, Nat.reduceEqDiff, Nat.reduceAdd, Nat.reduceLeDiff, Nat.reducePow, Nat.reduceDiv, Nat.reduceMod, decide_true]; rfl))) ?_
    simp only [go_sem, reduceIte, Nat.reduceEqDiff, Nat.reduceAdd, Nat.reduceLeDiff, Nat.reducePow, Nat.reduceDiv, Nat.reduceMod, decide_true, scalar_aints, nr0, nr4, true_and, z0, len_aints, e1]
    refine use1 hm.1 (hm.2 nof (fun _ => True) _ dold [n] _ _ (rd_aints _ _ _) (rd_row rfl (by simp only [go_sem, reduceIte, Nat.reduceEqDiff, Nat.reduceAdd, Nat.reduceLeDiff, Nat.reducePow, Nat.reduceDiv, Nat.reduceMod, decide_true]; rfl)) (by omega) (by simp)) ?_
    have f8' : ((bothI dold [n]).length : Int) = 1 := by omega
    have f9' : ((bothI dold x.old).length : Int) = (x.old.length : Int) := by omega
    simp only [go_sem, reduceIte, Nat.reduceEqDiff, Nat.reduceAdd, Nat.reduceLeDiff, Nat.reducePow, Nat.reduceDiv, Nat.reduceMod, decide_true, scalar_aints, nr0, nr4, true_and, Bool.or_true, Bool.and_self, z0, len_aints, e1, f8']
    refine use1 hm.1 (hm.2 nof nof _ dold x.old _ _ (rd_aints _ _ _) (rd_aints _ _ _) (by omega) (by omega)) ?_
    simp only [go_sem, reduceIte, Nat.reduceEqDiff, Nat.reduceAdd, Nat.reduceLeDiff, Nat.reducePow, Nat.reduceDiv, Nat.reduceMod, decide_true, scalar_aints, nr0, nr4, true_and, Bool.or_true, Bool.and_self, z0, len_aints, e1, f8', f9']
    refine use1 hd.1 (q4 _) ?_
    simp only [go_sem, reduceIte, Nat.reduceEqDiff, Nat.reduceAdd, Nat.reduceLeDiff, Nat.reducePow, Nat.reduceDiv, Nat.reduceMod, decide_true, scalar_aints]
    refine use1 hn.1 (q5 _) ?_
    simp only [go_sem, reduceIte, Nat.reduceEqDiff, Nat.reduceAdd, Nat.reduceLeDiff, Nat.reducePow, Nat.reduceDiv, Nat.reduceMod, decide_true, scalar_aints]
    refine use1 hs.1 (hs.2 nof nof _ x x _ _ (hx x _) (hx x _) few2) ?_
    simp only [go_sem, reduceIte, Nat.reduceEqDiff, Nat.reduceAdd, Nat.reduceLeDiff, Nat.reducePow, Nat.reduceDiv, Nat.reduceMod, decide_true, decide_true, Bool.not_true]
    obtain ⟨H, hH⟩ : ∃ H, H = h ++ [some (ABlk.arr 3 [[aints x.old, aints x.new, aints x.learners]] false)] ++ [some (ABlk.arr 1 [[AV.int IntKind.i64 1], [AV.int IntKind.i64 2], [AV.int IntKind.i64 3], [AV.int IntKind.i64 4], [AV.int IntKind.i64 5], [AV.int IntKind.i64 6], [AV.int IntKind.i64 7]] false)] ++ [some (ABlk.arr 3 [[aints x.old, aints [], aints [n]]] false)] ++ [some (ABlk.arr 3 [[aints x.old, aints dold, aints []]] false)] ++ [some (ABlk.arr 3 [[aints dold, aints [], aints []]] false)] ++ [some (ABlk.arr 3 [[aints dold, aints [], aints []]] false)] ++ [some (ABlk.arr 1 [[AV.int IntKind.i64 n]] false)] ++ [some (ABlk.arr 3 [[aints dold, aints x.old, aints []]] false)] ++ [some (ABlk.arr 3 [[aints x.old, aints x.new, aints x.learners]] false)] := ⟨_, rfl⟩
    have B0 : H[h.length]? = some (some (ABlk.arr 3 [[aints x.old, aints x.new, aints x.learners]] false)) := by rw [hH]; simp only [go_sem, reduceIte, Nat.reduceEqDiff, Nat.reduceAdd, Nat.reduceLeDiff, Nat.reducePow, Nat.reduceDiv, Nat.reduceMod, decide_true]
    have B2 : H[h.length + 1 + 1]? = some (some (ABlk.arr 3 [[aints x.old, aints [], aints [n]]] false)) := by rw [hH]; simp only [go_sem, reduceIte, Nat.reduceEqDiff, Nat.reduceAdd, Nat.reduceLeDiff, Nat.reducePow, Nat.reduceDiv, Nat.reduceMod, decide_true]
    have Bl : h.length + 1 + 1 < H.length := by rw [hH]; simp only [len_app1]; omega
    rw [← hH]
    clear hH
  rotate_left
  focus
    simp only [go_sem, reduceIte, Nat.reduceEqDiff, Nat.reduceAdd, Nat.reduceLeDiff, Nat.reducePow, Nat.reduceDiv, Nat.reduceMod, decide_true, decide_eq_false c]
    obtain ⟨H, hH⟩ : ∃ H, H = h ++ [some (ABlk.arr 3 [[aints x.old, aints x.new, aints x.learners]] false)] ++ [some (ABlk.arr 1 [[AV.int IntKind.i64 1], [AV.int IntKind.i64 2], [AV.int IntKind.i64 3], [AV.int IntKind.i64 4], [AV.int IntKind.i64 5], [AV.int IntKind.i64 6], [AV.int IntKind.i64 7]] false)] ++ [some (ABlk.arr 3 [[aints y.old, aints y.new, aints y.learners]] false)] := ⟨_, rfl⟩
    have B0 : H[h.length]? = some (some (ABlk.arr 3 [[aints x.old, aints x.new, aints x.learners]] false)) := by rw [hH]; simp only [go_sem, reduceIte, Nat.reduceEqDiff, Nat.reduceAdd, Nat.reduceLeDiff, Nat.reducePow, Nat.reduceDiv, Nat.reduceMod, decide_true]
    have B2 : H[h.length + 1 + 1]? = some (some (ABlk.arr 3 [[aints y.old, aints y.new, aints y.learners]] false)) := by rw [hH]; simp only [go_sem, reduceIte, Nat.reduceEqDiff, Nat.reduceAdd, Nat.reduceLeDiff, Nat.reducePow, Nat.reduceDiv, Nat.reduceMod, decide_true]
    have Bl : h.length + 1 + 1 < H.length := by rw [hH]; simp
    rw [← hH]
    clear hH
  rotate_left
  all_goals
    refine use1 hd.1 (qd _) ?_
    simp only [go_sem, reduceIte, Nat.reduceEqDiff, Nat.reduceAdd, Nat.reduceLeDiff, Nat.reducePow, Nat.reduceDiv, Nat.reduceMod, decide_true, scalar_aints, B2]
    by_cases c2 : g = 0
    rotate_left
    · simp only [go_sem, reduceIte, Nat.reduceEqDiff, Nat.reduceAdd, Nat.reduceLeDiff, Nat.reducePow, Nat.reduceDiv, Nat.reduceMod, decide_true, decide_eq_false c2]
      refine yes ?_
      simp only [go_sem, reduceIte, Nat.reduceEqDiff, Nat.reduceAdd, Nat.reduceLeDiff, Nat.reducePow, Nat.reduceDiv, Nat.reduceMod, decide_true]
    obtain ⟨d, f1, f2, f3, f4, f5, f6, f7⟩ := fg c2
    subst f1
    obtain ⟨dold, dnew, dlearners⟩ := d
    simp only at f3 f4
    subst f3 f4
    simp only at f2 f5 f6 f7
    have q1 := fun H => hn.2 nof nof H ⟨x.old, dold, []⟩ [] _ .nils (hx _ H) (Rd.nils 1) ⟨by simp only; omega, by simp only; omega, by simp⟩ (by simp)
    rw [f2] at q1
    simp only [Conf.v_eq] at q1
    have C0 : (H.set (h.length + 1 + 1) (some (ABlk.arr 3 [[aints x.old, aints dold, aints []]] false)))[h.length]? = _ := (List.getElem?_set_ne (by omega)).trans B0
    have C2 : (H.set (h.length + 1 + 1) (some (ABlk.arr 3 [[aints x.old, aints dold, aints []]] false)))[h.length + 1 + 1]? = _ := List.getElem?_set_self Bl
    have Cl : h.length + 1 + 1 < (H.set (h.length + 1 + 1) (some (ABlk.arr 3 [[aints x.old, aints dold, aints []]] false))).length := by simpa using Bl
    generalize H.set (h.length + 1 + 1) (some (ABlk.arr 3 [[aints x.old, aints dold, aints []]] false)) = H1 at *
    simp only [go_sem, reduceIte, Nat.reduceEqDiff, Nat.reduceAdd, Nat.reduceLeDiff, Nat.reducePow, Nat.reduceDiv, Nat.reduceMod, decide_true, decide_eq_true c2, C2]
    refine use1 hn.1 (q1 _) ?_
    have D0 : ∀ a, (H1 ++ [a])[h.length]? = _ := fun a => (Ext.b1 a).get C0
    have E0 : ∀ a b, (H1 ++ [a] ++ [b])[h.length]? = _ := fun a b => (Ext.b2 a b).get C0
    have z0 : decide ((0 : Int) < ((0 : Nat) : Int)) = false := rfl
    have e1 : IntKind.i64.wrap ((x.old.length : Int) - 1) = (dold.length : Int) := by rw [wrap_i64 (by omega)]; omega
    have f6' : ((bothI dold [n]).length : Int) = 0 := by omega
    have f7' : ((bothI dold x.old).length : Int) = (dold.length : Int) := by omega
    have nr0 := fun o => (show notRes (H1.length + 1) 1 (.ptr h.length 3 0 o) = true by simp [notRes]; omega)
    have nr1 := fun o => (show notRes (H1.length + 1) 1 (.ptr H1.length 3 0 o) = true by simp [notRes])
    simp only [go_sem, reduceIte, Nat.reduceEqDiff, Nat.reduceAdd, Nat.reduceLeDiff, Nat.reducePow, Nat.reduceDiv, Nat.reduceMod, decide_true, scalar_aints, D0, E0, nr0, nr1, true_and, Bool.or_true, Bool.and_self, z0, len_aints, e1]
    refine use1 hm.1 (hm.2 nof (fun _ => True) _ dold [n] _ _ (rd_aints _ _ _) (rd_row rfl (by simp only [go_sem, reduceIte, Nat.reduceEqDiff, Nat.reduceAdd, Nat.reduceLeDiff, Nat.reducePow, Nat.reduceDiv, Nat.reduceMod, decide_true]; rfl)) (by omega) (by simp)) ?_
    simp only [go_sem, reduceIte, Nat.reduceEqDiff, Nat.reduceAdd, Nat.reduceLeDiff, Nat.reducePow, Nat.reduceDiv, Nat.reduceMod, decide_true, scalar_aints, D0, E0, nr0, nr1, true_and, Bool.or_true, Bool.and_self, z0, len_aints, e1, f6']
    refine use1 hm.1 (hm.2 nof nof _ dold x.old _ _ (rd_aints _ _ _) (rd_aints _ _ _) (by omega) (by omega)) ?_
    simp only [go_sem, reduceIte, Nat.reduceEqDiff, Nat.reduceAdd, Nat.reduceLeDiff, Nat.reducePow, Nat.reduceDiv, Nat.reduceMod, decide_true, scalar_aints, D0, E0, nr0, nr1, true_and, Bool.or_true, Bool.and_self, z0, len_aints, e1, f6', f7']
    refine yes ?_
    simp only [go_sem, reduceIte, Nat.reduceEqDiff, Nat.reduceAdd, Nat.reduceLeDiff, Nat.reducePow, Nat.reduceDiv, Nat.reduceMod, decide_true]

end Glb

/-
  Steps as the document says, in new memory: the law.
-/
namespace Glb
open Go
set_option maxRecDepth 10000
set_option maxHeartbeats 16000000

def SpoilConfOk (P : Program) (f : FuncId) : Prop :=
  isFn P f = true ∧ ∀ (F : Nat → Prop) (h : AHeap) (x : Conf) (cs : List AV), OwnL x.c F h cs → x.few (2^40) → (∀ m, F m → m < h.length) → ACalls P f [.agg cs] h fun _ h' => Ext F h h'

theorem SpoilConf_ok {P : Program} {f g : FuncId} (hf : Is P f (c_glebekit_SpoilConf g)) (hg : SpoilOk P g (.sl 1 [.int .i64])) : SpoilConfOk P f := by
  refine ⟨hf.2, fun F h x cs ho hx hF => fun_sound hf.1 (Nat.le_of_ble_eq_true rfl) ?_⟩
  show vc P (c_glebekit_SpoilConf g).code ⟨[(0, .agg cs)], [], h⟩ (atEnd (c_glebekit_SpoilConf g).res _)
  obtain ⟨o, n, e, rfl, h1, h2, h3⟩ := own_confL ho
  have t1 := OwnT.mono (F' := F) _ (fun _ h => h) ((Ext.b1 (some (.arr 3 [[o, n, e]] false))).keep F) _ (own_int_ty h1 hx.1)
  have t2 := OwnT.mono (F' := F) _ (fun _ h => h) ((Ext.b1 (some (.arr 3 [[o, n, e]] false))).keep F) _ (own_int_ty h2 hx.2.1)
  have t3 := OwnT.mono (F' := F) _ (fun _ h => h) ((Ext.b1 (some (.arr 3 [[o, n, e]] false))).keep F) _ (own_int_ty h3 hx.2.2)
  have B := bx10 h (some (.arr 3 [[o, n, e]] false))
  have hX := (Ext.b1 (h := h) (some (.arr 3 [[o, n, e]] false)))
  have hl := hX.1
  have nF : ¬ F h.length := fun hq => by have := hF _ hq; omega
  simp only [c_glebekit_SpoilConf, go_sem, reduceIte, Nat.reduceEqDiff, Nat.reduceAdd, Nat.reduceLeDiff, Nat.reducePow, Nat.reduceDiv, Nat.reduceMod, decide_true, h1.scalar, h2.scalar, h3.scalar]
  generalize h ++ [some (ABlk.arr 3 [[o, n, e]] false)] = H0 at *
  refine wCall_use ⟨hg.1, hg.2 F _ _ t1⟩ ?_
  rintro _ H1 ⟨x1, p1⟩
  have hlt := (List.getElem?_eq_some_iff.1 B).1
  have B1 : H1[h.length]? = _ := (x1.2 _ hlt nF).trans B
  simp only [go_sem, reduceIte, Nat.reduceEqDiff, Nat.reduceAdd, Nat.reduceLeDiff, Nat.reducePow, Nat.reduceDiv, Nat.reduceMod, decide_true, B1]
  refine wCall_use ⟨hg.1, hg.2 F _ _ (p1.1 _ _ _ t2)⟩ ?_
  rintro _ H2 ⟨x2, p2⟩
  have hl1 := x1.1
  have B2 : H2[h.length]? = _ := (x2.2 _ (by omega) nF).trans B1
  simp only [go_sem, reduceIte, Nat.reduceEqDiff, Nat.reduceAdd, Nat.reduceLeDiff, Nat.reducePow, Nat.reduceDiv, Nat.reduceMod, decide_true, B2]
  refine wCall_use ⟨hg.1, hg.2 F _ _ (p2.1 _ _ _ (p1.1 _ _ _ t3))⟩ ?_
  rintro _ H3 ⟨x3, p3⟩
  have hl2 := x2.1
  have hl3 := x3.1
  simp only [go_sem, reduceIte, Nat.reduceEqDiff, Nat.reduceAdd, Nat.reduceLeDiff, Nat.reducePow, Nat.reduceDiv, Nat.reduceMod, decide_true]
  refine ⟨by omega, fun m hm hn => ?_⟩
  rw [x3.2 m (by omega) hn, x2.2 m (by omega) hn, x1.2 m (by omega) hn, hX.2 m hm (fun q => q)]

theorem stepd_few {x : Conf} {n : Int} (hx : x.few 300) : (x.add n).1.few 600 ∧ (x.drop n).1.few 600 := by
  have h1 := sizes_step (how := 0) (n := n) (far := []) hx
  have h2 := sizes_step (how := 1) (n := n) (far := []) hx
  exact ⟨h1, h2⟩
theorem next_few {x : Conf} {far : List Int} (hx : x.few 300) : (x.next far).1.few 600 := sizes_step (how := 2) (n := 0) (far := far) hx

theorem Own.in {ds : List D} {F : Nat → Prop} {h : AHeap} {l : List AV} (ho : OwnL ds F h l) : OwnL ds (fun m => F m ∧ m < h.length) h l := OwnL.lt _ _ ho

theorem steps_ok {P : Program} {f fb fw fc fl fa fd fn ra rd rn fs fp fk : FuncId} (hf : Is P f (c_glebelaw16_ConfSteps fb fw fc fl fa fd fn ra rd rn fs fp fk)) (hb : BigConfOk P fb) (hw : YesOk P fw) (hc : CopyConfP P fc) (hl : LentIntsP P fl)
    (ha : StepOk P fa Conf.add) (hd : StepOk P fd Conf.drop) (hn : NextOk P fn) (ha' : StepP P ra Conf.add) (hd' : StepP P rd Conf.drop) (hn' : NextP P rn) (hs : SameConfOk P fs) (hp : SpoilConfOk P fp) (hk : KeptOk P fk)
    (x : Conf) (n : Int) (far : List Int) (h : AHeap) : ACalls P f [.agg x.v, .int .i64 n, aints far] h fun r _ => r = .bool true := by
  refine fun_sound hf.1 (Nat.le_of_ble_eq_true rfl) ?_
  show vc P (c_glebelaw16_ConfSteps fb fw fc fl fa fd fn ra rd rn fs fp fk).code ⟨[(0, .agg x.v), (1, .int .i64 n), (2, aints far)], [], h⟩ (atEnd (c_glebelaw16_ConfSteps fb fw fc fl fa fd fn ra rd rn fs fp fk).res _)
  have yes : ∀ {h : AHeap} {K : AV → AHeap → Prop}, K (.bool true) h → wCall P fw [] h K := fun hK => wCall_use ⟨hw.1, hw.2 _⟩ (by rintro _ _ ⟨rfl, rfl⟩; exact hK)
  have hx : ∀ (x : Conf) h, RdL nof h x.c [aints x.old, aints x.new, aints x.learners] := fun x h => by simpa only [Conf.v_eq] using rd_confv nof h x
  simp only [c_glebelaw16_ConfSteps, Conf.v_eq, go_sem, reduceIte, Nat.reduceEqDiff, Nat.reduceAdd, Nat.reduceLeDiff, Nat.reducePow, Nat.reduceDiv, Nat.reduceMod, decide_true, scalar_aints]
  refine wCall_use ⟨hb.1, hb.2 nof _ x _ 300 (hx x _)⟩ ?_
  rintro _ _ ⟨bb, rfl, rfl, hbb⟩
  cases bb
  rotate_left
  · simp only [go_sem, reduceIte, Nat.reduceEqDiff, Nat.reduceAdd, Nat.reduceLeDiff, Nat.reducePow, Nat.reduceDiv, Nat.reduceMod, decide_true]
    refine yes ?_
    simp only [go_sem, reduceIte, Nat.reduceEqDiff, Nat.reduceAdd, Nat.reduceLeDiff, Nat.reducePow, Nat.reduceDiv, Nat.reduceMod, decide_true]
  obtain ⟨l1, l2, l3⟩ := hbb rfl
  by_cases c1 : (300 : Int) < far.length
  · simp only [go_sem, reduceIte, Nat.reduceEqDiff, Nat.reduceAdd, Nat.reduceLeDiff, Nat.reducePow, Nat.reduceDiv, Nat.reduceMod, decide_true, len_aints, decide_eq_true c1]
    refine yes ?_
    simp only [go_sem, reduceIte, Nat.reduceEqDiff, Nat.reduceAdd, Nat.reduceLeDiff, Nat.reducePow, Nat.reduceDiv, Nat.reduceMod, decide_true]
  have few0 : x.few 300 := ⟨by omega, by omega, by omega⟩
  have few1 : x.few (2^38) := ⟨by omega, by omega, by omega⟩
  have few2 : x.few (2^40) := ⟨by omega, by omega, by omega⟩
  have sa := (stepd_few (n := n) few0).1
  have sd := (stepd_few (n := n) few0).2
  have sn := next_few (far := far) few0
  have ec := hc.2 x few2
  simp only [Conf.v_eq] at ec
  simp only [go_sem, reduceIte, Nat.reduceEqDiff, Nat.reduceAdd, Nat.reduceLeDiff, Nat.reducePow, Nat.reduceDiv, Nat.reduceMod, decide_true, len_aints, decide_eq_false c1]
  refine ec.use hc.1 ?_
  simp only [go_sem, reduceIte, Nat.reduceEqDiff, Nat.reduceAdd, Nat.reduceLeDiff, Nat.reducePow, Nat.reduceDiv, Nat.reduceMod, decide_true, scalar_aints]
  refine (hl.2 far (by omega)).use hl.1 ?_
  simp only [go_sem, reduceIte, Nat.reduceEqDiff, Nat.reduceAdd, Nat.reduceLeDiff, Nat.reducePow, Nat.reduceDiv, Nat.reduceMod, decide_true, scalar_aints]
  have qa := ha.2 nof (h ++ [some (ABlk.arr 3 [[aints x.old, aints x.new, aints x.learners]] false)] ++ [some (ABlk.arr 3 [[aints x.old, aints x.new, aints x.learners]] false)]) x _ n (hx x _) few1
  have qd := fun H => hd.2 nof H x _ n (hx x H) few1
  obtain ⟨b, hb1, hb2⟩ := aints_slice (lent far) far.length (by simp [lent])
  have t1 : (lent far).take far.length = far := by simp [lent]
  rw [t1] at hb2
  have qn := fun H => hn.2 nof nof H x far _ b (hx x H) (hb2 _ _) few1 (by omega)
  have ra' := fun H => ha'.2 nof H x _ n (hx x H) few1
  have rd' := fun H => hd'.2 nof H x _ n (hx x H) few1
  have rn' := fun H => hn'.2 nof nof H x far _ _ (hx x H) (rd_aints _ _ far) few1 (by omega)
  simp only [Conf.v_eq] at ra' rd' rn'
  generalize x.add n = A at *
  generalize x.drop n = B at *
  generalize x.next far = C at *
  obtain ⟨A, Ae⟩ := A
  obtain ⟨B, Be⟩ := B
  obtain ⟨C, Ce⟩ := C
  simp only at qa qd qn ra' rd' rn' sa sd sn
  refine wCall_use ⟨ha.1, qa⟩ ?_
  rintro _ H1 ⟨ca, rfl, oa, xa⟩
  have g1 := xa.get (bx20 _ _ _)
  have g2 := xa.get (bx21 _ _ _)
  have le1 := xa.1
  simp only [len_app1] at le1 oa
  have X1 := (Ext.b2 _ _).tr xa
  obtain ⟨a1, a2, a3, rfl, oa1, oa2, oa3⟩ := own_confL oa
  have G1 : ∀ z, (H1 ++ [z])[h.length]? = _ := fun z => (Ext.b1 z).get g1
  have G2 : ∀ z, (H1 ++ [z])[h.length + 1]? = _ := fun z => (Ext.b1 z).get g2
  simp only [go_sem, reduceIte, Nat.reduceEqDiff, Nat.reduceAdd, Nat.reduceLeDiff, Nat.reducePow, Nat.reduceDiv, Nat.reduceMod, decide_true, G1, G2, oa1.scalar, oa2.scalar, oa3.scalar]
  refine wCall_use ⟨hd.1, qd _⟩ ?_
  rintro _ H2 ⟨cb, rfl, ob, xb⟩
  have g1' := xb.get (G1 _)
  have g2' := xb.get (G2 _)
  have g3' := xb.get (bx10 _ _)
  have G1' : ∀ z, (H2 ++ [z])[h.length]? = _ := fun z => (Ext.b1 z).get g1'
  have G2' : ∀ z, (H2 ++ [z])[h.length + 1]? = _ := fun z => (Ext.b1 z).get g2'
  have G3' : ∀ z, (H2 ++ [z])[H1.length]? = _ := fun z => (Ext.b1 z).get g3'
  have le2 := xb.1
  simp only [len_app1] at le2 ob
  obtain ⟨b1, b2, b3, rfl, ob1, ob2, ob3⟩ := own_confL ob
  have K2' : ∀ z w, (H2 ++ [z] ++ [w])[h.length + 1]? = _ := fun z w => (Ext.b2 z w).get g2'
  have nr := (show notRes (H2.length + 1) 1 (.ptr (h.length + 1) 3 0 0) = true by simp [notRes]; omega)
  simp only [go_sem, reduceIte, Nat.reduceEqDiff, Nat.reduceAdd, Nat.reduceLeDiff, Nat.reducePow, Nat.reduceDiv, Nat.reduceMod, decide_true, G1', G2', G3', K2', nr, true_and, len_aints, ob1.scalar, ob2.scalar, ob3.scalar, aslc, hb1]
  refine wCall_use ⟨hn.1, qn _⟩ ?_
  rintro _ H3 ⟨cc, rfl, oc, xc⟩
  obtain ⟨d1, d2, d3, rfl, oc1, oc2, oc3⟩ := own_confL oc
  have kp : H3[H2.length + 1]? = some none := xc.get (bx21 _ _ _)
  have le3 := xc.1
  simp only [len_app1] at le3 oc1 oc2 oc3
  have lt3 : H2.length + 1 < H3.length := by omega
  have lt4 : H2.length + 1 < (H3.set (H2.length + 1) (some (ABlk.arr 3 [[AV.nils, AV.nils, AV.nils]] false))).length := by simpa using lt3
  have M1 : (H3.set (H2.length + 1) (some (ABlk.arr 3 [[d1, d2, d3]] false)))[h.length]? = _ := (List.getElem?_set_ne (by omega)).trans (xc.get ((Ext.b2 _ _).get g1'))
  have M2 : (H3.set (H2.length + 1) (some (ABlk.arr 3 [[d1, d2, d3]] false)))[h.length + 1]? = _ := (List.getElem?_set_ne (by omega)).trans (xc.get ((Ext.b2 _ _).get g2'))
  have M3 : (H3.set (H2.length + 1) (some (ABlk.arr 3 [[d1, d2, d3]] false)))[H1.length]? = _ := (List.getElem?_set_ne (by omega)).trans (xc.get ((Ext.b2 _ _).get g3'))
  have M4 : (H3.set (H2.length + 1) (some (ABlk.arr 3 [[d1, d2, d3]] false)))[H2.length]? = _ := (List.getElem?_set_ne (by omega)).trans (xc.get (bx20 _ _ _))
  have M5 : (H3.set (H2.length + 1) (some (ABlk.arr 3 [[d1, d2, d3]] false)))[H2.length + 1]? = _ := List.getElem?_set_self lt3
  have Ml : (H3.set (H2.length + 1) (some (ABlk.arr 3 [[d1, d2, d3]] false))).length = H3.length := List.length_set
  -- whose is what
  have pa : OwnL A.c (fun m => h.length + 2 ≤ m ∧ m < H1.length) (H3.set (H2.length + 1) (some (ABlk.arr 3 [[d1, d2, d3]] false))) [a1, a2, a3] := by
    refine OwnL.mono _ (fun m hm => ⟨by have := hm.1; omega, hm.2⟩) (fun m hm y hy => ?_) _ (Own.in oa)
    rw [List.getElem?_set_ne (by have := hm.2; omega)]
    exact xc.get ((Ext.b2 _ _).get (xb.get ((Ext.b1 _).get hy)))
  have pb : OwnL B.c (fun m => H1.length + 1 ≤ m ∧ m < H2.length) (H3.set (H2.length + 1) (some (ABlk.arr 3 [[d1, d2, d3]] false))) [b1, b2, b3] := by
    refine OwnL.mono _ (fun m hm => ⟨by have := hm.1; omega, hm.2⟩) (fun m hm y hy => ?_) _ (Own.in ob)
    rw [List.getElem?_set_ne (by have := hm.2; omega)]
    exact xc.get ((Ext.b2 _ _).get hy)
  have pc : OwnL C.c (fun m => H2.length + 2 ≤ m ∧ m < H3.length) (H3.set (H2.length + 1) (some (ABlk.arr 3 [[d1, d2, d3]] false))) [d1, d2, d3] := by
    refine OwnL.mono _ (fun m hm => ⟨by have := hm.1; omega, hm.2⟩) (fun m hm y hy => ?_) _ (Own.in (own_conf oc1 oc2 oc3))
    rw [List.getElem?_set_ne (by have := hm.1; omega)]
    exact hy
  simp only [go_sem, reduceIte, Nat.reduceEqDiff, Nat.reduceAdd, Nat.reduceLeDiff, Nat.reducePow, Nat.reduceDiv, Nat.reduceMod, decide_true, nr, true_and, oc1.scalar, oc2.scalar, oc3.scalar, kp, isFree_none, lt3, lt4, List.length_set, List.set_set, if_neg (show ¬ H2.length + 1 = h.length by omega), xc.get ((Ext.b2 _ _).get g1')]
  generalize H3.set (H2.length + 1) (some (ABlk.arr 3 [[d1, d2, d3]] false)) = H4 at *
  refine use1 ha'.1 (ra' _) ?_
  have N1 : ∀ z, (H4 ++ [z])[h.length]? = _ := fun z => (Ext.b1 z).get M1
  have N1' : ∀ z w, (H4 ++ [z] ++ [w])[h.length]? = _ := fun z w => (Ext.b2 z w).get M1
  simp only [go_sem, reduceIte, Nat.reduceEqDiff, Nat.reduceAdd, Nat.reduceLeDiff, Nat.reducePow, Nat.reduceDiv, Nat.reduceMod, decide_true, scalar_aints, N1]
  refine use1 hd'.1 (rd' _) ?_
  simp only [go_sem, reduceIte, Nat.reduceEqDiff, Nat.reduceAdd, Nat.reduceLeDiff, Nat.reducePow, Nat.reduceDiv, Nat.reduceMod, decide_true, scalar_aints, N1']
  refine use1 hn'.1 (rn' _) ?_
  simp only [go_sem, reduceIte, Nat.reduceEqDiff, Nat.reduceAdd, Nat.reduceLeDiff, Nat.reducePow, Nat.reduceDiv, Nat.reduceMod, decide_true, scalar_aints]
  have T1 : ∀ u v w, (H4 ++ [u] ++ [v] ++ [w])[h.length]? = _ := fun u v w => (Ext.b3 u v w).get M1
  have T2 : ∀ u v w, (H4 ++ [u] ++ [v] ++ [w])[h.length + 1]? = _ := fun u v w => (Ext.b3 u v w).get M2
  have T3 : ∀ u v w, (H4 ++ [u] ++ [v] ++ [w])[H1.length]? = _ := fun u v w => (Ext.b3 u v w).get M3
  have T4 : ∀ u v w, (H4 ++ [u] ++ [v] ++ [w])[H2.length]? = _ := fun u v w => (Ext.b3 u v w).get M4
  have T5 : ∀ u v w, (H4 ++ [u] ++ [v] ++ [w])[H2.length + 1]? = _ := fun u v w => (Ext.b3 u v w).get M5
  have E3 : ∀ u v w, Ext nof H4 (H4 ++ [u] ++ [v] ++ [w]) := fun u v w => Ext.b3 u v w
  have bA : A.few (2^40) := ⟨by have := sa.1; omega, by have := sa.2.1; omega, by have := sa.2.2; omega⟩
  have bB : B.few (2^40) := ⟨by have := sd.1; omega, by have := sd.2.1; omega, by have := sd.2.2; omega⟩
  have bC : C.few (2^40) := ⟨by have := sn.1; omega, by have := sn.2.1; omega, by have := sn.2.2; omega⟩
  have nb : (!(Ce == Ce)) = false := by cases Ce <;> rfl
  simp only [go_sem, reduceIte, Nat.reduceEqDiff, Nat.reduceAdd, Nat.reduceLeDiff, Nat.reducePow, Nat.reduceDiv, Nat.reduceMod, decide_true, T3, decide_true, Bool.not_true, nb]
  refine use1 hs.1 (hs.2 (fun _ => True) nof _ A A _ _ (RdL.up (OwnL.rd _ (F' := fun _ => True) (fun _ _ => trivial) _ pa) (E3 _ _ _)) (hx A _) bA) ?_
  simp only [go_sem, reduceIte, Nat.reduceEqDiff, Nat.reduceAdd, Nat.reduceLeDiff, Nat.reducePow, Nat.reduceDiv, Nat.reduceMod, decide_true, T4, decide_true, Bool.not_true]
  refine use1 hs.1 (hs.2 (fun _ => True) nof _ B B _ _ (RdL.up (OwnL.rd _ (F' := fun _ => True) (fun _ _ => trivial) _ pb) (E3 _ _ _)) (hx B _) bB) ?_
  simp only [go_sem, reduceIte, Nat.reduceEqDiff, Nat.reduceAdd, Nat.reduceLeDiff, Nat.reducePow, Nat.reduceDiv, Nat.reduceMod, decide_true, T5, decide_true, Bool.not_true]
  refine use1 hs.1 (hs.2 (fun _ => True) nof _ C C _ _ (RdL.up (OwnL.rd _ (F' := fun _ => True) (fun _ _ => trivial) _ pc) (E3 _ _ _)) (hx C _) bC) ?_
  simp only [go_sem, reduceIte, Nat.reduceEqDiff, Nat.reduceAdd, Nat.reduceLeDiff, Nat.reducePow, Nat.reduceDiv, Nat.reduceMod, decide_true, T3, decide_true, Bool.not_true]
  have pa5 := OwnL.mono _ (fun _ h => h) ((E3 (some (ABlk.arr 3 [[aints A.old, aints A.new, aints A.learners]] false)) (some (.arr 3 [[aints B.old, aints B.new, aints B.learners]] false)) (some (.arr 3 [[aints C.old, aints C.new, aints C.learners]] false))).keep _) _ pa
  have pb5 := OwnL.mono _ (fun _ h => h) ((E3 (some (ABlk.arr 3 [[aints A.old, aints A.new, aints A.learners]] false)) (some (.arr 3 [[aints B.old, aints B.new, aints B.learners]] false)) (some (.arr 3 [[aints C.old, aints C.new, aints C.learners]] false))).keep _) _ pb
  have pc5 := OwnL.mono _ (fun _ h => h) ((E3 (some (ABlk.arr 3 [[aints A.old, aints A.new, aints A.learners]] false)) (some (.arr 3 [[aints B.old, aints B.new, aints B.learners]] false)) (some (.arr 3 [[aints C.old, aints C.new, aints C.learners]] false))).keep _) _ pc
  have U1 := T1 (some (ABlk.arr 3 [[aints A.old, aints A.new, aints A.learners]] false)) (some (.arr 3 [[aints B.old, aints B.new, aints B.learners]] false)) (some (.arr 3 [[aints C.old, aints C.new, aints C.learners]] false))
  have U2 := T2 (some (ABlk.arr 3 [[aints A.old, aints A.new, aints A.learners]] false)) (some (.arr 3 [[aints B.old, aints B.new, aints B.learners]] false)) (some (.arr 3 [[aints C.old, aints C.new, aints C.learners]] false))
  have U4 := T4 (some (ABlk.arr 3 [[aints A.old, aints A.new, aints A.learners]] false)) (some (.arr 3 [[aints B.old, aints B.new, aints B.learners]] false)) (some (.arr 3 [[aints C.old, aints C.new, aints C.learners]] false))
  have U5 := T5 (some (ABlk.arr 3 [[aints A.old, aints A.new, aints A.learners]] false)) (some (.arr 3 [[aints B.old, aints B.new, aints B.learners]] false)) (some (.arr 3 [[aints C.old, aints C.new, aints C.learners]] false))
  have Ul : H3.length ≤ (H4 ++ [some (ABlk.arr 3 [[aints A.old, aints A.new, aints A.learners]] false)] ++ [some (ABlk.arr 3 [[aints B.old, aints B.new, aints B.learners]] false)] ++ [some (ABlk.arr 3 [[aints C.old, aints C.new, aints C.learners]] false)]).length := by simp only [len_app1]; omega
  generalize H4 ++ [some (ABlk.arr 3 [[aints A.old, aints A.new, aints A.learners]] false)] ++ [some (ABlk.arr 3 [[aints B.old, aints B.new, aints B.learners]] false)] ++ [some (ABlk.arr 3 [[aints C.old, aints C.new, aints C.learners]] false)] = H5 at *
  refine wCall_use ⟨hp.1, hp.2 _ _ A _ pa5 bA (fun m hm => by have := hm.2; omega)⟩ ?_
  rintro _ H6 s6
  have k6 := s6.1
  have V1 : H6[h.length]? = _ := (s6.2 _ (by omega) (by omega)).trans U1
  have V2 : H6[h.length + 1]? = _ := (s6.2 _ (by omega) (by omega)).trans U2
  have V4 : H6[H2.length]? = _ := (s6.2 _ (by omega) (by omega)).trans U4
  have V5 : H6[H2.length + 1]? = _ := (s6.2 _ (by omega) (by omega)).trans U5
  have pb6 := OwnL.mono _ (fun _ h => h) (s6.keepOff (fun m hm h1 h2 => by have := h1.1; have := h2.2; omega)) _ pb5
  have pc6 := OwnL.mono _ (fun _ h => h) (s6.keepOff (fun m hm h1 h2 => by have := h1.1; have := h2.2; omega)) _ pc5
  simp only [go_sem, reduceIte, Nat.reduceEqDiff, Nat.reduceAdd, Nat.reduceLeDiff, Nat.reducePow, Nat.reduceDiv, Nat.reduceMod, decide_true, V4]
  refine wCall_use ⟨hp.1, hp.2 _ _ B _ pb6 bB (fun m hm => by have := hm.2; omega)⟩ ?_
  rintro _ H7 s7
  have k7 := s7.1
  have W1 : H7[h.length]? = _ := (s7.2 _ (by omega) (by omega)).trans V1
  have W2 : H7[h.length + 1]? = _ := (s7.2 _ (by omega) (by omega)).trans V2
  have W5 : H7[H2.length + 1]? = _ := (s7.2 _ (by omega) (by omega)).trans V5
  have pc7 := OwnL.mono _ (fun _ h => h) (s7.keepOff (fun m hm h1 h2 => by have := h1.1; have := h2.2; omega)) _ pc6
  simp only [go_sem, reduceIte, Nat.reduceEqDiff, Nat.reduceAdd, Nat.reduceLeDiff, Nat.reducePow, Nat.reduceDiv, Nat.reduceMod, decide_true, W5]
  refine wCall_use ⟨hp.1, hp.2 _ _ C _ pc7 bC (fun m hm => by have := hm.2; omega)⟩ ?_
  rintro _ H8 s8
  have k8 := s8.1
  have Y1 : H8[h.length]? = _ := (s8.2 _ (by omega) (by omega)).trans W1
  have Y2 : H8[h.length + 1]? = _ := (s8.2 _ (by omega) (by omega)).trans W2
  simp only [go_sem, reduceIte, Nat.reduceEqDiff, Nat.reduceAdd, Nat.reduceLeDiff, Nat.reducePow, Nat.reduceDiv, Nat.reduceMod, decide_true, Y1, Y2]
  refine use1 hs.1 (hs.2 nof nof _ x x _ _ (hx x _) (hx x _) few2) ?_
  simp only [go_sem, reduceIte, Nat.reduceEqDiff, Nat.reduceAdd, Nat.reduceLeDiff, Nat.reducePow, Nat.reduceDiv, Nat.reduceMod, decide_true, decide_true]
  refine use1 hk.1 (hk.2 nof _ far _ _ (rd_aints _ _ _) (rd_aints _ _ _) (by omega)) ?_
  simp only [go_sem, reduceIte, Nat.reduceEqDiff, Nat.reduceAdd, Nat.reduceLeDiff, Nat.reducePow, Nat.reduceDiv, Nat.reduceMod, decide_true]
  refine yes ?_
  simp only [go_sem, reduceIte, Nat.reduceEqDiff, Nat.reduceAdd, Nat.reduceLeDiff, Nat.reducePow, Nat.reduceDiv, Nat.reduceMod, decide_true]

end Glb

/-
  The library's Clone on a list without items, off the shelf.
-/
namespace Glb
open Go

theorem cloneKit {P : Program} {ρ : Go.Shelf.Ren} (L : Go.Proofs.Lays2.n15 P ρ) : CloneKit P (ρ.f 15) := by
  refine ⟨fun a c w => (Go.Proofs.Any.slices_Clone_int_zero L a c w).mono ?_⟩
  rintro e w' ⟨v, he, hown, hne, hb⟩
  rcases hown.2 with ⟨h1, _⟩ | ⟨g, cap, cur, h1, _⟩
  · exact absurd h1 hne
  · subst h1
    exact ⟨_, _, he, rfl, ⟨hb.os, hb.output, hb.size, fun a ha => World.frozen?_of_block (hb.block _ ha)⟩, hb.block⟩

end Glb
