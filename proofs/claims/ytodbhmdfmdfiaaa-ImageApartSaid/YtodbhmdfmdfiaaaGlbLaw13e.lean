/-
  A change leaves all others as they were, and does twice what it does once: the law ImageApart.
-/
import Derived.Test.YtodbhmdfmdfiaaaGlbLaw13d
import Derived.Test.YtodbhmdfmdfiaaaGlbMore2
set_option linter.unusedSimpArgs false
set_option linter.unusedVariables false
namespace Glb
open Go
set_option maxRecDepth 10000
set_option maxHeartbeats 16000000

theorem ApplyOk.p {P : Program} {f : FuncId} (hc : ApplyOk P f) {h : AHeap} {x : Image} {c : Change} {G : Nat → Prop} {as cs : List AV} (ha : RdL G h x.c as) (hcc : RdL G h c.c cs) {k : Nat} (hx : x.gd k) (hk : k ≤ 20) (hb : x.bases) (hs : c.small) (hR : c.R) :
    ACalls P f [.agg as, .agg cs] h fun r h' => r = .tup [.agg (x.applied c).1.v, .int .i64 (x.applied c).2] ∧ h' = h := by
  have hcb := change_bound hs
  have hxb := gd_bound hx hk
  refine (hc.2 G h x c as cs ha hcc (hx.ok hk) (change_okR hR hs.few) (by omega) (by omega) (hx.logs hk hb) (by have := hs.1.1; omega) (by have := hx.1; omega) (by have := hx.2.1; omega)).freeze ?_
  rintro _ _ ⟨_, h1, h2, h3⟩
  exact ⟨h3, _, h1 ▸ Frz.tup2 (Frz.aggD (OwnL.fz _ (fun _ x => x) _ h2)) (Frz.int _ _), rfl⟩

theorem applied_bases {x : Image} {c : Change} (hb : x.bases) (h1 : 0 ≤ c.log.base ∧ c.log.base ≤ 2^40 ∧ 0 ≤ c.log.bterm ∧ c.log.bterm ≤ 2^40) (ho : x.ordered = true) (e : (x.applied c).2 = 0) : (x.applied c).1.bases := by
  obtain ⟨-, -, -, -, -, a1, -⟩ := applied_apart x c ho e
  intro y hy
  rcases a1 y hy with hy | ⟨z, hz, _, rfl⟩
  · exact hb y hy
  · rcases @turned_base z c with ⟨q1, q2⟩ | ⟨q1, q2⟩
    · rw [q1, q2]; exact hb z hz
    · rw [q1, q2]; exact h1

theorem applied_no {x : Image} {c : Change} (h : (x.applied c).2 ≠ 0) : (x.applied c).1 = ⟨[], []⟩ := by
  simp only [Image.applied] at h ⊢
  split
  · rfl
  · rename_i k0
    rw [if_neg k0] at h
    split
    · rename_i k4; rw [if_pos k4] at h; exact absurd rfl h
    · rename_i k4
      rw [if_neg k4] at h
      cases ht : turnIn x.hards c with
      | none => rfl
      | some p =>
        obtain ⟨l, e⟩ := p
        rw [ht] at h
        simp only at h ⊢
        by_cases he : e ≠ 0
        · rw [if_pos he]
        · rw [if_neg he] at h; exact absurd rfl h

theorem apart_ok {P : Program} {f fw fo fb fe fk fa fx fs : FuncId} (hf : Is P f (c_glebelaw13_ImageApart fw fo fb fe fk fa fx fs)) (hw : FewOk P fw) (ho : OrdOk P fo) (hb : BasesOk P fb) (he : ChFewOk P fe) (hk : YesOk P fk) (ha : ApplyOk P fa) (hx : WithoutP P fx) (hs : SameImageOk P fs)
    (x : Image) (c : Change) (xR : x.R) (cR : c.R) (h : AHeap) : ACalls P f [.agg x.v, .agg c.v] h fun r _ => r = .bool true := by
  refine fun_sound hf.1 (Nat.le_of_ble_eq_true rfl) ?_
  show vc P (c_glebelaw13_ImageApart fw fo fb fe fk fa fx fs).code ⟨[(0, .agg x.v), (1, .agg c.v)], [], h⟩ (atEnd (c_glebelaw13_ImageApart fw fo fb fe fk fa fx fs).res _)
  have yes : ∀ {h : AHeap} {K : AV → AHeap → Prop}, K (.bool true) h → wCall P fk [] h K := fun hK => wCall_use ⟨hk.1, hk.2 _⟩ (by rintro _ _ ⟨rfl, rfl⟩; exact hK)
  have rx : ∀ h, RdL (fun _ => True) h x.c [ahards x.hards, avotes x.votes] := fun h => by simpa only [Image.v_eq] using rd_imagev (fun _ => True) h x
  have rc : ∀ h, RdL (fun _ => True) h c.c c.v := fun h => rd_changev _ h c
  have se := av_scalar (dEntries c.log.es)
  have so := av_scalar (dInts c.conf.old)
  have sn := av_scalar (dInts c.conf.new)
  have sl := av_scalar (dInts c.conf.learners)
  have ss := av_scalar (dBytes c.snap)
  rw [Change.v_eq] at rc
  simp only [Change.cells] at rc
  simp only [c_glebelaw13_ImageApart, Image.v_eq, Change.v_eq, Change.cells, go_sem, reduceIte, Nat.reduceEqDiff, Nat.reduceAdd, Nat.reduceLeDiff, Nat.reducePow, Nat.reduceDiv, Nat.reduceMod, decide_true, scalar_ahards, scalar_avotes, se, so, sn, sl, ss]
  have B0 := bx20 h (some (.arr 2 [[ahards x.hards, avotes x.votes]] false)) (some (ABlk.arr 17 [[AV.int IntKind.i64 c.kind, AV.int IntKind.i64 c.group, AV.int IntKind.i64 c.term, AV.int IntKind.i64 c.voted, AV.int IntKind.i64 c.from_, AV.int IntKind.i64 c.log.base,
    AV.int IntKind.i64 c.log.bterm, (dEntries c.log.es).av, (dInts c.conf.old).av, (dInts c.conf.new).av, (dInts c.conf.learners).av, (dBytes c.snap).av, AV.int IntKind.i64 c.vote.txn, AV.int IntKind.i64 c.vote.part, AV.int IntKind.i64 c.vote.promised, AV.int IntKind.i64 c.vote.ballot, AV.int IntKind.i64 c.vote.value]] false))
  have B1 := bx21 h (some (.arr 2 [[ahards x.hards, avotes x.votes]] false)) (some (ABlk.arr 17 [[AV.int IntKind.i64 c.kind, AV.int IntKind.i64 c.group, AV.int IntKind.i64 c.term, AV.int IntKind.i64 c.voted, AV.int IntKind.i64 c.from_, AV.int IntKind.i64 c.log.base,
    AV.int IntKind.i64 c.log.bterm, (dEntries c.log.es).av, (dInts c.conf.old).av, (dInts c.conf.new).av, (dInts c.conf.learners).av, (dBytes c.snap).av, AV.int IntKind.i64 c.vote.txn, AV.int IntKind.i64 c.vote.part, AV.int IntKind.i64 c.vote.promised, AV.int IntKind.i64 c.vote.ballot, AV.int IntKind.i64 c.vote.value]] false))
  generalize h ++ [some (ABlk.arr 2 [[ahards x.hards, avotes x.votes]] false)] ++ [some (ABlk.arr 17 [[AV.int IntKind.i64 c.kind, AV.int IntKind.i64 c.group, AV.int IntKind.i64 c.term, AV.int IntKind.i64 c.voted, AV.int IntKind.i64 c.from_, AV.int IntKind.i64 c.log.base,
    AV.int IntKind.i64 c.log.bterm, (dEntries c.log.es).av, (dInts c.conf.old).av, (dInts c.conf.new).av, (dInts c.conf.learners).av, (dBytes c.snap).av, AV.int IntKind.i64 c.vote.txn, AV.int IntKind.i64 c.vote.part, AV.int IntKind.i64 c.vote.promised, AV.int IntKind.i64 c.vote.ballot, AV.int IntKind.i64 c.vote.value]] false)] = H0 at *
  have l0 := (List.getElem?_eq_some_iff.1 B0).1
  refine wCall_use ⟨hw.1, hw.2 _ H0 x _ (rx H0)⟩ ?_
  rintro _ H1 ⟨b, rfl, e, hfit⟩
  subst e
  cases b with
  | false => simp only [go_sem, reduceIte, Nat.reduceEqDiff, Nat.reduceAdd, Nat.reduceLeDiff, Nat.reducePow, Nat.reduceDiv, Nat.reduceMod, decide_true]; exact yes (by simp only [go_sem, reduceIte, Nat.reduceEqDiff, Nat.reduceAdd, Nat.reduceLeDiff, Nat.reducePow, Nat.reduceDiv, Nat.reduceMod, decide_true])
  | true =>
  have hfit := hfit rfl
  have hg := hfit.gd xR
  simp only [go_sem, reduceIte, Nat.reduceEqDiff, Nat.reduceAdd, Nat.reduceLeDiff, Nat.reducePow, Nat.reduceDiv, Nat.reduceMod, decide_true, B0]
  refine use1 ho.1 (ho.2 _ H1 x _ (rx H1) (by have := hg.1; omega) (by have := hg.2.1; omega)) ?_
  cases co : x.ordered with
  | false => simp only [go_sem, reduceIte, Nat.reduceEqDiff, Nat.reduceAdd, Nat.reduceLeDiff, Nat.reducePow, Nat.reduceDiv, Nat.reduceMod, decide_true]; exact yes (by simp only [go_sem, reduceIte, Nat.reduceEqDiff, Nat.reduceAdd, Nat.reduceLeDiff, Nat.reducePow, Nat.reduceDiv, Nat.reduceMod, decide_true])
  | true =>
  simp only [go_sem, reduceIte, Nat.reduceEqDiff, Nat.reduceAdd, Nat.reduceLeDiff, Nat.reducePow, Nat.reduceDiv, Nat.reduceMod, decide_true, B0]
  refine wCall_use ⟨hb.1, hb.2 _ H1 x _ (rx H1) (by have := hg.1; omega)⟩ ?_
  rintro _ H2 ⟨b, rfl, e, hbs⟩
  subst e
  cases b with
  | false => simp only [go_sem, reduceIte, Nat.reduceEqDiff, Nat.reduceAdd, Nat.reduceLeDiff, Nat.reducePow, Nat.reduceDiv, Nat.reduceMod, decide_true]; exact yes (by simp only [go_sem, reduceIte, Nat.reduceEqDiff, Nat.reduceAdd, Nat.reduceLeDiff, Nat.reducePow, Nat.reduceDiv, Nat.reduceMod, decide_true])
  | true =>
  have hbs := hbs rfl
  simp only [go_sem, reduceIte, Nat.reduceEqDiff, Nat.reduceAdd, Nat.reduceLeDiff, Nat.reducePow, Nat.reduceDiv, Nat.reduceMod, decide_true, B1]
  refine wCall_use ⟨he.1, he.2 _ H2 c _ (rc H2)⟩ ?_
  rintro _ H3 ⟨b, rfl, e, hsm⟩
  subst e
  cases b with
  | false => simp only [go_sem, reduceIte, Nat.reduceEqDiff, Nat.reduceAdd, Nat.reduceLeDiff, Nat.reducePow, Nat.reduceDiv, Nat.reduceMod, decide_true]; exact yes (by simp only [go_sem, reduceIte, Nat.reduceEqDiff, Nat.reduceAdd, Nat.reduceLeDiff, Nat.reducePow, Nat.reduceDiv, Nat.reduceMod, decide_true])
  | true =>
  have hsm := hsm rfl
  by_cases c1 : c.log.base < 0
  · simp only [go_sem, reduceIte, Nat.reduceEqDiff, Nat.reduceAdd, Nat.reduceLeDiff, Nat.reducePow, Nat.reduceDiv, Nat.reduceMod, decide_true, B1, decide_eq_true c1]; exact yes (by simp only [go_sem, reduceIte, Nat.reduceEqDiff, Nat.reduceAdd, Nat.reduceLeDiff, Nat.reducePow, Nat.reduceDiv, Nat.reduceMod, decide_true])
  by_cases c2 : (1099511627776 : Int) < c.log.base
  · simp only [go_sem, reduceIte, Nat.reduceEqDiff, Nat.reduceAdd, Nat.reduceLeDiff, Nat.reducePow, Nat.reduceDiv, Nat.reduceMod, decide_true, B1, decide_eq_false c1, decide_eq_true c2]; exact yes (by simp only [go_sem, reduceIte, Nat.reduceEqDiff, Nat.reduceAdd, Nat.reduceLeDiff, Nat.reducePow, Nat.reduceDiv, Nat.reduceMod, decide_true])
  by_cases c3 : c.log.bterm < 0
  · simp only [go_sem, reduceIte, Nat.reduceEqDiff, Nat.reduceAdd, Nat.reduceLeDiff, Nat.reducePow, Nat.reduceDiv, Nat.reduceMod, decide_true, B1, decide_eq_false c1, decide_eq_false c2, decide_eq_true c3]; exact yes (by simp only [go_sem, reduceIte, Nat.reduceEqDiff, Nat.reduceAdd, Nat.reduceLeDiff, Nat.reducePow, Nat.reduceDiv, Nat.reduceMod, decide_true])
  by_cases c4 : (1099511627776 : Int) < c.log.bterm
  · simp only [go_sem, reduceIte, Nat.reduceEqDiff, Nat.reduceAdd, Nat.reduceLeDiff, Nat.reducePow, Nat.reduceDiv, Nat.reduceMod, decide_true, B1, decide_eq_false c1, decide_eq_false c2, decide_eq_false c3, decide_eq_true c4]; exact yes (by simp only [go_sem, reduceIte, Nat.reduceEqDiff, Nat.reduceAdd, Nat.reduceLeDiff, Nat.reducePow, Nat.reduceDiv, Nat.reduceMod, decide_true])
  simp only [go_sem, reduceIte, Nat.reduceEqDiff, Nat.reduceAdd, Nat.reduceLeDiff, Nat.reducePow, Nat.reduceDiv, Nat.reduceMod, decide_true, B0, B1, decide_eq_false c1, decide_eq_false c2, decide_eq_false c3, decide_eq_false c4]
  refine use1 ha.1 (ha.p (rx H3) (rc H3) hg (by omega) hbs hsm cR) ?_
  have ld : ∀ l, alen (ahards l) = some (.int .i64 l.length) := fun l => by simpa using (rd_ahards nof [] l).len
  have lv : ∀ l, alen (avotes l) = some (.int .i64 l.length) := fun l => by simpa using (rd_avotes nof [] l).len
  have C0 : ∀ z, (H3 ++ [z])[h.length]? = _ := fun z => (Ext.b1 z).get B0
  have C1 : ∀ z, (H3 ++ [z])[h.length + 1]? = _ := fun z => (Ext.b1 z).get B1
  by_cases ce : (x.applied c).2 = 0
  · obtain ⟨q1, q2, q3, q4, q5, -, -, q8, q9⟩ := applied_apart x c co ce
    have yg := applied_gd hg hsm cR co ce
    have yb := applied_bases hbs ⟨by omega, by omega, by omega, by omega⟩ co ce
    generalize ey : (x.applied c).1 = y at *
    have ry : ∀ h, RdL (fun _ => True) h y.c [ahards y.hards, avotes y.votes] := fun h => by simpa only [Image.v_eq] using rd_imagev (fun _ => True) h y
    have E0 := C0 (some (.arr 2 [[ahards y.hards, avotes y.votes]] false))
    have E1 := C1 (some (.arr 2 [[ahards y.hards, avotes y.votes]] false))
    have E2 := bx10 H3 (some (.arr 2 [[ahards y.hards, avotes y.votes]] false))
    have lt0 := (List.getElem?_eq_some_iff.1 B0).1
    have lt1 := (List.getElem?_eq_some_iff.1 B1).1
    have n00 : ((0 : Int) = 0) = True := eq_true rfl
    simp only [go_sem, reduceIte, Nat.reduceEqDiff, Nat.reduceAdd, Nat.reduceLeDiff, Nat.reducePow, Nat.reduceDiv, Nat.reduceMod, decide_true, ce, n00, Image.v_eq, scalar_ahards, scalar_avotes, cells_ahards, cells_avotes, E0, E1, E2]
    have hl4 : (H3 ++ [some (ABlk.arr 2 [[ahards y.hards, avotes y.votes]] false)]).length = H3.length + 1 := by simp
    generalize H3 ++ [some (ABlk.arr 2 [[ahards y.hards, avotes y.votes]] false)] = H4 at *
    refine use1 ha.1 (ha.p (ry H4) (rc H4) yg (by omega) yb hsm cR) ?_
    rw [q5]
    have F0 := (Ext.b1 (some (.arr 2 [[ahards y.hards, avotes y.votes]] false))).get E0
    have F1 := (Ext.b1 (some (.arr 2 [[ahards y.hards, avotes y.votes]] false))).get E1
    have F2 := (Ext.b1 (some (.arr 2 [[ahards y.hards, avotes y.votes]] false))).get E2
    have F3 := bx10 H4 (some (.arr 2 [[ahards y.hards, avotes y.votes]] false))
    have hxp : ∀ h (z : Image), z.hards.length ≤ 2^30 → z.votes.length ≤ 2^30 → ACalls P fx [.agg [ahards z.hards, avotes z.votes], .agg [AV.int IntKind.i64 c.kind, AV.int IntKind.i64 c.group, AV.int IntKind.i64 c.term, AV.int IntKind.i64 c.voted, AV.int IntKind.i64 c.from_, AV.int IntKind.i64 c.log.base,
        AV.int IntKind.i64 c.log.bterm, (dEntries c.log.es).av, (dInts c.conf.old).av, (dInts c.conf.new).av, (dInts c.conf.learners).av, (dBytes c.snap).av, AV.int IntKind.i64 c.vote.txn, AV.int IntKind.i64 c.vote.part, AV.int IntKind.i64 c.vote.promised, AV.int IntKind.i64 c.vote.ballot, AV.int IntKind.i64 c.vote.value]] h
        fun r h' => r = .agg [ahards (z.without c).hards, avotes (z.without c).votes] ∧ h' = h := fun h z h1 h2 => by
      have := hx.2 h z c h1 h2
      simpa only [Image.v_eq, Change.v_eq, Change.cells] using this
    simp only [go_sem, reduceIte, Nat.reduceEqDiff, Nat.reduceAdd, Nat.reduceLeDiff, Nat.reducePow, Nat.reduceDiv, Nat.reduceMod, decide_true, Image.v_eq, scalar_ahards, scalar_avotes, cells_ahards, cells_avotes, E0, E1, E2, F0, F1, F2, F3]
    generalize H4 ++ [some (ABlk.arr 2 [[ahards y.hards, avotes y.votes]] false)] = H5 at *
    have yl1 : y.hards.length ≤ 2^30 := by have := yg.1; omega
    have yl2 : y.votes.length ≤ 2^30 := by have := yg.2.1; omega
    refine use1 hx.1 (hxp H5 y yl1 yl2) ?_
    simp only [go_sem, reduceIte, Nat.reduceEqDiff, Nat.reduceAdd, Nat.reduceLeDiff, Nat.reducePow, Nat.reduceDiv, Nat.reduceMod, decide_true, F0, F1, F2, F3, ld]
    refine use1 hx.1 (hxp H5 y yl1 yl2) ?_
    have w1 : IntKind.i64.wrap (((y.without c).hards.length : Int) + ((y.without c).votes.length : Int)) = ((y.without c).hards.length : Int) + ((y.without c).votes.length : Int) := wrap_i64 (by omega)
    have w2 : IntKind.i64.wrap ((y.hards.length : Int) + (y.votes.length : Int)) = (y.hards.length : Int) + (y.votes.length : Int) := wrap_i64 (by omega)
    have w3 : IntKind.i64.wrap (((y.without c).hards.length : Int) + ((y.without c).votes.length : Int) + 1) = ((y.without c).hards.length : Int) + ((y.without c).votes.length : Int) + 1 := wrap_i64 (by omega)
    have d1 : decide ((y.hards.length : Int) + (y.votes.length : Int) = ((y.without c).hards.length : Int) + ((y.without c).votes.length : Int) + 1) = true := decide_eq_true (by omega)
    have d2 : decide ((y.hards.length : Int) = (x.hards.length : Int)) = true := decide_eq_true (by omega)
    simp only [go_sem, reduceIte, Nat.reduceEqDiff, Nat.reduceAdd, Nat.reduceLeDiff, Nat.reducePow, Nat.reduceDiv, Nat.reduceMod, decide_true, F0, F1, F2, F3, ld, lv, w1, w2, w3, d1, d2]
    refine use1 ho.1 (ho.2 _ H5 y _ (ry H5) (by omega) (by omega)) ?_
    simp only [go_sem, reduceIte, Nat.reduceEqDiff, Nat.reduceAdd, Nat.reduceLeDiff, Nat.reducePow, Nat.reduceDiv, Nat.reduceMod, decide_true, q3, F0, F1, F2, F3]
    refine use1 hx.1 (hxp H5 x (by have := hg.1; omega) (by have := hg.2.1; omega)) ?_
    simp only [go_sem, reduceIte, Nat.reduceEqDiff, Nat.reduceAdd, Nat.reduceLeDiff, Nat.reducePow, Nat.reduceDiv, Nat.reduceMod, decide_true, F0, F1, F2, F3]
    refine use1 hx.1 (hxp H5 y yl1 yl2) ?_
    simp only [go_sem, reduceIte, Nat.reduceEqDiff, Nat.reduceAdd, Nat.reduceLeDiff, Nat.reducePow, Nat.reduceDiv, Nat.reduceMod, decide_true, F0, F1, F2, F3]
    refine use1 hs.1 (hs.2 (fun _ => True) (fun _ => True) H5 (x.without c) (y.without c) _ _ (by simpa only [Image.v_eq] using rd_imagev (fun _ => True) H5 (x.without c)) (by simpa only [Image.v_eq] using rd_imagev (fun _ => True) H5 (y.without c)) ?_) ?_
    · rw [q4]
      refine ⟨?_, ?_, fun z hz => ?_⟩
      · simp only [Image.without]; split
        · exact yl1
        · exact Nat.le_trans (List.length_filter_le _ _) yl1
      · simp only [Image.without]; split
        · exact Nat.le_trans (List.length_filter_le _ _) yl2
        · exact yl2
      · simp only [Image.without] at hz
        split at hz
        · exact (yg.2.2.1 z hz).few (by omega)
        · exact (yg.2.2.1 z (List.mem_filter.1 hz).1).few (by omega)
    simp only [go_sem, reduceIte, Nat.reduceEqDiff, Nat.reduceAdd, Nat.reduceLeDiff, Nat.reducePow, Nat.reduceDiv, Nat.reduceMod, decide_true, q4, F0, F1, F2, F3]
    refine use1 hs.1 (hs.2 (fun _ => True) (fun _ => True) H5 y y _ _ (ry H5) (ry H5) (yg.few (by omega))) ?_
    simp only [go_sem, reduceIte, Nat.reduceEqDiff, Nat.reduceAdd, Nat.reduceLeDiff, Nat.reducePow, Nat.reduceDiv, Nat.reduceMod, decide_true, F0, F1, F2, F3]
    exact yes (by simp only [go_sem, reduceIte, Nat.reduceEqDiff, Nat.reduceAdd, Nat.reduceLeDiff, Nat.reducePow, Nat.reduceDiv, Nat.reduceMod, decide_true, F0, F1, F2, F3])
  · have e0 := applied_no ce
    have l0 : alen (ahards []) = some (.int .i64 0) := rfl
    have l1 : alen (avotes []) = some (.int .i64 0) := rfl
    have w0 : IntKind.i64.wrap (0 + 0) = 0 := rfl
    have n00 : ((0 : Int) = 0) = True := eq_true rfl
    have D2 := bx10 H3 (some (.arr 2 [[ahards [], avotes []]] false))
    rw [e0]
    simp only [go_sem, reduceIte, Nat.reduceEqDiff, Nat.reduceAdd, Nat.reduceLeDiff, Nat.reducePow, Nat.reduceDiv, Nat.reduceMod, decide_true, decide_eq_false ce, Image.v_eq, scalar_ahards, scalar_avotes, cells_ahards, cells_avotes, D2, l0, l1, w0, n00]
    exact yes (by simp only [go_sem, reduceIte, Nat.reduceEqDiff, Nat.reduceAdd, Nat.reduceLeDiff, Nat.reducePow, Nat.reduceDiv, Nat.reduceMod, decide_true])

end Glb
