/-
  What enough have reached: the program's function and the document's answer so.
-/
import Derived.Test.YtoijpkpfgamlpaaGlbQuorum
import Derived.Test.YtoijpkpfgamlpaaGlbCglebelaw10
set_option linter.unusedSimpArgs false
set_option linter.unusedVariables false
namespace Glb
open Go
set_option maxRecDepth 10000
set_option maxHeartbeats 4000000

/-- who has reached a number -/
def yesOf (v : Int) (ps : List (Int × Int)) : List Int := (ps.filter fun p => decide (v ≤ p.2)).map (·.1)
def Conf.best (x : Conf) (all : List (Int × Int)) : List (Int × Int) → Int → Int
  | [], b => b
  | p :: r, b => x.best all r (if b < p.2 ∧ x.won (yesOf p.2 all) = true then p.2 else b)
/-- the greatest number that enough have reached -/
def Conf.agreed (x : Conf) (nodes reached : List Int) : Int := x.best (nodes.zip reached) (nodes.zip reached) 0

theorem yesOf_length (v : Int) (ps : List (Int × Int)) : (yesOf v ps).length ≤ ps.length := by simp only [yesOf, List.length_map]; exact List.length_filter_le _ _
theorem yesOf_more {v : Int} {ps : List (Int × Int)} {i : Nat} (hi : i < ps.length) : yesOf v (ps.take (i + 1)) = yesOf v (ps.take i) ++ (if v ≤ ps[i].2 then [ps[i].1] else []) := by
  rw [List.take_succ_eq_append_getElem hi]
  simp only [yesOf, List.filter_append, List.map_append, List.filter_cons, List.filter_nil]
  congr 1
  by_cases c : v ≤ ps[i].2
  · simp [c]
  · simp [c]

def AgreedOk (P : Program) (f : FuncId) : Prop :=
  isFn P f = true ∧ ∀ (F F' F'' : Nat → Prop) (h : AHeap) (x : Conf) (nodes reached : List Int) (a : List AV) (b c : AV), RdL F h x.c a → Rd F' h (dInts nodes) b → Rd F'' h (dInts reached) c → x.few (2^40) → nodes.length ≤ 2^40 → reached.length ≤ 2^40 →
    ACalls P f [.agg a, b, c] h fun r h' => r = .int .i64 (x.agreed nodes reached) ∧ h' = h

theorem quorum_Agreed_ok {P : Program} {f g : FuncId} (hf : Is P f (c_quorum_Agreed g)) (hg : WonOk P g) : AgreedOk P f := by
  refine ⟨hf.2, fun F F' F'' h x nodes reached a b c ha hb hc hx hn hr => obs (upto_int _ _ _) (fun_sound hf.1 (Nat.le_of_ble_eq_true rfl) ?_)⟩
  show vc P (c_quorum_Agreed g).code ⟨[(0, .agg a), (1, b), (2, c)], [], h⟩ (atEnd (c_quorum_Agreed g).res _)
  obtain ⟨o, n, e, rfl, ho, hne, he⟩ := rd_conf ha
  have lb := hb.ints_len
  have lc := hc.ints_len
  have mn : min (nodes.length : Int) (reached.length : Int) = ((min nodes.length reached.length : Nat) : Int) := by omega
  generalize hall : nodes.zip reached = all
  have hal : all.length = min nodes.length reached.length := by rw [← hall]; exact List.length_zip
  have hag : x.agreed nodes reached = x.best all all 0 := by simp only [Conf.agreed, hall]
  obtain ⟨c', hs, hc'⟩ := Rd.slice hc (lo := none) (hi := some (all.length : Int)) (mx := none) (by simp) (by simp) (by simp; omega) (by simp) (by simp; omega) (by simp)
  obtain ⟨b', hs2, hb'⟩ := Rd.slice hb (lo := none) (hi := some (all.length : Int)) (mx := none) (by simp) (by simp) (by simp; omega) (by simp) (by simp; omega) (by simp)
  have hc2 : Rd F'' h (dInts (reached.take all.length)) c' := by simpa [dInts, List.map_take] using hc'
  have hb2 : Rd F' h (dInts (nodes.take all.length)) b' := by simpa [dInts, List.map_take] using hb'
  have lc' := hc2.ints_len
  have lb' := hb2.ints_len
  rw [List.length_take, Nat.min_eq_left (by omega)] at lc' lb'
  have hz : ∀ i (hi : i < all.length), all[i] = (nodes[i]'(by omega), reached[i]'(by omega)) := fun i hi => by subst hall; simp
  have hbox := bx10 h (some (.arr 3 [[o, n, e]] false))
  simp only [c_quorum_Agreed, go_sem, reduceIte, Nat.reduceEqDiff, Nat.reduceAdd, Nat.reduceLeDiff, Nat.reducePow, Nat.reduceDiv, Nat.reduceMod, decide_true, ho.scalar, hne.scalar, he.scalar, lb, lc, rev_mnmx, mnmx_min, mn, ← hal, aslc, hs, lc']
  have x0 := Ext.b1 (h := h) (some (.arr 3 [[o, n, e]] false))
  refine vc_loop (fun m L h' => ∃ (i : Nat) (best : Int), lk 1 L = b ∧ lk 2 L = c ∧ lk 3 L = .ptr h.length 3 0 0 ∧ lk 7 L = .int .i64 all.length ∧ lk 8 L = .int .i64 best ∧ lk 21 L = c' ∧ lk 22 L = .int .i64 all.length ∧ lk 23 L = .int .i64 i ∧
    Ext nof (h ++ [some (.arr 3 [[o, n, e]] false)]) h' ∧ i ≤ all.length ∧ m = all.length - i ∧ x.best all (all.drop i) best = x.best all all 0) all.length ?_ ?_
  · exact ⟨0, 0, by simp [lk_ins, lk_cons], by simp [lk_ins, lk_cons], by simp [lk_ins, lk_cons], by simp [lk_ins, lk_cons], by simp [lk_ins, lk_cons], by simp [lk_ins, lk_cons], by simp [lk_ins, lk_cons], by simp [lk_ins], Ext.refl _ _, by omega, by omega, rfl⟩
  · rintro m L h1 ⟨i, best, k1, k2, k3, k7, k8, k21, k22, k23, hE, hi, rfl, hq⟩
    simp only [c_quorum_Agreed_l1, go_sem, reduceIte, Nat.reduceEqDiff, Nat.reduceAdd, Nat.reduceLeDiff, Nat.reducePow, Nat.reduceDiv, Nat.reduceMod, decide_true, k1, k2, k3, k7, k8, k21, k22, k23]
    refine wCond_split (fun ci => ?_) (fun ci => ?_)
    · simp at ci
      have e1 : IntKind.i64.wrap (↑i + 1) = (i : Int) + 1 := wrap_i64 (by omega)
      obtain ⟨p, hp, hv⟩ := ((hc2.up x0).up hE).int_at (i := i) (by rw [List.length_take]; omega)
      have hvi : (reached.take all.length)[i]'(by rw [List.length_take]; omega) = reached[i]'(by omega) := List.getElem_take
      rw [hvi] at hv
      rw [List.drop_eq_getElem_cons ci] at hq
      simp only [Conf.best, hz i ci] at hq
      simp only [go_sem, reduceIte, Nat.reduceEqDiff, Nat.reduceAdd, Nat.reduceLeDiff, Nat.reducePow, Nat.reduceDiv, Nat.reduceMod, decide_true, k1, k2, k3, k7, k8, k21, k22, k23, hp, hv]
      generalize reached[i]'(by omega) = v at *
      by_cases cb : v ≤ best
      · simp only [go_sem, reduceIte, Nat.reduceEqDiff, Nat.reduceAdd, Nat.reduceLeDiff, Nat.reducePow, Nat.reduceDiv, Nat.reduceMod, decide_true, k1, k2, k3, k7, k8, k21, k22, k23, decide_eq_true cb, e1]
        rw [if_neg (fun h => by omega)] at hq
        exact ⟨_, by omega, i + 1, best, by simp, by simp, hE, ci, rfl, hq⟩
      · simp only [go_sem, reduceIte, Nat.reduceEqDiff, Nat.reduceAdd, Nat.reduceLeDiff, Nat.reducePow, Nat.reduceDiv, Nat.reduceMod, decide_true, k1, k2, k3, k7, k8, k21, k22, k23, decide_eq_false cb, hs2, lb']
        refine vc_loop (fun m L h' => ∃ (j : Nat) (o' : AV), lk 1 L = b ∧ lk 2 L = c ∧ lk 3 L = .ptr h.length 3 0 0 ∧ lk 7 L = .int .i64 all.length ∧ lk 8 L = .int .i64 best ∧ lk 10 L = .int .i64 v ∧ lk 11 L = o' ∧ lk 21 L = c' ∧ lk 22 L = .int .i64 all.length ∧ lk 23 L = .int .i64 i ∧
          lk 32 L = b' ∧ lk 33 L = .int .i64 all.length ∧ lk 34 L = .int .i64 j ∧ Own (dInts (yesOf v (all.take j))) (fun m => h1.length ≤ m) h' o' ∧ canApp h' o' ∧ Ext nof h1 h' ∧ j ≤ all.length ∧ m = all.length - j) all.length ?_ ?_
        · exact ⟨0, .nils, by simp [lk_ins, lk_cons, k1], by simp [lk_ins, lk_cons, k2], by simp [lk_ins, lk_cons, k3], by simp [lk_ins, lk_cons, k7], by simp [lk_ins, lk_cons, k8], by simp [lk_ins, lk_cons], by simp [lk_ins, lk_cons], by simp [lk_ins, lk_cons, k21], by simp [lk_ins, lk_cons, k22], by simp [lk_ins, lk_cons, k23],
            by simp [lk_ins, lk_cons], by simp [lk_ins, lk_cons], by simp [lk_ins], by simpa [yesOf, dInts] using Own.nils 1, trivial, Ext.refl _ _, by omega, by omega⟩
        · rintro m L h2 ⟨j, o', k1, k2, k3, k7, k8, k10, k11, k21, k22, k23, k32, k33, k34, hO, hA, hE2, hj, rfl⟩
          simp only [c_quorum_Agreed_l0, go_sem, reduceIte, Nat.reduceEqDiff, Nat.reduceAdd, Nat.reduceLeDiff, Nat.reducePow, Nat.reduceDiv, Nat.reduceMod, decide_true, k1, k2, k3, k7, k8, k10, k11, k21, k22, k23, k32, k33, k34]
          refine wCond_split (fun cj => ?_) (fun cj => ?_)
          · simp at cj
            have e2 : IntKind.i64.wrap (↑j + 1) = (j : Int) + 1 := wrap_i64 (by omega)
            obtain ⟨q, hq1, hv1⟩ := (((hb2.up x0).up hE).up hE2).int_at (i := j) (by rw [List.length_take]; omega)
            obtain ⟨q2, hq2, hv2⟩ := (((hc.up x0).up hE).up hE2).int_at (i := j) (by omega)
            have hvj : (nodes.take all.length)[j]'(by rw [List.length_take]; omega) = nodes[j]'(by omega) := List.getElem_take
            rw [hvj] at hv1
            have hmore := yesOf_more (v := v) cj
            rw [hz j cj] at hmore
            simp only at hmore
            simp only [go_sem, reduceIte, Nat.reduceEqDiff, Nat.reduceAdd, Nat.reduceLeDiff, Nat.reducePow, Nat.reduceDiv, Nat.reduceMod, decide_true, k1, k2, k3, k7, k8, k10, k11, k21, k22, k23, k32, k33, k34, hq1, hv1, hq2, hv2]
            generalize nodes[j]'(by omega) = nj at *
            generalize reached[j]'(by omega) = rj at *
            by_cases cv : v ≤ rj
            · rw [if_pos cv] at hmore
              have hyl := yesOf_length v (all.take j)
              rw [List.length_take] at hyl
              obtain ⟨o2, h3, ha, ho', hc2', he'⟩ := own_app (bytes := 8) (es := [[.int .i64 nj]]) (h := h2 ++ [some (.arr 1 [[.int .i64 nj]] false)]) hO hA (Ext.app _ _ _) (ys := [[.int .i64 nj]])
                (by simp [OwnLL, OwnL, Own]) hE2.1 (by simp; omega)
              simp only [go_sem, reduceIte, Nat.reduceEqDiff, Nat.reduceAdd, Nat.reduceLeDiff, Nat.reducePow, Nat.reduceDiv, Nat.reduceMod, decide_true, k1, k2, k3, k7, k8, k10, k11, k21, k22, k23, k32, k33, k34, decide_eq_true cv, aappend_of (aelems_new h2 1 [[.int .i64 nj]] false (some 1) (len := 1) rfl), ha, e2]
              refine ⟨_, by omega, j + 1, o2, rfl, by simp, ?_, hc2', ?_, cj, rfl⟩
              · rw [hmore, dInts, List.map_append]; exact ho'
              · exact (hE2.tr (Ext.b1 _)).then he' (fun m hm hm' => by have := hE2.1; omega)
            · rw [if_neg cv, List.append_nil] at hmore
              simp only [go_sem, reduceIte, Nat.reduceEqDiff, Nat.reduceAdd, Nat.reduceLeDiff, Nat.reducePow, Nat.reduceDiv, Nat.reduceMod, decide_true, k1, k2, k3, k7, k8, k10, k11, k21, k22, k23, k32, k33, k34, decide_eq_false cv, e2]
              exact ⟨_, by omega, j + 1, o', rfl, by simp, by rw [hmore]; exact hO, hA, hE2, cj, rfl⟩
          · simp at cj
            obtain rfl : j = all.length := by omega
            rw [List.take_length] at hO
            have B := hE2.get (hE.get hbox)
            simp only [go_sem, reduceIte, Nat.reduceEqDiff, Nat.reduceAdd, Nat.reduceLeDiff, Nat.reducePow, Nat.reduceDiv, Nat.reduceMod, decide_true, k1, k2, k3, k7, k8, k10, k11, k21, k22, k23, k32, k33, k34, B]
            have hyl := yesOf_length v all
            refine wCall_use ⟨hg.1, hg.2 F (fun _ => True) _ x (yesOf v all) _ o' ((((conf_rd ho hne he).up x0).up hE).up hE2) (Own.rd _ (fun _ _ => trivial) _ hO) hx (by omega)⟩ ?_
            rintro _ _ ⟨rfl, rfl⟩
            cases hw : x.won (yesOf v all)
            · simp only [go_sem, reduceIte, Nat.reduceEqDiff, Nat.reduceAdd, Nat.reduceLeDiff, Nat.reducePow, Nat.reduceDiv, Nat.reduceMod, decide_true, k1, k2, k3, k7, k8, k10, k11, k21, k22, k23, e1]
              rw [if_neg (fun h => by rw [hw] at h; exact absurd h.2 (by decide))] at hq
              exact ⟨_, by omega, i + 1, best, by simp, by simp, hE.tr hE2, ci, rfl, hq⟩
            · simp only [go_sem, reduceIte, Nat.reduceEqDiff, Nat.reduceAdd, Nat.reduceLeDiff, Nat.reducePow, Nat.reduceDiv, Nat.reduceMod, decide_true, k1, k2, k3, k7, k8, k10, k11, k21, k22, k23, e1]
              rw [if_pos ⟨by omega, hw⟩] at hq
              exact ⟨_, by omega, i + 1, v, by simp, by simp, hE.tr hE2, ci, rfl, hq⟩
    · simp at ci
      obtain rfl : i = all.length := by omega
      rw [List.drop_length] at hq
      simp only [Conf.best] at hq
      simp only [go_sem, reduceIte, Nat.reduceEqDiff, Nat.reduceAdd, Nat.reduceLeDiff, Nat.reducePow, Nat.reduceDiv, Nat.reduceMod, decide_true, k8, hq, hag]
      exact x0.tr hE

theorem gleberef10_Agreed_ok {P : Program} {f g : FuncId} (hf : Is P f (c_gleberef10_Agreed g)) (hg : WonOk P g) : AgreedOk P f := by
  refine ⟨hf.2, fun F F' F'' h x nodes reached a b c ha hb hc hx hn hr => obs (upto_int _ _ _) (fun_sound hf.1 (Nat.le_of_ble_eq_true rfl) ?_)⟩
  show vc P (c_gleberef10_Agreed g).code ⟨[(0, .agg a), (1, b), (2, c)], [], h⟩ (atEnd (c_gleberef10_Agreed g).res _)
  obtain ⟨o, n, e, rfl, ho, hne, he⟩ := rd_conf ha
  have lb := hb.ints_len
  have lc := hc.ints_len
  generalize hall : nodes.zip reached = all
  have hal : all.length = min nodes.length reached.length := by rw [← hall]; exact List.length_zip
  have hag : x.agreed nodes reached = x.best all all 0 := by simp only [Conf.agreed, hall]
  have hz : ∀ i (hi : i < all.length), all[i] = (nodes[i]'(by omega), reached[i]'(by omega)) := fun i hi => by subst hall; simp
  have hbox := bx10 h (some (.arr 3 [[o, n, e]] false))
  simp only [c_gleberef10_Agreed, go_sem, reduceIte, Nat.reduceEqDiff, Nat.reduceAdd, Nat.reduceLeDiff, Nat.reducePow, Nat.reduceDiv, Nat.reduceMod, decide_true, ho.scalar, hne.scalar, he.scalar]
  have x0 := Ext.b1 (h := h) (some (.arr 3 [[o, n, e]] false))
  refine vc_loop (fun m L h' => ∃ (i : Nat) (best : Int), lk 1 L = b ∧ lk 2 L = c ∧ lk 3 L = .ptr h.length 3 0 0 ∧ lk 7 L = .int .i64 best ∧ lk 8 L = .int .i64 i ∧
    Ext nof (h ++ [some (.arr 3 [[o, n, e]] false)]) h' ∧ i ≤ all.length ∧ m = all.length - i ∧ x.best all (all.drop i) best = x.best all all 0) all.length ?_ ?_
  · exact ⟨0, 0, by simp [lk_ins, lk_cons], by simp [lk_ins, lk_cons], by simp [lk_ins, lk_cons], by simp [lk_ins, lk_cons], by simp [lk_ins], Ext.refl _ _, by omega, by omega, rfl⟩
  · rintro m L h1 ⟨i, best, k1, k2, k3, k7, k8, hE, hi, rfl, hq⟩
    simp only [c_gleberef10_Agreed_l1, go_sem, reduceIte, Nat.reduceEqDiff, Nat.reduceAdd, Nat.reduceLeDiff, Nat.reducePow, Nat.reduceDiv, Nat.reduceMod, decide_true, k1, k2, k3, k7, k8, lb, lc]
    by_cases ci : i < all.length
    · have e1 : IntKind.i64.wrap (↑i + 1) = (i : Int) + 1 := wrap_i64 (by omega)
      obtain ⟨p, hp, hv⟩ := ((hc.up x0).up hE).int_at (i := i) (by omega)
      rw [List.drop_eq_getElem_cons ci] at hq
      simp only [Conf.best, hz i ci] at hq
      have c1 : (i : Int) < reached.length := by omega
      have c2 : (i : Int) < nodes.length := by omega
      simp only [go_sem, reduceIte, Nat.reduceEqDiff, Nat.reduceAdd, Nat.reduceLeDiff, Nat.reducePow, Nat.reduceDiv, Nat.reduceMod, decide_true, k1, k2, k3, k7, k8, decide_eq_true c1, decide_eq_true c2, lb, lc]
      have hiv : i < reached.length := by omega
      refine vc_loop (fun m L h' => ∃ (j : Nat) (o' : AV), lk 1 L = b ∧ lk 2 L = c ∧ lk 3 L = .ptr h.length 3 0 0 ∧ lk 7 L = .int .i64 best ∧ lk 8 L = .int .i64 i ∧ lk 9 L = o' ∧ lk 10 L = .int .i64 j ∧
          Own (dInts (yesOf reached[i] (all.take j))) (fun m => h1.length ≤ m) h' o' ∧ canApp h' o' ∧ Ext nof h1 h' ∧ j ≤ all.length ∧ m = all.length - j) all.length ?_ ?_
      · exact ⟨0, .nils, by simp [lk_ins, lk_cons, k1], by simp [lk_ins, lk_cons, k2], by simp [lk_ins, lk_cons, k3], by simp [lk_ins, lk_cons, k7], by simp [lk_ins, lk_cons, k8], by simp [lk_ins, lk_cons], by simp [lk_ins],
          by simpa [yesOf, dInts] using Own.nils 1, trivial, Ext.refl _ _, by omega, by omega⟩
      · rintro m L h2 ⟨j, o', k1, k2, k3, k7, k8, k9, k10, hO, hA, hE2, hj, rfl⟩
        simp only [c_gleberef10_Agreed_l0, go_sem, reduceIte, Nat.reduceEqDiff, Nat.reduceAdd, Nat.reduceLeDiff, Nat.reducePow, Nat.reduceDiv, Nat.reduceMod, decide_true, k1, k2, k3, k7, k8, k9, k10, lb, lc]
        have hv' := (((hc.up x0).up hE).up hE2).int_at hiv
        obtain ⟨p2, hp2, hv2⟩ := hv'
        by_cases cj : j < all.length
        · have e2 : IntKind.i64.wrap (↑j + 1) = (j : Int) + 1 := wrap_i64 (by omega)
          obtain ⟨q, hq1, hv1⟩ := (((hb.up x0).up hE).up hE2).int_at (i := j) (by omega)
          obtain ⟨q3, hq3, hv3⟩ := (((hc.up x0).up hE).up hE2).int_at (i := j) (by omega)
          have hmore := yesOf_more (v := reached[i]) cj
          rw [hz j cj] at hmore
          simp only at hmore
          have c1 : (j : Int) < reached.length := by omega
          have c2 : (j : Int) < nodes.length := by omega
          simp only [go_sem, reduceIte, Nat.reduceEqDiff, Nat.reduceAdd, Nat.reduceLeDiff, Nat.reducePow, Nat.reduceDiv, Nat.reduceMod, decide_true, k1, k2, k3, k7, k8, k9, k10, decide_eq_true c1, decide_eq_true c2, lb, lc, hq1, hv1, hq3, hv3, hp2, hv2]
          generalize nodes[j]'(by omega) = nj at *
          generalize reached[j]'(by omega) = rj at *
          by_cases cv : reached[i] ≤ rj
          · rw [if_pos cv] at hmore
            have hyl := yesOf_length reached[i] (all.take j)
            rw [List.length_take] at hyl
            obtain ⟨o2, h3, ha, ho', hc2', he'⟩ := own_app (bytes := 8) (es := [[.int .i64 nj]]) (h := h2 ++ [some (.arr 1 [[.int .i64 nj]] false)]) hO hA (Ext.app _ _ _) (ys := [[.int .i64 nj]])
              (by simp [OwnLL, OwnL, Own]) hE2.1 (by simp; omega)
            simp only [go_sem, reduceIte, Nat.reduceEqDiff, Nat.reduceAdd, Nat.reduceLeDiff, Nat.reducePow, Nat.reduceDiv, Nat.reduceMod, decide_true, k1, k2, k3, k7, k8, k9, k10, hq1, hv1, decide_eq_true cv, aappend_of (aelems_new h2 1 [[.int .i64 nj]] false (some 1) (len := 1) rfl), ha, e2]
            refine ⟨_, by omega, j + 1, o2, rfl, by simp, ?_, hc2', ?_, cj, rfl⟩
            · rw [hmore, dInts, List.map_append]; exact ho'
            · exact (hE2.tr (Ext.b1 _)).then he' (fun m hm hm' => by have := hE2.1; omega)
          · rw [if_neg cv, List.append_nil] at hmore
            simp only [go_sem, reduceIte, Nat.reduceEqDiff, Nat.reduceAdd, Nat.reduceLeDiff, Nat.reducePow, Nat.reduceDiv, Nat.reduceMod, decide_true, k1, k2, k3, k7, k8, k9, k10, decide_eq_false cv, e2]
            exact ⟨_, by omega, j + 1, o', rfl, by simp, by rw [hmore]; exact hO, hA, hE2, cj, rfl⟩
        · obtain rfl : j = all.length := by omega
          rw [List.take_length] at hO
          have B := hE2.get (hE.get hbox)
          have hyl := yesOf_length reached[i] all
          by_cases c2 : (all.length : Int) < nodes.length
          case' pos =>
            have c1 : ¬ (all.length : Int) < reached.length := by omega
            simp only [go_sem, reduceIte, Nat.reduceEqDiff, Nat.reduceAdd, Nat.reduceLeDiff, Nat.reducePow, Nat.reduceDiv, Nat.reduceMod, decide_true, decide_eq_true c2, decide_eq_false c1, k1, k2, k3, k7, k8, k9, k10, lc, lb, hp2, hv2]
          case' neg =>
            simp only [go_sem, reduceIte, Nat.reduceEqDiff, Nat.reduceAdd, Nat.reduceLeDiff, Nat.reducePow, Nat.reduceDiv, Nat.reduceMod, decide_true, decide_eq_false c2, k1, k2, k3, k7, k8, k9, k10, lc, lb, hp2, hv2]
          all_goals
            by_cases cb : best < reached[i]
            · simp only [go_sem, reduceIte, Nat.reduceEqDiff, Nat.reduceAdd, Nat.reduceLeDiff, Nat.reducePow, Nat.reduceDiv, Nat.reduceMod, decide_true, decide_eq_true cb, k3, k9, B]
              refine wCall_use ⟨hg.1, hg.2 F (fun _ => True) _ x (yesOf reached[i] all) _ o' ((((conf_rd ho hne he).up x0).up hE).up hE2) (Own.rd _ (fun _ _ => trivial) _ hO) hx (by omega)⟩ ?_
              rintro _ _ ⟨rfl, rfl⟩
              cases hw : x.won (yesOf reached[i] all)
              · simp only [go_sem, reduceIte, Nat.reduceEqDiff, Nat.reduceAdd, Nat.reduceLeDiff, Nat.reducePow, Nat.reduceDiv, Nat.reduceMod, decide_true, k1, k2, k3, k7, k8, k9, k10, e1]
                rw [if_neg (fun h => by rw [hw] at h; exact absurd h.2 (by decide))] at hq
                exact ⟨_, by omega, i + 1, best, by simp, by simp, hE.tr hE2, ci, rfl, hq⟩
              · simp only [go_sem, reduceIte, Nat.reduceEqDiff, Nat.reduceAdd, Nat.reduceLeDiff, Nat.reducePow, Nat.reduceDiv, Nat.reduceMod, decide_true, k1, k2, k3, k7, k8, k9, k10, hp2, hv2, e1]
                rw [if_pos ⟨cb, hw⟩] at hq
                exact ⟨_, by omega, i + 1, reached[i], by simp, by simp, hE.tr hE2, ci, rfl, hq⟩
            · simp only [go_sem, reduceIte, Nat.reduceEqDiff, Nat.reduceAdd, Nat.reduceLeDiff, Nat.reducePow, Nat.reduceDiv, Nat.reduceMod, decide_true, decide_eq_false cb, k1, k2, k3, k7, k8, k9, k10, e1]
              rw [if_neg (fun h => cb h.1)] at hq
              exact ⟨_, by omega, i + 1, best, by simp, by simp, hE.tr hE2, ci, rfl, hq⟩
    · obtain rfl : i = all.length := by omega
      rw [List.drop_length] at hq
      simp only [Conf.best] at hq
      by_cases c2 : (all.length : Int) < reached.length
      · have c1 : ¬ (all.length : Int) < nodes.length := by omega
        simp only [go_sem, reduceIte, Nat.reduceEqDiff, Nat.reduceAdd, Nat.reduceLeDiff, Nat.reducePow, Nat.reduceDiv, Nat.reduceMod, decide_true, decide_eq_true c2, decide_eq_false c1, k1, k2, lb, lc, k7, k8, hq, hag]
        exact x0.tr hE
      · simp only [go_sem, reduceIte, Nat.reduceEqDiff, Nat.reduceAdd, Nat.reduceLeDiff, Nat.reducePow, Nat.reduceDiv, Nat.reduceMod, decide_true, decide_eq_false c2, k1, k2, lb, lc, k7, k8, hq, hag]
        exact x0.tr hE

end Glb
