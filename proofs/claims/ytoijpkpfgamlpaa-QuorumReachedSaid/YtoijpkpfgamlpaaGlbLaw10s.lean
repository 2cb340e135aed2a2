/-
  The statement on what enough have reached.
-/
import Derived.Test.YtoijpkpfgamlpaaGlbLaw10r
set_option linter.unusedSimpArgs false
set_option linter.unusedVariables false
namespace Glb
open Go
set_option maxRecDepth 10000
set_option maxHeartbeats 8000000

theorem reached_ok {P : Program} {f fl fw fa fi fo fc fk : FuncId} (hf : Is P f (c_glebelaw10_QuorumReached fl fw fa fi fo fc fk)) (hl : Is P fl c_glebelaw10_long) (hw : YesOk P fw) (ha : AgreedOk P fa) (hi : HasOk P fi) (ho : WonOk P fo)
    (hc : CopyOk P fc .i64) (hk : PickOk P fk) (x : Conf) (nodes reached : List Int) (which by_ : Int) (h : AHeap) : ACalls P f [.agg x.v, aints nodes, aints reached, .int .i64 which, .int .i64 by_] h fun r _ => r = .bool true := by
  refine fun_sound hf.1 (Nat.le_of_ble_eq_true rfl) ?_
  show vc P (c_glebelaw10_QuorumReached fl fw fa fi fo fc fk).code ⟨[(0, .agg x.v), (1, aints nodes), (2, aints reached), (3, .int .i64 which), (4, .int .i64 by_)], [], h⟩ (atEnd (c_glebelaw10_QuorumReached fl fw fa fi fo fc fk).res _)
  have yes : ∀ {h : AHeap} {K : AV → AHeap → Prop}, K (.bool true) h → wCall P fw [] h K := fun hK => wCall_use ⟨hw.1, hw.2 _⟩ (by rintro _ _ ⟨rfl, rfl⟩; exact hK)
  simp only [c_glebelaw10_QuorumReached, Conf.v_eq, go_sem, reduceIte, Nat.reduceEqDiff, Nat.reduceAdd, Nat.reduceLeDiff, Nat.reducePow, Nat.reduceDiv, Nat.reduceMod, decide_true]
  have hx : ∀ h, RdL nof h x.c [aints x.old, aints x.new, aints x.learners] := fun h => by simpa only [Conf.v_eq] using rd_confv nof h x
  refine use1 hl.2 (glebelaw10_long_ok hl (hx _)) ?_
  by_cases c : 300 < x.old.length ∨ 300 < x.new.length ∨ 300 < x.learners.length
  · simp only [go_sem, reduceIte, Nat.reduceEqDiff, Nat.reduceAdd, Nat.reduceLeDiff, Nat.reducePow, Nat.reduceDiv, Nat.reduceMod, decide_true, decide_eq_true c]
    refine yes ?_
    simp only [go_sem, reduceIte, Nat.reduceEqDiff, Nat.reduceAdd, Nat.reduceLeDiff, Nat.reducePow, Nat.reduceDiv, Nat.reduceMod, decide_true]
  by_cases c1 : (300 : Int) < nodes.length
  · simp only [go_sem, reduceIte, Nat.reduceEqDiff, Nat.reduceAdd, Nat.reduceLeDiff, Nat.reducePow, Nat.reduceDiv, Nat.reduceMod, decide_true, decide_eq_false c, decide_eq_true c1]
    refine yes ?_
    simp only [go_sem, reduceIte, Nat.reduceEqDiff, Nat.reduceAdd, Nat.reduceLeDiff, Nat.reducePow, Nat.reduceDiv, Nat.reduceMod, decide_true]
  by_cases c2 : (reached.length : Int) = nodes.length
  rotate_left
  · simp only [go_sem, reduceIte, Nat.reduceEqDiff, Nat.reduceAdd, Nat.reduceLeDiff, Nat.reducePow, Nat.reduceDiv, Nat.reduceMod, decide_true, decide_eq_false c, decide_eq_false c1, decide_eq_false c2]
    refine yes ?_
    simp only [go_sem, reduceIte, Nat.reduceEqDiff, Nat.reduceAdd, Nat.reduceLeDiff, Nat.reducePow, Nat.reduceDiv, Nat.reduceMod, decide_true]
  have hnl : nodes.length = reached.length := by omega
  have hfew : x.few (2^40) := ⟨by omega, by omega, by omega⟩
  simp only [go_sem, reduceIte, Nat.reduceEqDiff, Nat.reduceAdd, Nat.reduceLeDiff, Nat.reducePow, Nat.reduceDiv, Nat.reduceMod, decide_true, decide_eq_false c, decide_eq_false c1, decide_eq_true c2]
  refine use1 ha.1 (ha.2 nof nof nof _ x nodes reached _ _ _ (hx _) (rd_aints _ _ _) (rd_aints _ _ _) hfew (by omega) (by omega)) ?_
  have hv0 := agreed_nonneg x nodes reached
  have hin := fun h => agreed_in (x := x) (n := nodes) (r := reached) h
  have hmost := fun k (hk : k < reached.length) => agreed_most (x := x) (n := nodes) (r := reached) (k := k) hnl hk
  have hwon := fun h => agreed_won (x := x) (n := nodes) (r := reached) h
  have hrise := fun k (hk : k < reached.length) => agreed_rises (x := x) (n := nodes) (r := reached) (k := k) by_ hnl hk
  generalize hall : nodes.zip reached = all at *
  have hal : all.length = reached.length := by rw [← hall]; simp [hnl]
  have hz : ∀ i (hi : i < all.length), all[i] = (nodes[i]'(by omega), reached[i]'(by omega)) := fun i hi => by subst hall; simp
  generalize x.agreed nodes reached = v at *
  have cneg : ¬ v < 0 := by omega
  have hbox := bx10 h (some (.arr 3 [[aints x.old, aints x.new, aints x.learners]] false))
  -- up to the loop
  by_cases cv : 0 < v
  case' pos =>
    simp only [go_sem, reduceIte, Nat.reduceEqDiff, Nat.reduceAdd, Nat.reduceLeDiff, Nat.reducePow, Nat.reduceDiv, Nat.reduceMod, decide_true, decide_eq_false cneg, decide_eq_true cv]
    refine use1 hi.1 (hi.2 nof _ reached _ v (rd_aints _ _ _) (by omega)) ?_
    have := hin cv
    simp only [go_sem, reduceIte, Nat.reduceEqDiff, Nat.reduceAdd, Nat.reduceLeDiff, Nat.reducePow, Nat.reduceDiv, Nat.reduceMod, decide_true, decide_eq_true this]
  case' neg =>
    simp only [go_sem, reduceIte, Nat.reduceEqDiff, Nat.reduceAdd, Nat.reduceLeDiff, Nat.reducePow, Nat.reduceDiv, Nat.reduceMod, decide_true, decide_eq_false cneg, decide_eq_false cv]
  all_goals
    refine vc_loop (fun m L h' => ∃ (i : Nat), lk 1 L = aints nodes ∧ lk 2 L = aints reached ∧ lk 3 L = .int .i64 which ∧ lk 4 L = .int .i64 by_ ∧ lk 5 L = .ptr h.length 3 0 0 ∧ lk 11 L = .int .i64 v ∧ lk 12 L = .int .i64 i ∧
      Ext nof (h ++ [some (.arr 3 [[aints x.old, aints x.new, aints x.learners]] false)]) h' ∧ i ≤ reached.length ∧ m = reached.length - i) reached.length ?_ ?_
    · exact ⟨0, by simp [lk_ins, lk_cons], by simp [lk_ins, lk_cons], by simp [lk_ins, lk_cons], by simp [lk_ins, lk_cons], by simp [lk_ins, lk_cons], by simp [lk_ins, lk_cons], by simp [lk_ins], Ext.refl _ _, by omega, by omega⟩
    · rintro m L h1 ⟨i, k1, k2, k3, k4, k5, k11, k12, hE, hi1, rfl⟩
      simp only [c_glebelaw10_QuorumReached_l1, go_sem, reduceIte, Nat.reduceEqDiff, Nat.reduceAdd, Nat.reduceLeDiff, Nat.reducePow, Nat.reduceDiv, Nat.reduceMod, decide_true, k1, k2, k3, k4, k5, k11, k12]
      refine wCond_split (fun ci => ?_) (fun ci => ?_)
      · simp at ci
        have e1 : IntKind.i64.wrap (↑i + 1) = (i : Int) + 1 := wrap_i64 (by omega)
        simp only [go_sem, reduceIte, Nat.reduceEqDiff, Nat.reduceAdd, Nat.reduceLeDiff, Nat.reducePow, Nat.reduceDiv, Nat.reduceMod, decide_true, k1, k2, k3, k4, k5, k11, k12]
        refine vc_loop (fun m L h' => ∃ (j : Nat) (o' : AV), lk 1 L = aints nodes ∧ lk 2 L = aints reached ∧ lk 3 L = .int .i64 which ∧ lk 4 L = .int .i64 by_ ∧ lk 5 L = .ptr h.length 3 0 0 ∧ lk 11 L = .int .i64 v ∧ lk 12 L = .int .i64 i ∧ lk 13 L = o' ∧ lk 14 L = .int .i64 j ∧
            Own (dInts (yesOf reached[i] (all.take j))) (fun m => h1.length ≤ m) h' o' ∧ canApp h' o' ∧ Ext nof h1 h' ∧ j ≤ all.length ∧ m = all.length - j) all.length ?_ ?_
        · exact ⟨0, .nils, by simp [lk_ins, lk_cons, k1], by simp [lk_ins, lk_cons, k2], by simp [lk_ins, lk_cons, k3], by simp [lk_ins, lk_cons, k4], by simp [lk_ins, lk_cons, k5], by simp [lk_ins, lk_cons, k11], by simp [lk_ins, lk_cons, k12], by simp [lk_ins, lk_cons], by simp [lk_ins],
            by simpa [yesOf, dInts] using Own.nils 1, trivial, Ext.refl _ _, by omega, by omega⟩
        · rintro m L h2 ⟨j, o', k1, k2, k3, k4, k5, k11, k12, k13, k14, hO, hA, hE2, hj, rfl⟩
          simp only [c_glebelaw10_QuorumReached_l0, go_sem, reduceIte, Nat.reduceEqDiff, Nat.reduceAdd, Nat.reduceLeDiff, Nat.reducePow, Nat.reduceDiv, Nat.reduceMod, decide_true, k1, k2, k3, k4, k5, k11, k12, k13, k14]
          obtain ⟨p2, hp2, hv2⟩ := (rd_aints nof h2 reached).int_at ci
          refine wCond_split (fun cj => ?_) (fun cj => ?_)
          · simp at cj
            have cj' : j < all.length := by omega
            have e2 : IntKind.i64.wrap (↑j + 1) = (j : Int) + 1 := wrap_i64 (by omega)
            obtain ⟨q, hq1, hv1⟩ := (rd_aints nof h2 nodes).int_at (i := j) (by omega)
            obtain ⟨q3, hq3, hv3⟩ := (rd_aints nof h2 reached).int_at (i := j) (by omega)
            have hmore := yesOf_more (v := reached[i]) cj'
            rw [hz j cj'] at hmore
            simp only at hmore
            simp only [go_sem, reduceIte, Nat.reduceEqDiff, Nat.reduceAdd, Nat.reduceLeDiff, Nat.reducePow, Nat.reduceDiv, Nat.reduceMod, decide_true, k1, k2, k3, k4, k5, k11, k12, k13, k14, hq1, hv1, hq3, hv3, hp2, hv2]
            generalize nodes[j]'(by omega) = nj at *
            generalize reached[j]'(by omega) = rj at *
            by_cases cc : reached[i] ≤ rj
            · rw [if_pos cc] at hmore
              have hyl := yesOf_length reached[i] (all.take j)
              rw [List.length_take] at hyl
              obtain ⟨o2, h3, ha, ho', hc2', he'⟩ := own_app (bytes := 8) (es := [[.int .i64 nj]]) (h := h2 ++ [some (.arr 1 [[.int .i64 nj]] false)]) hO hA (Ext.app _ _ _) (ys := [[.int .i64 nj]])
                (by simp [OwnLL, OwnL, Own]) hE2.1 (by simp; omega)
              simp only [go_sem, reduceIte, Nat.reduceEqDiff, Nat.reduceAdd, Nat.reduceLeDiff, Nat.reducePow, Nat.reduceDiv, Nat.reduceMod, decide_true, k1, k2, k3, k4, k5, k11, k12, k13, k14, hq1, hv1, decide_eq_true cc, aappend_of (aelems_new h2 1 [[.int .i64 nj]] false (some 1) (len := 1) rfl), ha, e2]
              refine ⟨_, by omega, j + 1, o2, rfl, by simp, ?_, hc2', ?_, cj', rfl⟩
              · rw [hmore, dInts, List.map_append]; exact ho'
              · exact (hE2.tr (Ext.b1 _)).then he' (fun m hm hm' => by have := hE2.1; omega)
            · rw [if_neg cc, List.append_nil] at hmore
              simp only [go_sem, reduceIte, Nat.reduceEqDiff, Nat.reduceAdd, Nat.reduceLeDiff, Nat.reducePow, Nat.reduceDiv, Nat.reduceMod, decide_true, k1, k2, k3, k4, k5, k11, k12, k13, k14, decide_eq_false cc, e2]
              exact ⟨_, by omega, j + 1, o', rfl, by simp, by rw [hmore]; exact hO, hA, hE2, cj', rfl⟩
          · simp at cj
            obtain rfl : j = all.length := by omega
            rw [List.take_length] at hO
            have B := hE2.get (hE.get hbox)
            have hyl := yesOf_length reached[i] all
            simp only [go_sem, reduceIte, Nat.reduceEqDiff, Nat.reduceAdd, Nat.reduceLeDiff, Nat.reducePow, Nat.reduceDiv, Nat.reduceMod, decide_true, k1, k2, k3, k4, k5, k11, k12, k13, k14, B]
            refine use1 ho.1 (ho.2 nof (fun _ => True) _ x (yesOf reached[i] all) _ o' (hx _) (Own.rd _ (fun _ _ => trivial) _ hO) hfew (by omega)) ?_
            have step : ∀ {K : Nat → Prop}, K (reached.length - (i + 1)) → ∃ m', m' < reached.length - i ∧ K m' := fun hK => ⟨_, by omega, hK⟩
            cases hwi : x.won (yesOf reached[i] all)
            · by_cases cq : reached[i] = v
              · have hnv : ¬ 0 < v := fun hh => by have := hwon hh; rw [← cq, hwi] at this; cases this
                simp only [go_sem, reduceIte, Nat.reduceEqDiff, Nat.reduceAdd, Nat.reduceLeDiff, Nat.reducePow, Nat.reduceDiv, Nat.reduceMod, decide_true, k1, k2, k3, k4, k5, k11, k12, k13, k14, hp2, hv2, decide_eq_true cq, decide_eq_false hnv, e1]
                exact ⟨_, by omega, i + 1, by simp, hE.tr hE2, ci, rfl⟩
              · simp only [go_sem, reduceIte, Nat.reduceEqDiff, Nat.reduceAdd, Nat.reduceLeDiff, Nat.reducePow, Nat.reduceDiv, Nat.reduceMod, decide_true, k1, k2, k3, k4, k5, k11, k12, k13, k14, hp2, hv2, decide_eq_false cq, e1]
                exact ⟨_, by omega, i + 1, by simp, hE.tr hE2, ci, rfl⟩
            · have hle := hmost i ci hwi
              have hnlt : ¬ v < reached[i] := by omega
              by_cases cq : reached[i] = v
              · by_cases hpv : 0 < v
                · simp only [go_sem, reduceIte, Nat.reduceEqDiff, Nat.reduceAdd, Nat.reduceLeDiff, Nat.reducePow, Nat.reduceDiv, Nat.reduceMod, decide_true, k1, k2, k3, k4, k5, k11, k12, k13, k14, hp2, hv2, decide_eq_false hnlt, decide_eq_true cq, decide_eq_true hpv, B]
                  refine use1 ho.1 (ho.2 nof (fun _ => True) _ x (yesOf reached[i] all) _ o' (hx _) (Own.rd _ (fun _ _ => trivial) _ hO) hfew (by omega)) ?_
                  simp only [go_sem, reduceIte, Nat.reduceEqDiff, Nat.reduceAdd, Nat.reduceLeDiff, Nat.reducePow, Nat.reduceDiv, Nat.reduceMod, decide_true, k1, k2, k3, k4, k5, k11, k12, k13, k14, hwi, e1]
                  exact ⟨_, by omega, i + 1, by simp, hE.tr hE2, ci, rfl⟩
                · simp only [go_sem, reduceIte, Nat.reduceEqDiff, Nat.reduceAdd, Nat.reduceLeDiff, Nat.reducePow, Nat.reduceDiv, Nat.reduceMod, decide_true, k1, k2, k3, k4, k5, k11, k12, k13, k14, hp2, hv2, decide_eq_false hnlt, decide_eq_true cq, decide_eq_false hpv, e1]
                  exact ⟨_, by omega, i + 1, by simp, hE.tr hE2, ci, rfl⟩
              · simp only [go_sem, reduceIte, Nat.reduceEqDiff, Nat.reduceAdd, Nat.reduceLeDiff, Nat.reducePow, Nat.reduceDiv, Nat.reduceMod, decide_true, k1, k2, k3, k4, k5, k11, k12, k13, k14, hp2, hv2, decide_eq_false hnlt, decide_eq_false cq, e1]
                exact ⟨_, by omega, i + 1, by simp, hE.tr hE2, ci, rfl⟩
      · simp at ci
        have B := hE.get hbox
        simp only [go_sem, reduceIte, Nat.reduceEqDiff, Nat.reduceAdd, Nat.reduceLeDiff, Nat.reducePow, Nat.reduceDiv, Nat.reduceMod, decide_true, k1, k2, k3, k4, k5, k11, k12]
        by_cases c0 : (reached.length : Int) = 0
        · have hr0 : reached = [] := List.eq_nil_of_length_eq_zero (by omega)
          have hv00 : v = 0 := by
            apply Classical.byContradiction
            intro hne
            have := hin (by omega)
            rw [hr0] at this; simp at this
          simp only [go_sem, reduceIte, Nat.reduceEqDiff, Nat.reduceAdd, Nat.reduceLeDiff, Nat.reducePow, Nat.reduceDiv, Nat.reduceMod, decide_true, decide_eq_true c0, k11, decide_eq_true hv00]
          refine yes ?_
          simp only [go_sem, reduceIte, Nat.reduceEqDiff, Nat.reduceAdd, Nat.reduceLeDiff, Nat.reducePow, Nat.reduceDiv, Nat.reduceMod, decide_true]
        · simp only [go_sem, reduceIte, Nat.reduceEqDiff, Nat.reduceAdd, Nat.reduceLeDiff, Nat.reducePow, Nat.reduceDiv, Nat.reduceMod, decide_true, decide_eq_false c0, k2, k3]
          refine wCall_use ⟨hc.1, hc.2 nof _ reached _ (rd_aints _ _ _) (by omega)⟩ ?_
          rintro r h2 ⟨ro, _, rx⟩
          have B2 := rx.get B
          have rl := (Own.rd (F' := fun _ => True) _ (fun _ _ => trivial) _ ro).ints_len
          simp only [go_sem, reduceIte, Nat.reduceEqDiff, Nat.reduceAdd, Nat.reduceLeDiff, Nat.reducePow, Nat.reduceDiv, Nat.reduceMod, decide_true, k3, rl]
          refine (hk.2 which reached.length (by omega)).use hk.1 ?_
          obtain ⟨g1, g2⟩ := pick_lt (k := which) (n := (reached.length : Int)) (by omega)
          generalize hp : pick which (reached.length : Int) = pk at *
          obtain ⟨kn, rfl⟩ : ∃ n : Nat, pk = n := ⟨pk.toNat, by omega⟩
          have hkn : kn < reached.length := by omega
          obtain ⟨p, h3, s1, s2, s3, s4, s5⟩ := own_set_int ro hkn (max reached[kn] by_)
          have B3 : h3[h.length]? = some (some (.arr 3 [[aints x.old, aints x.new, aints x.learners]] false)) := by
            rw [s5.2 _ (List.getElem?_eq_some_iff.1 B2).1 (fun hh => by have := hE.1; simp at this; omega)]; exact B2
          simp only [go_sem, reduceIte, Nat.reduceEqDiff, Nat.reduceAdd, Nat.reduceLeDiff, Nat.reducePow, Nat.reduceDiv, Nat.reduceMod, decide_true, k1, k4, k5, k11, s1, s2, s3, rev_mnmx, mnmx_max, B3]
          refine use1 ha.1 (ha.2 nof nof (fun _ => True) _ x nodes (reached.set kn (max reached[kn] by_)) _ _ _ (hx _) (rd_aints _ _ _) (Own.rd _ (fun _ _ => trivial) _ s4) hfew (by omega) (by simp; omega)) ?_
          have := hrise kn hkn
          simp only [go_sem, reduceIte, Nat.reduceEqDiff, Nat.reduceAdd, Nat.reduceLeDiff, Nat.reducePow, Nat.reduceDiv, Nat.reduceMod, decide_true, k11, decide_eq_true this]
          refine yes ?_
          simp only [go_sem, reduceIte, Nat.reduceEqDiff, Nat.reduceAdd, Nat.reduceLeDiff, Nat.reducePow, Nat.reduceDiv, Nat.reduceMod, decide_true]

end Glb
