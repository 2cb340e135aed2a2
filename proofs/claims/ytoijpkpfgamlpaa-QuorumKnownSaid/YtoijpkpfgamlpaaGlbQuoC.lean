/-
  A library of its own: its parts, one behind the other.
-/
import Derived.Test.YtoijpkpfgamlpaaGlbQuoA
import Derived.Test.YtoijpkpfgamlpaaGlbQuoB
import Derived.Test.YtoijpkpfgamlpaaGlbKitB
set_option linter.unusedSimpArgs false
set_option linter.unusedVariables false
/-
  The statement on what enough have reached.
-/
namespace Glb
open Go
set_option maxRecDepth 10000
set_option maxHeartbeats 8000000

theorem reached_ok {P : Program} {f fl fw fa fi fo fc fk : FuncId} (hf : Is P f (c_glebelaw10_QuorumReached fl fw fa fi fo fc fk)) (hl : Is P fl c_glebelaw10_long) (hw : YesOk P fw) (ha : AgreedOk P fa) (hi : HasOk P fi) (ho : WonOk P fo)
    (hc : CopyOk P fc .i64) (hk : PickOk P fk) (x : Conf) (nodes reached : List Int) (which by_ : Int) (h : AHeap) : ACalls P f [.agg x.v, aints nodes, aints reached, .int .i64 which, .int .i64 by_] h fun r _ => r = .bool true := by
  refine fun_sound hf.1 (Nat.le_of_ble_eq_true rfl) ?_
  show vc P (c_glebelaw10_QuorumReached fl fw fa fi fo fc fk).code ⟨[(0, .agg x.v), (1, aints nodes), (2, aints reached), (3, .int .i64 which), (4, .int .i64 by_)], [], h⟩ (atEnd (c_glebelaw10_QuorumReached fl fw fa fi fo fc fk).res _)
  have yes : ∀ {h : AHeap} {K : AV → AHeap → Prop}, K (.bool true) h → wCall P fw [] h K := fun hK => wCall_use ⟨hw.1, hw.2 _⟩ (by rintro _ _ ⟨rfl, rfl⟩; exact hK)
  simp only [c_glebelaw10_QuorumReached, Conf.v_eq, go_sem, reduceIte, Nat.reduceEqDiff, Nat.reduceAdd, Nat.reduceLeDiff, Nat.reducePow, Nat.reduceDiv, Nat.reduceMod, decide_true]
  have hx : ∀ h, RdL nof h x.c [aints x.old, aints x.new, aints x.learners] := fun h => by simpa only [Conf.v_eq] using rd_confv nof h x
  refine use1 hl.2 (glebelaw10_long_ok hl (hx _)) ?_
  by_cases c : 300 < x.old.length ∨ 300 < x.new.length ∨ 300 < x.learners.length
  · simp only [go_sem, reduceIte, Nat.reduceEqDiff, Nat.reduceAdd, Nat.reduceLeDiff, Nat.reducePow, Nat.reduceDiv, Nat.reduceMod, decide_true, decide_eq_true c]
    refine yes ?_
    simp only [go_sem, reduceIte, Nat.reduceEqDiff, Nat.reduceAdd, Nat.reduceLeDiff, Nat.reducePow, Nat.reduceDiv, Nat.reduceMod, decide_true]
  by_cases c1 : (300 : Int) < nodes.length
  · simp only [go_sem, reduceIte, Nat.reduceEqDiff, Nat.reduceAdd, Nat.reduceLeDiff, Nat.reducePow, Nat.reduceDiv, Nat.reduceMod, decide_true, decide_eq_false c, decide_eq_true c1]
    refine yes ?_
    simp only [go_sem, reduceIte, Nat.reduceEqDiff, Nat.reduceAdd, Nat.reduceLeDiff, Nat.reducePow, Nat.reduceDiv, Nat.reduceMod, decide_true]
  by_cases c2 : (reached.length : Int) = nodes.length
  rotate_left
  · simp only [go_sem, reduceIte, Nat.reduceEqDiff, Nat.reduceAdd, Nat.reduceLeDiff, Nat.reducePow, Nat.reduceDiv, Nat.reduceMod, decide_true, decide_eq_false c, decide_eq_false c1, decide_eq_false c2]
    refine yes ?_
    simp only [go_sem, reduceIte, Nat.reduceEqDiff, Nat.reduceAdd, Nat.reduceLeDiff, Nat.reducePow, Nat.reduceDiv, Nat.reduceMod, decide_true]
  have hnl : nodes.length = reached.length := by omega
  have hfew : x.few (2^40) := ⟨by omega, by omega, by omega⟩
  simp only [go_sem, reduceIte, Nat.reduceEqDiff, Nat.reduceAdd, Nat.reduceLeDiff, Nat.reducePow, Nat.reduceDiv, Nat.reduceMod, decide_true, decide_eq_false c, decide_eq_false c1, decide_eq_true c2]
  refine use1 ha.1 (ha.2 nof nof nof _ x nodes reached _ _ _ (hx _) (rd_aints _ _ _) (rd_aints _ _ _) hfew (by omega) (by omega)) ?_
  have hv0 := agreed_nonneg x nodes reached
  have hin := fun h => agreed_in (x := x) (n := nodes) (r := reached) h
  have hmost := fun k (hk : k < reached.length) => agreed_most (x := x) (n := nodes) (r := reached) (k := k) hnl hk
  have hwon := fun h => agreed_won (x := x) (n := nodes) (r := reached) h
  have hrise := fun k (hk : k < reached.length) => agreed_rises (x := x) (n := nodes) (r := reached) (k := k) by_ hnl hk
  generalize hall : nodes.zip reached = all at *
  have hal : all.length = reached.length := by rw [← hall]; simp [hnl]
  have hz : ∀ i (hi : i < all.length), all[i] = (nodes[i]'(by omega), reached[i]'(by omega)) := fun i hi => by subst hall; simp
  generalize x.agreed nodes reached = v at *
  have cneg : ¬ v < 0 := by omega
  have hbox := bx10 h (some (.arr 3 [[aints x.old, aints x.new, aints x.learners]] false))
  -- up to the loop
  by_cases cv : 0 < v
  case' pos =>
    simp only [go_sem, reduceIte, Nat.reduceEqDiff, Nat.reduceAdd, Nat.reduceLeDiff, Nat.reducePow, Nat.reduceDiv, Nat.reduceMod, decide_true, decide_eq_false cneg, decide_eq_true cv]
    refine use1 hi.1 (hi.2 nof _ reached _ v (rd_aints _ _ _) (by omega)) ?_
    have := hin cv
    simp only [go_sem, reduceIte, Nat.reduceEqDiff, Nat.reduceAdd, Nat.reduceLeDiff, Nat.reducePow, Nat.reduceDiv, Nat.reduceMod, decide_true, decide_eq_true this]
  case' neg =>
    simp only [go_sem, reduceIte, Nat.reduceEqDiff, Nat.reduceAdd, Nat.reduceLeDiff, Nat.reducePow, Nat.reduceDiv, Nat.reduceMod, decide_true, decide_eq_false cneg, decide_eq_false cv]
  all_goals
    refine vc_loop (fun m L h' => ∃ (i : Nat), lk 1 L = aints nodes ∧ lk 2 L = aints reached ∧ lk 3 L = .int .i64 which ∧ lk 4 L = .int .i64 by_ ∧ lk 5 L = .ptr h.length 3 0 0 ∧ lk 11 L = .int .i64 v ∧ lk 12 L = .int .i64 i ∧
      Ext nof (h ++ [some (.arr 3 [[aints x.old, aints x.new, aints x.learners]] false)]) h' ∧ i ≤ reached.length ∧ m = reached.length - i) reached.length ?_ ?_
    · exact ⟨0, by simp [lk_ins, lk_cons], by simp [lk_ins, lk_cons], by simp [lk_ins, lk_cons], by simp [lk_ins, lk_cons], by simp [lk_ins, lk_cons], by simp [lk_ins, lk_cons], by simp [lk_ins], Ext.refl _ _, by omega, by omega⟩
    · rintro m L h1 ⟨i, k1, k2, k3, k4, k5, k11, k12, hE, hi1, rfl⟩
      simp only [c_glebelaw10_QuorumReached_l1, go_sem, reduceIte, Nat.reduceEqDiff, Nat.reduceAdd, Nat.reduceLeDiff, Nat.reducePow, Nat.reduceDiv, Nat.reduceMod, decide_true, k1, k2, k3, k4, k5, k11, k12]
      refine wCond_split (fun ci => ?_) (fun ci => ?_)
      · simp at ci
        have e1 : IntKind.i64.wrap (↑i + 1) = (i : Int) + 1 := wrap_i64 (by omega)
        simp only [go_sem, reduceIte, Nat.reduceEqDiff, Nat.reduceAdd, Nat.reduceLeDiff, Nat.reducePow, Nat.reduceDiv, Nat.reduceMod, decide_true, k1, k2, k3, k4, k5, k11, k12]
        refine vc_loop (fun m L h' => ∃ (j : Nat) (o' : AV), lk 1 L = aints nodes ∧ lk 2 L = aints reached ∧ lk 3 L = .int .i64 which ∧ lk 4 L = .int .i64 by_ ∧ lk 5 L = .ptr h.length 3 0 0 ∧ lk 11 L = .int .i64 v ∧ lk 12 L = .int .i64 i ∧ lk 13 L = o' ∧ lk 14 L = .int .i64 j ∧
            Own (dInts (yesOf reached[i] (all.take j))) (fun m => h1.length ≤ m) h' o' ∧ canApp h' o' ∧ Ext nof h1 h' ∧ j ≤ all.length ∧ m = all.length - j) all.length ?_ ?_
        · exact ⟨0, .nils, by simp [lk_ins, lk_cons, k1], by simp [lk_ins, lk_cons, k2], by simp [lk_ins, lk_cons, k3], by simp [lk_ins, lk_cons, k4], by simp [lk_ins, lk_cons, k5], by simp [lk_ins, lk_cons, k11], by simp [lk_ins, lk_cons, k12], by simp [lk_ins, lk_cons], by simp [lk_ins],
            by simpa [yesOf, dInts] using Own.nils 1, trivial, Ext.refl _ _, by omega, by omega⟩
        · rintro m L h2 ⟨j, o', k1, k2, k3, k4, k5, k11, k12, k13, k14, hO, hA, hE2, hj, rfl⟩
          simp only [c_glebelaw10_QuorumReached_l0, go_sem, reduceIte, Nat.reduceEqDiff, Nat.reduceAdd, Nat.reduceLeDiff, Nat.reducePow, Nat.reduceDiv, Nat.reduceMod, decide_true, k1, k2, k3, k4, k5, k11, k12, k13, k14]
          obtain ⟨p2, hp2, hv2⟩ := (rd_aints nof h2 reached).int_at ci
          refine wCond_split (fun cj => ?_) (fun cj => ?_)
          · simp at cj
            have cj' : j < all.length := by omega
            have e2 : IntKind.i64.wrap (↑j + 1) = (j : Int) + 1 := wrap_i64 (by omega)
            obtain ⟨q, hq1, hv1⟩ := (rd_aints nof h2 nodes).int_at (i := j) (by omega)
            obtain ⟨q3, hq3, hv3⟩ := (rd_aints nof h2 reached).int_at (i := j) (by omega)
            have hmore := yesOf_more (v := reached[i]) cj'
            rw [hz j cj'] at hmore
            simp only at hmore
            simp only [go_sem, reduceIte, Nat.reduceEqDiff, Nat.reduceAdd, Nat.reduceLeDiff, Nat.reducePow, Nat.reduceDiv, Nat.reduceMod, decide_true, k1, k2, k3, k4, k5, k11, k12, k13, k14, hq1, hv1, hq3, hv3, hp2, hv2]
            generalize nodes[j]'(by omega) = nj at *
            generalize reached[j]'(by omega) = rj at *
            by_cases cc : reached[i] ≤ rj
            · rw [if_pos cc] at hmore
              have hyl := yesOf_length reached[i] (all.take j)
              rw [List.length_take] at hyl
              obtain ⟨o2, h3, ha, ho', hc2', he'⟩ := own_app (bytes := 8) (es := [[.int .i64 nj]]) (h := h2 ++ [some (.arr 1 [[.int .i64 nj]] false)]) hO hA (Ext.app _ _ _) (ys := [[.int .i64 nj]])
                (by simp [OwnLL, OwnL, Own]) hE2.1 (by simp; omega)
              simp only [go_sem, reduceIte, Nat.reduceEqDiff, Nat.reduceAdd, Nat.reduceLeDiff, Nat.reducePow, Nat.reduceDiv, Nat.reduceMod, decide_true, k1, k2, k3, k4, k5, k11, k12, k13, k14, hq1, hv1, decide_eq_true cc, aappend_of (aelems_new h2 1 [[.int .i64 nj]] false (some 1) (len := 1) rfl), ha, e2]
              refine ⟨_, by omega, j + 1, o2, rfl, by simp, ?_, hc2', ?_, cj', rfl⟩
              · rw [hmore, dInts, List.map_append]; exact ho'
              · exact (hE2.tr (Ext.b1 _)).then he' (fun m hm hm' => by have := hE2.1; omega)
            · rw [if_neg cc, List.append_nil] at hmore
              simp only [go_sem, reduceIte, Nat.reduceEqDiff, Nat.reduceAdd, Nat.reduceLeDiff, Nat.reducePow, Nat.reduceDiv, Nat.reduceMod, decide_true, k1, k2, k3, k4, k5, k11, k12, k13, k14, decide_eq_false cc, e2]
              exact ⟨_, by omega, j + 1, o', rfl, by simp, by rw [hmore]; exact hO, hA, hE2, cj', rfl⟩
          · simp at cj
            obtain rfl : j = all.length := by omega
            rw [List.take_length] at hO
            have B := hE2.get (hE.get hbox)
            have hyl := yesOf_length reached[i] all
            simp only [go_sem, reduceIte, Nat.reduceEqDiff, Nat.reduceAdd, Nat.reduceLeDiff, Nat.reducePow, Nat.reduceDiv, Nat.reduceMod, decide_true, k1, k2, k3, k4, k5, k11, k12, k13, k14, B]
            refine use1 ho.1 (ho.2 nof (fun _ => True) _ x (yesOf reached[i] all) _ o' (hx _) (Own.rd _ (fun _ _ => trivial) _ hO) hfew (by omega)) ?_
            have step : ∀ {K : Nat → Prop}, K (reached.length - (i + 1)) → ∃ m', m' < reached.length - i ∧ K m' := fun hK => ⟨_, by omega, hK⟩
            cases hwi : x.won (yesOf reached[i] all)
            · by_cases cq : reached[i] = v
              · have hnv : ¬ 0 < v := fun hh => by have := hwon hh; rw [← cq, hwi] at this; cases this
                simp only [go_sem, reduceIte, Nat.reduceEqDiff, Nat.reduceAdd, Nat.reduceLeDiff, Nat.reducePow, Nat.reduceDiv, Nat.reduceMod, decide_true, k1, k2, k3, k4, k5, k11, k12, k13, k14, hp2, hv2, decide_eq_true cq, decide_eq_false hnv, e1]
                exact ⟨_, by omega, i + 1, by simp, hE.tr hE2, ci, rfl⟩
              · simp only [go_sem, reduceIte, Nat.reduceEqDiff, Nat.reduceAdd, Nat.reduceLeDiff, Nat.reducePow, Nat.reduceDiv, Nat.reduceMod, decide_true, k1, k2, k3, k4, k5, k11, k12, k13, k14, hp2, hv2, decide_eq_false cq, e1]
                exact ⟨_, by omega, i + 1, by simp, hE.tr hE2, ci, rfl⟩
            · have hle := hmost i ci hwi
              have hnlt : ¬ v < reached[i] := by omega
              by_cases cq : reached[i] = v
              · by_cases hpv : 0 < v
                · simp only [go_sem, reduceIte, Nat.reduceEqDiff, Nat.reduceAdd, Nat.reduceLeDiff, Nat.reducePow, Nat.reduceDiv, Nat.reduceMod, decide_true, k1, k2, k3, k4, k5, k11, k12, k13, k14, hp2, hv2, decide_eq_false hnlt, decide_eq_true cq, decide_eq_true hpv, B]
                  refine use1 ho.1 (ho.2 nof (fun _ => True) _ x (yesOf reached[i] all) _ o' (hx _) (Own.rd _ (fun _ _ => trivial) _ hO) hfew (by omega)) ?_
                  simp only [go_sem, reduceIte, Nat.reduceEqDiff, Nat.reduceAdd, Nat.reduceLeDiff, Nat.reducePow, Nat.reduceDiv, Nat.reduceMod, decide_true, k1, k2, k3, k4, k5, k11, k12, k13, k14, hwi, e1]
                  exact ⟨_, by omega, i + 1, by simp, hE.tr hE2, ci, rfl⟩
                · simp only [go_sem, reduceIte, Nat.reduceEqDiff, Nat.reduceAdd, Nat.reduceLeDiff, Nat.reducePow, Nat.reduceDiv, Nat.reduceMod, decide_true, k1, k2, k3, k4, k5, k11, k12, k13, k14, hp2, hv2, decide_eq_false hnlt, decide_eq_true cq, decide_eq_false hpv, e1]
                  exact ⟨_, by omega, i + 1, by simp, hE.tr hE2, ci, rfl⟩
              · simp only [go_sem, reduceIte, Nat.reduceEqDiff, Nat.reduceAdd, Nat.reduceLeDiff, Nat.reducePow, Nat.reduceDiv, Nat.reduceMod, decide_true, k1, k2, k3, k4, k5, k11, k12, k13, k14, hp2, hv2, decide_eq_false hnlt, decide_eq_false cq, e1]
                exact ⟨_, by omega, i + 1, by simp, hE.tr hE2, ci, rfl⟩
      · simp at ci
        have B := hE.get hbox
        simp only [go_sem, reduceIte, Nat.reduceEqDiff, Nat.reduceAdd, Nat.reduceLeDiff, Nat.reducePow, Nat.reduceDiv, Nat.reduceMod, decide_true, k1, k2, k3, k4, k5, k11, k12]
        by_cases c0 : (reached.length : Int) = 0
        · have hr0 : reached = [] := List.eq_nil_of_length_eq_zero (by omega)
          have hv00 : v = 0 := by
            apply Classical.byContradiction
            intro hne
            have := hin (by omega)
            rw [hr0] at this; simp at this
          simp only [go_sem, reduceIte, Nat.reduceEqDiff, Nat.reduceAdd, Nat.reduceLeDiff, Nat.reducePow, Nat.reduceDiv, Nat.reduceMod, decide_true, decide_eq_true c0, k11, decide_eq_true hv00]
          refine yes ?_
          simp only [go_sem, reduceIte, Nat.reduceEqDiff, Nat.reduceAdd, Nat.reduceLeDiff, Nat.reducePow, Nat.reduceDiv, Nat.reduceMod, decide_true]
        · simp only [go_sem, reduceIte, Nat.reduceEqDiff, Nat.reduceAdd, Nat.reduceLeDiff, Nat.reducePow, Nat.reduceDiv, Nat.reduceMod, decide_true, decide_eq_false c0, k2, k3]
          refine wCall_use ⟨hc.1, hc.2 nof _ reached _ (rd_aints _ _ _) (by omega)⟩ ?_
          rintro r h2 ⟨ro, _, rx⟩
          have B2 := rx.get B
          have rl := (Own.rd (F' := fun _ => True) _ (fun _ _ => trivial) _ ro).ints_len
          simp only [go_sem, reduceIte, Nat.reduceEqDiff, Nat.reduceAdd, Nat.reduceLeDiff, Nat.reducePow, Nat.reduceDiv, Nat.reduceMod, decide_true, k3, rl]
          refine (hk.2 which reached.length (by omega)).use hk.1 ?_
          obtain ⟨g1, g2⟩ := pick_lt (k := which) (n := (reached.length : Int)) (by omega)
          generalize hp : pick which (reached.length : Int) = pk at *
          obtain ⟨kn, rfl⟩ : ∃ n : Nat, pk = n := ⟨pk.toNat, by omega⟩
          have hkn : kn < reached.length := by omega
          obtain ⟨p, h3, s1, s2, s3, s4, s5⟩ := own_set_int ro hkn (max reached[kn] by_)
          have B3 : h3[h.length]? = some (some (.arr 3 [[aints x.old, aints x.new, aints x.learners]] false)) := by
            rw [s5.2 _ (List.getElem?_eq_some_iff.1 B2).1 (fun hh => by have := hE.1; simp at this; omega)]; exact B2
          simp only [go_sem, reduceIte, Nat.reduceEqDiff, Nat.reduceAdd, Nat.reduceLeDiff, Nat.reducePow, Nat.reduceDiv, Nat.reduceMod, decide_true, k1, k4, k5, k11, s1, s2, s3, rev_mnmx, mnmx_max, B3]
          refine use1 ha.1 (ha.2 nof nof (fun _ => True) _ x nodes (reached.set kn (max reached[kn] by_)) _ _ _ (hx _) (rd_aints _ _ _) (Own.rd _ (fun _ _ => trivial) _ s4) hfew (by omega) (by simp; omega)) ?_
          have := hrise kn hkn
          simp only [go_sem, reduceIte, Nat.reduceEqDiff, Nat.reduceAdd, Nat.reduceLeDiff, Nat.reducePow, Nat.reduceDiv, Nat.reduceMod, decide_true, k11, decide_eq_true this]
          refine yes ?_
          simp only [go_sem, reduceIte, Nat.reduceEqDiff, Nat.reduceAdd, Nat.reduceLeDiff, Nat.reducePow, Nat.reduceDiv, Nat.reduceMod, decide_true]

end Glb

/-
  Two that are enough have a voter in common.
-/
namespace Glb
open Go
set_option maxRecDepth 10000
set_option maxHeartbeats 4000000

theorem countP_two (p q : Int → Bool) : ∀ l : List Int, l.countP p + l.countP q ≤ l.length + l.countP fun n => p n && q n
  | [] => by simp
  | x :: r => by
    have := countP_two p q r
    simp only [List.countP_cons, List.length_cons]
    cases p x <;> cases q x <;> simp <;> omega

theorem enough_meet {l a b : List Int} (ha : enough l a = true) (hb : enough l b = true) : ∃ n ∈ l, n ∈ a ∧ n ∈ b := by
  simp only [enough, decide_eq_true_eq] at ha hb
  have h1 := countP_two (fun n => decide (n ∈ a)) (fun n => decide (n ∈ b)) l
  have h2 : 0 < l.countP fun n => decide (n ∈ a) && decide (n ∈ b) := by omega
  obtain ⟨n, hn, hp⟩ := List.countP_pos_iff.1 h2
  simp at hp
  exact ⟨n, hn, hp⟩

def meets (a b c : List Int) : Bool := a.any fun n => decide (n ∈ b) && decide (n ∈ c)
theorem meets_of {l a b c : List Int} (ha : enough l a = true) (hb : enough l b = true) (hc : ∀ n ∈ l, n ∈ c) : meets a b c = true := by
  obtain ⟨n, h1, h2, h3⟩ := enough_meet ha hb
  simp only [meets, List.any_eq_true]
  exact ⟨n, h2, by simp [h3, hc n h1]⟩

theorem won_old {x : Conf} {a : List Int} (h : x.won a = true) : enough x.old a = true := by
  simp only [Conf.won, Bool.and_eq_true] at h; exact h.1
theorem won_new {x : Conf} {a : List Int} (h : x.won a = true) (hn : x.new ≠ []) : enough x.new a = true := by
  simp only [Conf.won, Bool.and_eq_true, Bool.or_eq_true, decide_eq_true_eq] at h
  exact h.2.resolve_left fun e => hn (List.eq_nil_of_length_eq_zero e)
theorem mem_voters {x : Conf} {n : Int} : n ∈ x.voters ↔ n ∈ x.old ∨ n ∈ x.new := by
  rw [Conf.voters, (uni_rises _).2, List.mem_append]

def MeetOk (P : Program) (f : FuncId) : Prop :=
  isFn P f = true ∧ ∀ (F G H : Nat → Prop) (h : AHeap) (l m k : List Int) (a b c : AV), Rd F h (dInts l) a → Rd G h (dInts m) b → Rd H h (dInts k) c → l.length ≤ 2^40 → m.length ≤ 2^40 → k.length ≤ 2^40 →
    ACalls P f [a, b, c] h fun r h' => r = .bool (meets l m k) ∧ h' = h

theorem meet_ok {P : Program} {f g : FuncId} (hf : Is P f (c_glebelaw10_meet g)) (hg : HasOk P g) : MeetOk P f := by
  refine ⟨hf.2, fun F G H h l m k a b c ha hb hc h1 h2 h3 => fun_sound hf.1 (Nat.le_of_ble_eq_true rfl) ?_⟩
  show vc P (c_glebelaw10_meet g).code ⟨[(0, a), (1, b), (2, c)], [], h⟩ (atEnd (c_glebelaw10_meet g).res _)
  have la := ha.ints_len
  simp only [c_glebelaw10_meet, go_sem, reduceIte, Nat.reduceEqDiff, Nat.reduceAdd, Nat.reduceLeDiff, Nat.reducePow, Nat.reduceDiv, Nat.reduceMod, decide_true, la]
  refine vc_loop (fun z L h' => ∃ i : Nat, lk 0 L = a ∧ lk 1 L = b ∧ lk 2 L = c ∧ lk 7 L = .int .i64 i ∧ h = h' ∧ i ≤ l.length ∧ z = l.length - i ∧ meets (l.drop i) m k = meets l m k) l.length ?_ ?_
  · exact ⟨0, by simp [lk_ins, lk_cons], by simp [lk_ins, lk_cons], by simp [lk_ins, lk_cons], by simp [lk_ins], rfl, by omega, by omega, rfl⟩
  · rintro z L h' ⟨i, k0, k1, k2, k7, rfl, hi, rfl, hq⟩
    simp only [c_glebelaw10_meet_l0, go_sem, reduceIte, Nat.reduceEqDiff, Nat.reduceAdd, Nat.reduceLeDiff, Nat.reducePow, Nat.reduceDiv, Nat.reduceMod, decide_true, k0, k1, k2, k7, la]
    refine wCond_split (fun ci => ?_) (fun ci => ?_)
    · simp at ci
      obtain ⟨p, hp, hv⟩ := ha.int_at ci
      have e1 : IntKind.i64.wrap (↑i + 1) = (i : Int) + 1 := wrap_i64 (by omega)
      rw [List.drop_eq_getElem_cons ci, meets, List.any_cons] at hq
      simp only [go_sem, reduceIte, Nat.reduceEqDiff, Nat.reduceAdd, Nat.reduceLeDiff, Nat.reducePow, Nat.reduceDiv, Nat.reduceMod, decide_true, k0, k1, k2, k7, hp, hv]
      refine use1 hg.1 (hg.2 G _ m b _ hb h2) ?_
      by_cases c1 : l[i] ∈ m
      · simp only [go_sem, reduceIte, Nat.reduceEqDiff, Nat.reduceAdd, Nat.reduceLeDiff, Nat.reducePow, Nat.reduceDiv, Nat.reduceMod, decide_true, decide_eq_true c1, k0, k1, k2, k7, hp, hv]
        refine use1 hg.1 (hg.2 H _ k c _ hc h3) ?_
        by_cases c2 : l[i] ∈ k
        · simp only [go_sem, reduceIte, Nat.reduceEqDiff, Nat.reduceAdd, Nat.reduceLeDiff, Nat.reducePow, Nat.reduceDiv, Nat.reduceMod, decide_true, decide_eq_true c2]
          rw [← hq]; simp [c1, c2]
        · simp only [go_sem, reduceIte, Nat.reduceEqDiff, Nat.reduceAdd, Nat.reduceLeDiff, Nat.reducePow, Nat.reduceDiv, Nat.reduceMod, decide_true, decide_eq_false c2, k0, k1, k2, k7, e1]
          exact ⟨_, by omega, i + 1, by simp, ci, rfl, by rw [← hq]; simp [c2, meets]⟩
      · simp only [go_sem, reduceIte, Nat.reduceEqDiff, Nat.reduceAdd, Nat.reduceLeDiff, Nat.reducePow, Nat.reduceDiv, Nat.reduceMod, decide_true, decide_eq_false c1, k0, k1, k2, k7, e1]
        exact ⟨_, by omega, i + 1, by simp, ci, rfl, by rw [← hq]; simp [c1, meets]⟩
    · simp at ci
      obtain rfl : i = l.length := by omega
      rw [List.drop_length] at hq
      simp only [go_sem, reduceIte, Nat.reduceEqDiff, Nat.reduceAdd, Nat.reduceLeDiff, Nat.reducePow, Nat.reduceDiv, Nat.reduceMod, decide_true]
      rw [← hq]; rfl

theorem rd_c3 {F : Nat → Prop} {h : AHeap} {l : List Int} {a : AV} (ha : Rd F h (dInts l) a) : RdL F h (⟨l, [], []⟩ : Conf).c [a, .nils, .nils] := conf_rd ha (Rd.nils 1) (Rd.nils 1)

theorem meets_ok {P : Program} {f fl fc fw fv fo fm : FuncId} (hf : Is P f (c_glebelaw10_QuorumMeets fl fc fw fv fo fm)) (hl : Is P fl c_glebelaw10_long) (hc : CheckOk P fc) (hw : YesOk P fw) (hv : ListOk P fv Conf.voters) (ho : WonOk P fo) (hm : MeetOk P fm)
    (x : Conf) (a b : List Int) (h : AHeap) : ACalls P f [.agg x.v, aints a, aints b] h fun r _ => r = .bool true := by
  refine fun_sound hf.1 (Nat.le_of_ble_eq_true rfl) ?_
  show vc P (c_glebelaw10_QuorumMeets fl fc fw fv fo fm).code ⟨[(0, .agg x.v), (1, aints a), (2, aints b)], [], h⟩ (atEnd (c_glebelaw10_QuorumMeets fl fc fw fv fo fm).res _)
  have yes : ∀ {h : AHeap} {K : AV → AHeap → Prop}, K (.bool true) h → wCall P fw [] h K := fun hK => wCall_use ⟨hw.1, hw.2 _⟩ (by rintro _ _ ⟨rfl, rfl⟩; exact hK)
  have hx : ∀ h, RdL nof h x.c [aints x.old, aints x.new, aints x.learners] := fun h => by simpa only [Conf.v_eq] using rd_confv nof h x
  simp only [c_glebelaw10_QuorumMeets, Conf.v_eq, go_sem, reduceIte, Nat.reduceEqDiff, Nat.reduceAdd, Nat.reduceLeDiff, Nat.reducePow, Nat.reduceDiv, Nat.reduceMod, decide_true]
  refine use1 hl.2 (glebelaw10_long_ok hl (hx _)) ?_
  by_cases c : 300 < x.old.length ∨ 300 < x.new.length ∨ 300 < x.learners.length
  · simp only [go_sem, reduceIte, Nat.reduceEqDiff, Nat.reduceAdd, Nat.reduceLeDiff, Nat.reducePow, Nat.reduceDiv, Nat.reduceMod, decide_true, decide_eq_true c]
    refine yes ?_
    simp only [go_sem, reduceIte, Nat.reduceEqDiff, Nat.reduceAdd, Nat.reduceLeDiff, Nat.reducePow, Nat.reduceDiv, Nat.reduceMod, decide_true]
  by_cases c1 : (300 : Int) < a.length
  · simp only [go_sem, reduceIte, Nat.reduceEqDiff, Nat.reduceAdd, Nat.reduceLeDiff, Nat.reducePow, Nat.reduceDiv, Nat.reduceMod, decide_true, decide_eq_false c, decide_eq_true c1]
    refine yes ?_
    simp only [go_sem, reduceIte, Nat.reduceEqDiff, Nat.reduceAdd, Nat.reduceLeDiff, Nat.reducePow, Nat.reduceDiv, Nat.reduceMod, decide_true]
  by_cases c2 : (300 : Int) < b.length
  · simp only [go_sem, reduceIte, Nat.reduceEqDiff, Nat.reduceAdd, Nat.reduceLeDiff, Nat.reducePow, Nat.reduceDiv, Nat.reduceMod, decide_true, decide_eq_false c, decide_eq_false c1, decide_eq_true c2]
    refine yes ?_
    simp only [go_sem, reduceIte, Nat.reduceEqDiff, Nat.reduceAdd, Nat.reduceLeDiff, Nat.reducePow, Nat.reduceDiv, Nat.reduceMod, decide_true]
  have hfew : x.few (2^38) := ⟨by omega, by omega, by omega⟩
  have hfew2 : x.few (2^40) := ⟨by omega, by omega, by omega⟩
  simp only [go_sem, reduceIte, Nat.reduceEqDiff, Nat.reduceAdd, Nat.reduceLeDiff, Nat.reducePow, Nat.reduceDiv, Nat.reduceMod, decide_true, decide_eq_false c, decide_eq_false c1, decide_eq_false c2]
  refine use1 hc.1 (hc.2 nof _ x _ (hx _) hfew) ?_
  cases hr : x.right
  · simp only [go_sem, reduceIte, Nat.reduceEqDiff, Nat.reduceAdd, Nat.reduceLeDiff, Nat.reducePow, Nat.reduceDiv, Nat.reduceMod, decide_true, Bool.false_eq_true, if_false, show (!decide ((29 : Int) = 0)) = true from rfl]
    refine yes ?_
    simp only [go_sem, reduceIte, Nat.reduceEqDiff, Nat.reduceAdd, Nat.reduceLeDiff, Nat.reducePow, Nat.reduceDiv, Nat.reduceMod, decide_true]
  simp only [go_sem, reduceIte, Nat.reduceEqDiff, Nat.reduceAdd, Nat.reduceLeDiff, Nat.reducePow, Nat.reduceDiv, Nat.reduceMod, decide_true, if_true, show (!decide ((0 : Int) = 0)) = false from rfl]
  refine wCall_use ⟨hv.1, hv.2 nof _ x _ (hx _) hfew⟩ ?_
  rintro v h1 ⟨vo, vx⟩
  have vr : Rd (fun _ => True) h1 (dInts x.voters) v := Own.rd _ (fun _ _ => trivial) _ vo
  have vl : x.voters.length ≤ 2^40 := by have := uni_length (x.old ++ x.new); simp only [List.length_append] at this; simp only [Conf.voters]; omega
  have B := vx.get (bx10 h (some (.arr 3 [[aints x.old, aints x.new, aints x.learners]] false)))
  have wx : ∀ (l : List Int) {K : AV → AHeap → Prop}, l.length ≤ 300 → K (.bool (x.won l)) h1 → wCall P fo [.agg [aints x.old, aints x.new, aints x.learners], aints l] h1 K := fun l {K} hl hk =>
    use1 ho.1 (ho.2 nof nof h1 x l _ _ (hx _) (rd_aints _ _ _) hfew2 (by omega)) hk
  have w1 : ∀ (o l : List Int) {K : AV → AHeap → Prop}, o.length ≤ 300 → l.length ≤ 300 → K (.bool (enough o l)) h1 → wCall P fo [.agg [aints o, .nils, .nils], aints l] h1 K := fun o l {K} h3 h4 hk =>
    use1 ho.1 (ho.2 nof nof h1 ⟨o, [], []⟩ l _ _ (rd_c3 (rd_aints _ _ _)) (rd_aints _ _ _) ⟨by show o.length ≤ _; omega, by simp, by simp⟩ (by omega)) (by simpa [Conf.won] using hk)
  have mt : ∀ (G : Nat → Prop) (k : List Int) (z : AV) {K : AV → AHeap → Prop}, Rd G h1 (dInts k) z → k.length ≤ 2^40 → K (.bool (meets a b k)) h1 → wCall P fm [aints a, aints b, z] h1 K := fun G k z {K} h3 h4 hk =>
    use1 hm.1 (hm.2 nof nof G h1 a b k _ _ _ (rd_aints _ _ _) (rd_aints _ _ _) h3 (by omega) (by omega) h4) hk
  have sub1 : ∀ n ∈ x.old, n ∈ x.voters := fun n hn => mem_voters.2 (.inl hn)
  have t3 : ∀ n, n ∈ x.old → n ∈ x.old := fun _ h => h
  simp only [go_sem, reduceIte, Nat.reduceEqDiff, Nat.reduceAdd, Nat.reduceLeDiff, Nat.reducePow, Nat.reduceDiv, Nat.reduceMod, decide_true, B]
  refine wx a (by omega) ?_
  have l3 : ∀ n, n ∈ x.new → n ∈ x.new := fun _ h => h
  -- each test: holds or is not asked
  cases ea : x.won a <;> simp only [go_sem, reduceIte, Nat.reduceEqDiff, Nat.reduceAdd, Nat.reduceLeDiff, Nat.reducePow, Nat.reduceDiv, Nat.reduceMod, decide_true, B]
  case' true =>
    refine wx b (by omega) ?_
    cases eb : x.won b <;> simp only [go_sem, reduceIte, Nat.reduceEqDiff, Nat.reduceAdd, Nat.reduceLeDiff, Nat.reducePow, Nat.reduceDiv, Nat.reduceMod, decide_true, B]
    case' true =>
      refine mt _ _ _ vr vl ?_
      simp only [go_sem, reduceIte, Nat.reduceEqDiff, Nat.reduceAdd, Nat.reduceLeDiff, Nat.reducePow, Nat.reduceDiv, Nat.reduceMod, decide_true, B, meets_of (won_old ea) (won_old eb) sub1]
  all_goals
    refine w1 x.old a (by omega) (by omega) ?_
    cases eo : enough x.old a <;> simp only [go_sem, reduceIte, Nat.reduceEqDiff, Nat.reduceAdd, Nat.reduceLeDiff, Nat.reducePow, Nat.reduceDiv, Nat.reduceMod, decide_true, B]
    case' true =>
      refine wx b (by omega) ?_
      cases eb2 : x.won b <;> simp only [go_sem, reduceIte, Nat.reduceEqDiff, Nat.reduceAdd, Nat.reduceLeDiff, Nat.reducePow, Nat.reduceDiv, Nat.reduceMod, decide_true, B]
      case' true =>
        refine mt nof x.old _ (rd_aints _ _ _) (by omega) ?_
        simp only [go_sem, reduceIte, Nat.reduceEqDiff, Nat.reduceAdd, Nat.reduceLeDiff, Nat.reducePow, Nat.reduceDiv, Nat.reduceMod, decide_true, B, meets_of eo (won_old eb2) t3]
    all_goals
      by_cases c3 : 0 < (x.new.length : Int)
      case neg =>
        simp only [go_sem, reduceIte, Nat.reduceEqDiff, Nat.reduceAdd, Nat.reduceLeDiff, Nat.reducePow, Nat.reduceDiv, Nat.reduceMod, decide_true, B, decide_eq_false c3]
        refine yes ?_
        simp only [go_sem, reduceIte, Nat.reduceEqDiff, Nat.reduceAdd, Nat.reduceLeDiff, Nat.reducePow, Nat.reduceDiv, Nat.reduceMod, decide_true]
      have hne : x.new ≠ [] := by rintro e; rw [e] at c3; simp at c3
      simp only [go_sem, reduceIte, Nat.reduceEqDiff, Nat.reduceAdd, Nat.reduceLeDiff, Nat.reducePow, Nat.reduceDiv, Nat.reduceMod, decide_true, B, decide_eq_true c3]
      refine wx a (by omega) ?_
      simp only [go_sem, reduceIte, Nat.reduceEqDiff, Nat.reduceAdd, Nat.reduceLeDiff, Nat.reducePow, Nat.reduceDiv, Nat.reduceMod, decide_true, B, ea]
      first
        | (refine w1 x.new b (by omega) (by omega) ?_
           cases en : enough x.new b <;> simp only [go_sem, reduceIte, Nat.reduceEqDiff, Nat.reduceAdd, Nat.reduceLeDiff, Nat.reducePow, Nat.reduceDiv, Nat.reduceMod, decide_true, B]
           case' true =>
             refine mt nof x.new _ (rd_aints _ _ _) (by omega) ?_
             simp only [go_sem, reduceIte, Nat.reduceEqDiff, Nat.reduceAdd, Nat.reduceLeDiff, Nat.reducePow, Nat.reduceDiv, Nat.reduceMod, decide_true, B, meets_of (won_new ea hne) en l3]
           all_goals
             refine yes ?_
             simp only [go_sem, reduceIte, Nat.reduceEqDiff, Nat.reduceAdd, Nat.reduceLeDiff, Nat.reducePow, Nat.reduceDiv, Nat.reduceMod, decide_true])
        | (refine yes ?_
           simp only [go_sem, reduceIte, Nat.reduceEqDiff, Nat.reduceAdd, Nat.reduceLeDiff, Nat.reducePow, Nat.reduceDiv, Nat.reduceMod, decide_true])

end Glb

/-
  Who is enough stays so with more; what is told of members.
-/
namespace Glb
open Go
set_option maxRecDepth 10000
set_option maxHeartbeats 8000000

theorem won_nil (x : Conf) : x.won [] = false := by simp [Conf.won, enough]
theorem won_ext {x : Conf} {a b : List Int} (h : ∀ n, n ∈ a ↔ n ∈ b) : x.won a = x.won b := by
  rw [Bool.eq_iff_iff]
  exact ⟨won_mono fun n hn => (h n).1 hn, won_mono fun n hn => (h n).2 hn⟩
theorem enough_all {l a : List Int} (h : ∀ n ∈ l, n ∈ a) (hl : l.length ≠ 0) : enough l a = true := by
  have : (l.countP fun n => decide (n ∈ a)) = l.length := List.countP_eq_length.2 fun n hn => by simpa using h n hn
  simp only [enough, this, decide_eq_true_eq]; omega
theorem won_voters {x : Conf} (h : x.right = true) : x.won x.voters = true := by
  have h0 : x.old.length ≠ 0 := by
    intro e
    rw [Conf.right_eq, e] at h; simp at h
  simp only [Conf.won, Bool.and_eq_true, Bool.or_eq_true, decide_eq_true_eq]
  refine ⟨enough_all (fun n hn => mem_voters.2 (.inl hn)) h0, ?_⟩
  by_cases hn : x.new.length = 0
  · exact .inl hn
  · exact .inr (enough_all (fun n hn => mem_voters.2 (.inr hn)) hn)

/-- a list of one's own with another one's numbers behind it -/
theorem own_more {lo : Nat} {h : AHeap} {l k : List Int} {a b : AV} {F : Nat → Prop} (ho : Own (dInts l) (fun m => lo ≤ m) h a) (hc : canApp h a) (hb : Rd F h (dInts k) b) (hlo : lo ≤ h.length) (hl : l.length ≤ 2^40) (hk : k.length ≤ 2^40) :
    ∃ o h', aappend h 1 8 a b = some (o, h') ∧ Own (dInts (l ++ k)) (fun m => lo ≤ m) h' o ∧ canApp h' o ∧ Ext (fun m => lo ≤ m) h h' := by
  obtain ⟨ys, hys, hyr⟩ := hb.elems
  obtain ⟨o, h', ha, ho', hc', he'⟩ := own_app (bytes := 8) ho hc (Ext.refl nof _) (own_ints1 hyr) hlo (by simp only [List.length_map]; omega)
  have ha2 := aappend_of hys 8 a
  exact ⟨o, h', by rw [ha2]; exact ha, by rw [dInts, List.map_append]; exact ho', hc', he'⟩

theorem more_ok {P : Program} {f fl fw fc fo fk fv : FuncId} (hf : Is P f (c_glebelaw10_QuorumMore fl fw fc fo fk fv)) (hl : Is P fl c_glebelaw10_long) (hw : YesOk P fw) (hc : CopyOk P fc .i64) (ho : WonOk P fo) (hk : CheckOk P fk) (hv : ListOk P fv Conf.voters)
    (x : Conf) (a more : List Int) (h : AHeap) : ACalls P f [.agg x.v, aints a, aints more] h fun r _ => r = .bool true := by
  refine fun_sound hf.1 (Nat.le_of_ble_eq_true rfl) ?_
  show vc P (c_glebelaw10_QuorumMore fl fw fc fo fk fv).code ⟨[(0, .agg x.v), (1, aints a), (2, aints more)], [], h⟩ (atEnd (c_glebelaw10_QuorumMore fl fw fc fo fk fv).res _)
  have yes : ∀ {h : AHeap} {K : AV → AHeap → Prop}, K (.bool true) h → wCall P fw [] h K := fun hK => wCall_use ⟨hw.1, hw.2 _⟩ (by rintro _ _ ⟨rfl, rfl⟩; exact hK)
  have hx : ∀ h, RdL nof h x.c [aints x.old, aints x.new, aints x.learners] := fun h => by simpa only [Conf.v_eq] using rd_confv nof h x
  simp only [c_glebelaw10_QuorumMore, Conf.v_eq, go_sem, reduceIte, Nat.reduceEqDiff, Nat.reduceAdd, Nat.reduceLeDiff, Nat.reducePow, Nat.reduceDiv, Nat.reduceMod, decide_true]
  refine use1 hl.2 (glebelaw10_long_ok hl (hx _)) ?_
  by_cases c : 300 < x.old.length ∨ 300 < x.new.length ∨ 300 < x.learners.length
  · simp only [go_sem, reduceIte, Nat.reduceEqDiff, Nat.reduceAdd, Nat.reduceLeDiff, Nat.reducePow, Nat.reduceDiv, Nat.reduceMod, decide_true, decide_eq_true c]
    refine yes ?_
    simp only [go_sem, reduceIte, Nat.reduceEqDiff, Nat.reduceAdd, Nat.reduceLeDiff, Nat.reducePow, Nat.reduceDiv, Nat.reduceMod, decide_true]
  by_cases c1 : (300 : Int) < a.length
  · simp only [go_sem, reduceIte, Nat.reduceEqDiff, Nat.reduceAdd, Nat.reduceLeDiff, Nat.reducePow, Nat.reduceDiv, Nat.reduceMod, decide_true, decide_eq_false c, decide_eq_true c1]
    refine yes ?_
    simp only [go_sem, reduceIte, Nat.reduceEqDiff, Nat.reduceAdd, Nat.reduceLeDiff, Nat.reducePow, Nat.reduceDiv, Nat.reduceMod, decide_true]
  by_cases c2 : (300 : Int) < more.length
  · simp only [go_sem, reduceIte, Nat.reduceEqDiff, Nat.reduceAdd, Nat.reduceLeDiff, Nat.reducePow, Nat.reduceDiv, Nat.reduceMod, decide_true, decide_eq_false c, decide_eq_false c1, decide_eq_true c2]
    refine yes ?_
    simp only [go_sem, reduceIte, Nat.reduceEqDiff, Nat.reduceAdd, Nat.reduceLeDiff, Nat.reducePow, Nat.reduceDiv, Nat.reduceMod, decide_true]
  have hfew : x.few (2^38) := ⟨by omega, by omega, by omega⟩
  have hfew2 : x.few (2^40) := ⟨by omega, by omega, by omega⟩
  simp only [go_sem, reduceIte, Nat.reduceEqDiff, Nat.reduceAdd, Nat.reduceLeDiff, Nat.reducePow, Nat.reduceDiv, Nat.reduceMod, decide_true, decide_eq_false c, decide_eq_false c1, decide_eq_false c2]
  refine wCall_use ⟨hc.1, hc.2 nof _ more _ (rd_aints _ _ _) (by omega)⟩ ?_
  rintro r h1 ⟨ro, rc, rx⟩
  obtain ⟨o, h2, s1, s2, s3, s4⟩ := own_more ro rc (rd_aints nof h1 a) rx.1 (by omega) (by omega)
  have X2 := rx.then s4 (fun m hm hm' => by omega)
  have B := X2.get (bx10 h (some (.arr 3 [[aints x.old, aints x.new, aints x.learners]] false)))
  have hor : ∀ {h3}, Ext nof h2 h3 → Rd (fun _ => True) h3 (dInts (more ++ a)) o := fun e => (Own.rd _ (fun _ _ => trivial) _ s2).up e
  have hll : (more ++ a).length ≤ 2^40 := by simp; omega
  simp only [go_sem, reduceIte, Nat.reduceEqDiff, Nat.reduceAdd, Nat.reduceLeDiff, Nat.reducePow, Nat.reduceDiv, Nat.reduceMod, decide_true, s1, B]
  refine use1 ho.1 (ho.2 nof nof _ x a _ _ (hx _) (rd_aints _ _ _) hfew2 (by omega)) ?_
  have hmono : x.won a = true → x.won (more ++ a) = true := won_mono (fun n hn => by simp [hn])
  cases ea : x.won a
  case' true =>
    simp only [go_sem, reduceIte, Nat.reduceEqDiff, Nat.reduceAdd, Nat.reduceLeDiff, Nat.reducePow, Nat.reduceDiv, Nat.reduceMod, decide_true, B]
    refine use1 ho.1 (ho.2 nof (fun _ => True) _ x (more ++ a) _ _ (hx _) (hor (Ext.refl _ _)) hfew2 hll) ?_
    simp only [go_sem, reduceIte, Nat.reduceEqDiff, Nat.reduceAdd, Nat.reduceLeDiff, Nat.reducePow, Nat.reduceDiv, Nat.reduceMod, decide_true, B, hmono ea]
  case' false =>
    simp only [go_sem, reduceIte, Nat.reduceEqDiff, Nat.reduceAdd, Nat.reduceLeDiff, Nat.reducePow, Nat.reduceDiv, Nat.reduceMod, decide_true, B]
  all_goals
    refine use1 ho.1 (ho.2 nof nof _ x [] _ _ (hx _) (Rd.nils 1) hfew2 (by simp)) ?_
    simp only [go_sem, reduceIte, Nat.reduceEqDiff, Nat.reduceAdd, Nat.reduceLeDiff, Nat.reducePow, Nat.reduceDiv, Nat.reduceMod, decide_true, B, won_nil]
    refine use1 ho.1 (ho.2 nof (fun _ => True) _ x (more ++ a) _ _ (hx _) (hor (Ext.refl _ _)) hfew2 hll) ?_
    simp only [go_sem, reduceIte, Nat.reduceEqDiff, Nat.reduceAdd, Nat.reduceLeDiff, Nat.reducePow, Nat.reduceDiv, Nat.reduceMod, decide_true, B]
    refine wCall_use ⟨hc.1, hc.2 nof _ a _ (rd_aints _ _ _) (by omega)⟩ ?_
    rintro q h3 ⟨qo, qc, qx⟩
    obtain ⟨o3, h4, t1, t2, t3, t4⟩ := own_more qo qc (rd_aints nof h3 more) qx.1 (by omega) (by omega)
    have X4 := qx.then t4 (fun m hm hm' => by omega)
    have B2 := X4.get B
    have B3 := qx.get B
    simp only [go_sem, reduceIte, Nat.reduceEqDiff, Nat.reduceAdd, Nat.reduceLeDiff, Nat.reducePow, Nat.reduceDiv, Nat.reduceMod, decide_true, t1, B2, B3]
    refine use1 ho.1 (ho.2 nof (fun _ => True) _ x (a ++ more) _ _ (hx _) (Own.rd _ (fun _ _ => trivial) _ t2) hfew2 (by simp; omega)) ?_
    have he : x.won (a ++ more) = x.won (more ++ a) := won_ext fun n => by simp [or_comm]
    simp only [go_sem, reduceIte, Nat.reduceEqDiff, Nat.reduceAdd, Nat.reduceLeDiff, Nat.reducePow, Nat.reduceDiv, Nat.reduceMod, decide_true, he, B2]
    refine use1 hk.1 (hk.2 nof _ x _ (hx _) hfew) ?_
    cases hr : x.right
    · simp only [go_sem, reduceIte, Nat.reduceEqDiff, Nat.reduceAdd, Nat.reduceLeDiff, Nat.reducePow, Nat.reduceDiv, Nat.reduceMod, decide_true, Bool.false_eq_true, if_false, show (!decide ((29 : Int) = 0)) = true from rfl]
      refine yes ?_
      simp only [go_sem, reduceIte, Nat.reduceEqDiff, Nat.reduceAdd, Nat.reduceLeDiff, Nat.reducePow, Nat.reduceDiv, Nat.reduceMod, decide_true]
    simp only [go_sem, reduceIte, Nat.reduceEqDiff, Nat.reduceAdd, Nat.reduceLeDiff, Nat.reducePow, Nat.reduceDiv, Nat.reduceMod, decide_true, if_true, show (!decide ((0 : Int) = 0)) = false from rfl, B2]
    refine wCall_use ⟨hv.1, hv.2 nof _ x _ (hx _) hfew⟩ ?_
    rintro v h5 ⟨vo, vx⟩
    have vl : x.voters.length ≤ 2^40 := by have := uni_length (x.old ++ x.new); simp only [List.length_append] at this; simp only [Conf.voters]; omega
    simp only [go_sem, reduceIte, Nat.reduceEqDiff, Nat.reduceAdd, Nat.reduceLeDiff, Nat.reducePow, Nat.reduceDiv, Nat.reduceMod, decide_true, vx.get B2]
    refine use1 ho.1 (ho.2 nof (fun _ => True) _ x x.voters _ _ (hx _) (Own.rd _ (fun _ _ => trivial) _ vo) hfew2 vl) ?_
    simp only [go_sem, reduceIte, Nat.reduceEqDiff, Nat.reduceAdd, Nat.reduceLeDiff, Nat.reducePow, Nat.reduceDiv, Nat.reduceMod, decide_true, won_voters hr]
    refine yes ?_
    simp only [go_sem, reduceIte, Nat.reduceEqDiff, Nat.reduceAdd, Nat.reduceLeDiff, Nat.reducePow, Nat.reduceDiv, Nat.reduceMod, decide_true]

end Glb

/-
  What is told of members.
-/
namespace Glb
open Go
set_option maxRecDepth 10000
set_option maxHeartbeats 8000000

theorem own_int_ty {F : Nat → Prop} {h : AHeap} {l : List Int} {a : AV} (ho : Own (dInts l) F h a) (hl : l.length ≤ 2^40) : OwnT (.sl 1 [.int .i64]) F h a := by
  refine Own.ty _ _ _ ?_ ho
  simp only [dInts, HasTy]
  refine ⟨_, rfl, by simpa using hl, HasTyLL_mk fun d hd => ?_⟩
  obtain ⟨n, _, rfl⟩ := List.mem_map.1 hd
  simp [HasTyL, HasTy]

theorem tells_ok {P : Program} {f fl fw fc fe fv fm fk rk fo ro rv fs rm fp fn ft : FuncId} (hf : Is P f (c_glebelaw10_QuorumTells fl fw fc fe fv fm fk rk fo ro rv fs rm fp fn ft)) (hl : Is P fl c_glebelaw10_long) (hw : YesOk P fw) (hc : CopyConfP P fc) (he : LentIntsP P fe)
    (hv : ListOk P fv Conf.voters) (hm : ListOk P fm Conf.members) (hk : CheckOk P fk) (hk' : CheckOk P rk) (ho : WonOk P fo) (ho' : WonOk P ro) (hv' : ListR P rv Conf.voters) (hs : SameOk P fs .i64) (hm' : ListR P rm Conf.members)
    (hp : SpoilOk P fp (.sl 1 [.int .i64])) (hn : SameConfOk P fn) (ht : KeptOk P ft)
    (x : Conf) (y : List Int) (h : AHeap) : ACalls P f [.agg x.v, aints y] h fun r _ => r = .bool true := by
  refine fun_sound hf.1 (Nat.le_of_ble_eq_true rfl) ?_
  show vc P (c_glebelaw10_QuorumTells fl fw fc fe fv fm fk rk fo ro rv fs rm fp fn ft).code ⟨[(0, .agg x.v), (1, aints y)], [], h⟩ (atEnd (c_glebelaw10_QuorumTells fl fw fc fe fv fm fk rk fo ro rv fs rm fp fn ft).res _)
  have yes : ∀ {h : AHeap} {K : AV → AHeap → Prop}, K (.bool true) h → wCall P fw [] h K := fun hK => wCall_use ⟨hw.1, hw.2 _⟩ (by rintro _ _ ⟨rfl, rfl⟩; exact hK)
  have hx : ∀ h, RdL nof h x.c [aints x.old, aints x.new, aints x.learners] := fun h => by simpa only [Conf.v_eq] using rd_confv nof h x
  simp only [c_glebelaw10_QuorumTells, Conf.v_eq, go_sem, reduceIte, Nat.reduceEqDiff, Nat.reduceAdd, Nat.reduceLeDiff, Nat.reducePow, Nat.reduceDiv, Nat.reduceMod, decide_true]
  refine use1 hl.2 (glebelaw10_long_ok hl (hx _)) ?_
  by_cases c : 300 < x.old.length ∨ 300 < x.new.length ∨ 300 < x.learners.length
  · simp only [go_sem, reduceIte, Nat.reduceEqDiff, Nat.reduceAdd, Nat.reduceLeDiff, Nat.reducePow, Nat.reduceDiv, Nat.reduceMod, decide_true, decide_eq_true c]
    refine yes ?_
    simp only [go_sem, reduceIte, Nat.reduceEqDiff, Nat.reduceAdd, Nat.reduceLeDiff, Nat.reducePow, Nat.reduceDiv, Nat.reduceMod, decide_true]
  by_cases c1 : (300 : Int) < y.length
  · simp only [go_sem, reduceIte, Nat.reduceEqDiff, Nat.reduceAdd, Nat.reduceLeDiff, Nat.reducePow, Nat.reduceDiv, Nat.reduceMod, decide_true, decide_eq_false c, decide_eq_true c1]
    refine yes ?_
    simp only [go_sem, reduceIte, Nat.reduceEqDiff, Nat.reduceAdd, Nat.reduceLeDiff, Nat.reducePow, Nat.reduceDiv, Nat.reduceMod, decide_true]
  have hfew : x.few (2^38) := ⟨by omega, by omega, by omega⟩
  have hfew2 : x.few (2^40) := ⟨by omega, by omega, by omega⟩
  simp only [go_sem, reduceIte, Nat.reduceEqDiff, Nat.reduceAdd, Nat.reduceLeDiff, Nat.reducePow, Nat.reduceDiv, Nat.reduceMod, decide_true, decide_eq_false c, decide_eq_false c1]
  have ec := hc.2 x hfew2
  simp only [Conf.v_eq] at ec
  refine ec.use hc.1 ?_
  simp only [go_sem, reduceIte, Nat.reduceEqDiff, Nat.reduceAdd, Nat.reduceLeDiff, Nat.reducePow, Nat.reduceDiv, Nat.reduceMod, decide_true]
  refine (he.2 y (by omega)).use he.1 ?_
  have vl : x.voters.length ≤ 2^40 := by have := uni_length (x.old ++ x.new); simp only [List.length_append] at this; simp only [Conf.voters]; omega
  have ml : x.members.length ≤ 2^40 := by have := uni_length (x.old ++ x.new ++ x.learners); simp only [List.length_append] at this; simp only [Conf.members]; omega
  simp only [go_sem, reduceIte, Nat.reduceEqDiff, Nat.reduceAdd, Nat.reduceLeDiff, Nat.reducePow, Nat.reduceDiv, Nat.reduceMod, decide_true]
  refine wCall_use ⟨hv.1, hv.2 nof _ x _ (hx _) hfew⟩ ?_
  rintro v h1 ⟨vo, vx⟩
  have A1 := vx.get (bx20 _ _ _)
  have A2 := vx.get (bx21 _ _ _)
  simp only [go_sem, reduceIte, Nat.reduceEqDiff, Nat.reduceAdd, Nat.reduceLeDiff, Nat.reducePow, Nat.reduceDiv, Nat.reduceMod, decide_true, A1, A2]
  refine wCall_use ⟨hm.1, hm.2 nof _ x _ (hx _) hfew⟩ ?_
  rintro m h2 ⟨mo, mx⟩
  have B1 := mx.get A1
  have B2 := mx.get A2
  have vo1 := Own.lt _ _ vo
  have vo2 := Own.mono (F' := fun k => h.length + 1 + 1 ≤ k ∧ k < h1.length) _ (fun _ h => by simpa using h) (mx.keep _) _ vo1
  have vr2 : Rd (fun _ => True) h2 (dInts x.voters) v := Own.rd _ (fun _ _ => trivial) _ vo2
  have mr2 : Rd (fun _ => True) h2 (dInts x.members) m := Own.rd _ (fun _ _ => trivial) _ mo
  have hlen : h.length + 1 + 1 ≤ h1.length := by have := vx.1; simpa using this
  obtain ⟨b, hb1, hb2⟩ := aints_slice (lent y) y.length (by simp [lent])
  have t1 : (lent y).take y.length = y := by simp [lent]
  rw [t1] at hb2
  simp only [go_sem, reduceIte, Nat.reduceEqDiff, Nat.reduceAdd, Nat.reduceLeDiff, Nat.reducePow, Nat.reduceDiv, Nat.reduceMod, decide_true, B1, B2]
  refine use1 hk.1 (hk.2 nof _ x _ (hx _) hfew) ?_
  simp only [go_sem, reduceIte, Nat.reduceEqDiff, Nat.reduceAdd, Nat.reduceLeDiff, Nat.reducePow, Nat.reduceDiv, Nat.reduceMod, decide_true, B1, B2]
  refine use1 hk'.1 (hk'.2 nof _ x _ (hx _) hfew) ?_
  simp only [go_sem, reduceIte, Nat.reduceEqDiff, Nat.reduceAdd, Nat.reduceLeDiff, Nat.reducePow, Nat.reduceDiv, Nat.reduceMod, decide_true, B1, B2, decide_true, Bool.not_true, aslc, hb1]
  refine use1 ho.1 (ho.2 nof nof _ x y _ b (hx _) (hb2 _ _) hfew2 (by omega)) ?_
  simp only [go_sem, reduceIte, Nat.reduceEqDiff, Nat.reduceAdd, Nat.reduceLeDiff, Nat.reducePow, Nat.reduceDiv, Nat.reduceMod, decide_true, B1, B2]
  refine use1 ho'.1 (ho'.2 nof nof _ x y _ _ (hx _) (rd_aints _ _ _) hfew2 (by omega)) ?_
  simp only [go_sem, reduceIte, Nat.reduceEqDiff, Nat.reduceAdd, Nat.reduceLeDiff, Nat.reducePow, Nat.reduceDiv, Nat.reduceMod, decide_true, B1, B2]
  refine wCall_use ⟨hv'.1, hv'.2 nof _ x _ (hx _) hfew⟩ ?_
  rintro z1 H ⟨zr1, e⟩
  rw [e]
  clear e H
  simp only [go_sem, reduceIte, Nat.reduceEqDiff, Nat.reduceAdd, Nat.reduceLeDiff, Nat.reducePow, Nat.reduceDiv, Nat.reduceMod, decide_true, B1, B2]
  refine use1 hs.1 (hs.2 (fun _ => True) _ x.voters x.voters v z1 vr2 (zr1.rd _ _) vl) ?_
  simp only [go_sem, reduceIte, Nat.reduceEqDiff, Nat.reduceAdd, Nat.reduceLeDiff, Nat.reducePow, Nat.reduceDiv, Nat.reduceMod, decide_true, B1, B2, decide_true]
  refine wCall_use ⟨hm'.1, hm'.2 nof _ x _ (hx _) hfew⟩ ?_
  rintro z2 H ⟨zr2, e⟩
  rw [e]
  clear e H
  simp only [go_sem, reduceIte, Nat.reduceEqDiff, Nat.reduceAdd, Nat.reduceLeDiff, Nat.reducePow, Nat.reduceDiv, Nat.reduceMod, decide_true, B1, B2]
  refine use1 hs.1 (hs.2 (fun _ => True) _ x.members x.members m z2 mr2 (zr2.rd _ _) ml) ?_
  simp only [go_sem, reduceIte, Nat.reduceEqDiff, Nat.reduceAdd, Nat.reduceLeDiff, Nat.reducePow, Nat.reduceDiv, Nat.reduceMod, decide_true, B1, B2, decide_true]
  -- v is written over
  refine wCall_use ⟨hp.1, hp.2 _ _ v (own_int_ty vo2 vl)⟩ ?_
  rintro _ h3 ⟨sx, _⟩
  have l2 : h1.length ≤ h2.length := mx.1
  have C1 : h3[h.length]? = _ := (sx.2 h.length (by omega) (by omega)).trans B1
  have C2 : h3[h.length + 1]? = _ := (sx.2 (h.length + 1) (by omega) (by omega)).trans B2
  have mo3 : Own (dInts x.members) (fun k => h1.length ≤ k) h3 m := Own.mono _ (fun _ h => h) (sx.keepOff (fun k hk h1 h2 => by omega)) _ mo
  have mr3 : Rd (fun _ => True) h3 (dInts x.members) m := Own.rd _ (fun _ _ => trivial) _ mo3
  simp only [go_sem, reduceIte, Nat.reduceEqDiff, Nat.reduceAdd, Nat.reduceLeDiff, Nat.reducePow, Nat.reduceDiv, Nat.reduceMod, decide_true, C1, C2]
  refine wCall_use ⟨hm'.1, hm'.2 nof _ x _ (hx _) hfew⟩ ?_
  rintro z3 H ⟨zr3, e⟩
  rw [e]
  clear e H
  simp only [go_sem, reduceIte, Nat.reduceEqDiff, Nat.reduceAdd, Nat.reduceLeDiff, Nat.reducePow, Nat.reduceDiv, Nat.reduceMod, decide_true, C1, C2]
  refine use1 hs.1 (hs.2 (fun _ => True) _ x.members x.members m z3 mr3 (zr3.rd _ _) ml) ?_
  simp only [go_sem, reduceIte, Nat.reduceEqDiff, Nat.reduceAdd, Nat.reduceLeDiff, Nat.reducePow, Nat.reduceDiv, Nat.reduceMod, decide_true, C1, C2, decide_true]
  refine wCall_use ⟨hp.1, hp.2 _ _ m (own_int_ty mo3 ml)⟩ ?_
  rintro _ h4 ⟨sx2, _⟩
  have l3 : h2.length ≤ h3.length := sx.1
  have D1 : h4[h.length]? = _ := (sx2.2 h.length (by omega) (by omega)).trans C1
  have D2 : h4[h.length + 1]? = _ := (sx2.2 (h.length + 1) (by omega) (by omega)).trans C2
  simp only [go_sem, reduceIte, Nat.reduceEqDiff, Nat.reduceAdd, Nat.reduceLeDiff, Nat.reducePow, Nat.reduceDiv, Nat.reduceMod, decide_true, D1, D2]
  refine use1 hn.1 (hn.2 nof nof _ x x _ _ (hx _) (hx _) hfew2) ?_
  simp only [go_sem, reduceIte, Nat.reduceEqDiff, Nat.reduceAdd, Nat.reduceLeDiff, Nat.reducePow, Nat.reduceDiv, Nat.reduceMod, decide_true, D1, D2, decide_true]
  refine use1 ht.1 (ht.2 nof _ y _ _ (rd_aints _ _ _) (rd_aints _ _ _) (by omega)) ?_
  simp only [go_sem, reduceIte, Nat.reduceEqDiff, Nat.reduceAdd, Nat.reduceLeDiff, Nat.reducePow, Nat.reduceDiv, Nat.reduceMod, decide_true, D1, D2]
  refine wCall_use ⟨hv.1, hv.2 nof _ x _ (hx _) hfew⟩ ?_
  rintro v2 h5 ⟨vo5, vx5⟩
  have vr5 : Rd (fun _ => True) h5 (dInts x.voters) v2 := Own.rd _ (fun _ _ => trivial) _ vo5
  simp only [go_sem, reduceIte, Nat.reduceEqDiff, Nat.reduceAdd, Nat.reduceLeDiff, Nat.reducePow, Nat.reduceDiv, Nat.reduceMod, decide_true, vx5.get D1, vx5.get D2, D1, D2]
  refine wCall_use ⟨hv'.1, hv'.2 nof _ x _ (hx _) hfew⟩ ?_
  rintro z4 H ⟨zr4, e⟩
  rw [e]
  clear e H
  simp only [go_sem, reduceIte, Nat.reduceEqDiff, Nat.reduceAdd, Nat.reduceLeDiff, Nat.reducePow, Nat.reduceDiv, Nat.reduceMod, decide_true, vx5.get D1, vx5.get D2, D1, D2]
  refine use1 hs.1 (hs.2 (fun _ => True) _ x.voters x.voters v2 z4 vr5 (zr4.rd _ _) vl) ?_
  simp only [go_sem, reduceIte, Nat.reduceEqDiff, Nat.reduceAdd, Nat.reduceLeDiff, Nat.reducePow, Nat.reduceDiv, Nat.reduceMod, decide_true, vx5.get D1, vx5.get D2, D1, D2, decide_true]
  refine yes ?_
  simp only [go_sem, reduceIte, Nat.reduceEqDiff, Nat.reduceAdd, Nat.reduceLeDiff, Nat.reducePow, Nat.reduceDiv, Nat.reduceMod, decide_true]

end Glb
