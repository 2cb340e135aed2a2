/-
  A library of its own: its parts, one behind the other.
-/
import Derived.Test.YtcegihlhpmdbnaaGreatGlbConB
import Derived.Test.YtcegihlhpmdbnaaGreatGlbCglebelaw16
set_option linter.unusedSimpArgs false
set_option linter.unusedVariables false
/-
  A step is safe: the law.
-/
namespace Glb
open Go
set_option maxRecDepth 10000
set_option maxHeartbeats 8000000

def BothOk (P : Program) (f : FuncId) : Prop :=
  isFn P f = true ∧ ∀ (F G : Nat → Prop) (h : AHeap) (l m : List Int) (a b : AV), Rd F h (dInts l) a → Rd G h (dInts m) b → l.length ≤ 2^20 → m.length ≤ 2^20 → ACalls P f [a, b] h fun r h' => r = aints (bothI l m) ∧ h' = h

theorem both_ok {P : Program} {f : FuncId} (hf : Is P f c_glebelaw16_both) : BothOk P f := by
  refine ⟨hf.2, fun F G h l m a b ha hb hl hm => ACalls.freeze (K := fun r h' => Own (dInts (bothI l m)) (fun k => h.length ≤ k) h' r ∧ Ext nof h h') (fun_sound hf.1 (Nat.le_of_ble_eq_true rfl) ?_) (fun _ _ hk => ⟨hk.2, _, Frz.d (Own.fz _ (fun _ x => x) _ hk.1), rfl⟩)⟩
  show vc P c_glebelaw16_both.code ⟨[(0, a), (1, b)], [], h⟩ (atEnd c_glebelaw16_both.res _)
  have la := ha.ints_len
  have lb := hb.ints_len
  simp only [c_glebelaw16_both, go_sem, reduceIte, Nat.reduceEqDiff, Nat.reduceAdd, Nat.reduceLeDiff, Nat.reducePow, Nat.reduceDiv, Nat.reduceMod, decide_true]
  refine vc_loop (fun z L h' => ∃ (i : Nat) (o : AV), lk 0 L = a ∧ lk 1 L = b ∧ lk 5 L = o ∧ lk 6 L = .int .i64 i ∧ Own (dInts (bothI (l.take i) m)) (fun k => h.length ≤ k) h' o ∧ canApp h' o ∧ Ext nof h h' ∧ i ≤ l.length ∧ z = l.length - i) l.length ?_ ?_
  · exact ⟨0, .nils, by simp [lk_ins, lk_cons], by simp [lk_ins, lk_cons], by simp [lk_ins, lk_cons], by simp [lk_ins], Own.nils 1, trivial, Ext.refl _ _, by omega, by omega⟩
  · rintro z L h1 ⟨i, o, k0, k1, k5, k6, hO, hA, hE, hi, rfl⟩
    simp only [c_glebelaw16_both_l1, go_sem, reduceIte, Nat.reduceEqDiff, Nat.reduceAdd, Nat.reduceLeDiff, Nat.reducePow, Nat.reduceDiv, Nat.reduceMod, decide_true, k0, k1, k5, k6, la]
    refine wCond_split (fun ci => ?_) (fun ci => ?_)
    · simp at ci
      have e1 : IntKind.i64.wrap (↑i + 1) = (i : Int) + 1 := wrap_i64 (by omega)
      simp only [go_sem, reduceIte, Nat.reduceEqDiff, Nat.reduceAdd, Nat.reduceLeDiff, Nat.reducePow, Nat.reduceDiv, Nat.reduceMod, decide_true, k0, k1, k5, k6]
      refine vc_loop (fun z L h' => ∃ (j : Nat) (o : AV), lk 0 L = a ∧ lk 1 L = b ∧ lk 5 L = o ∧ lk 6 L = .int .i64 i ∧ lk 7 L = .int .i64 j ∧ Own (dInts (bothI (l.take i) m ++ List.replicate ((m.take j).count l[i]) l[i])) (fun k => h.length ≤ k) h' o ∧ canApp h' o ∧ Ext nof h h' ∧ j ≤ m.length ∧ z = m.length - j) m.length ?_ ?_
      · exact ⟨0, o, by simp [lk_ins, lk_cons, k0], by simp [lk_ins, lk_cons, k1], by simp [lk_ins, lk_cons, k5], by simp [lk_ins, lk_cons, k6], by simp [lk_ins], by simpa using hO, hA, hE, by omega, by omega⟩
      · rintro z L h2 ⟨j, o, k0, k1, k5, k6, k7, hO, hA, hE, hj, rfl⟩
        simp only [c_glebelaw16_both_l0, go_sem, reduceIte, Nat.reduceEqDiff, Nat.reduceAdd, Nat.reduceLeDiff, Nat.reducePow, Nat.reduceDiv, Nat.reduceMod, decide_true, k0, k1, k5, k6, k7, lb]
        refine wCond_split (fun cj => ?_) (fun cj => ?_)
        · simp at cj
          have e2 : IntKind.i64.wrap (↑j + 1) = (j : Int) + 1 := wrap_i64 (by omega)
          obtain ⟨p, hp, hv⟩ := (ha.up hE).int_at ci
          obtain ⟨q, hq, hw⟩ := (hb.up hE).int_at cj
          have hr0 := notRes_zero h2.length
          simp only [go_sem, reduceIte, Nat.reduceEqDiff, Nat.reduceAdd, Nat.reduceLeDiff, Nat.reducePow, Nat.reduceDiv, Nat.reduceMod, decide_true, k0, k1, k5, k6, k7, hp, hv, hq, hw]
          have tk : (m.take (j + 1)).count l[i] = (m.take j).count l[i] + if m[j] = l[i] then 1 else 0 := by
            rw [List.take_succ_eq_append_getElem cj, List.count_append, List.count_singleton]
            congr 1
            by_cases e : m[j] = l[i] <;> simp [e]
          by_cases c : l[i] = m[j]
          · have ap : ∃ o' h3, aappend (h2 ++ [some (.arr 1 [[.int .i64 l[i]]] false)]) 1 8 o (.ref h2.length 1 0 1 (some 1)) = some (o', h3) ∧ Own (dInts (bothI (l.take i) m ++ List.replicate ((m.take (j + 1)).count l[i]) l[i])) (fun k => h.length ≤ k) h3 o' ∧ canApp h3 o' ∧ Ext nof h h3 := by
              obtain ⟨o2, h5, s1, s2, s3, s4⟩ := own_app (bytes := 8) (es := [[.int .i64 l[i]]]) (h := h2 ++ [some (.arr 1 [[.int .i64 l[i]]] false)]) hO hA (Ext.app _ _ _) (ys := [[.int .i64 l[i]]])
                (by simp [OwnLL, OwnL, Own]) hE.1 (by
                  have g1 := bothI_le m (l.take i)
                  have g2 : (m.take j).count l[i] ≤ (m.take j).length := List.count_le_length
                  simp only [List.length_take] at g1 g2
                  have g3 : min i l.length * m.length ≤ 2^20 * 2^20 := Nat.mul_le_mul (by omega) hm
                  simp only [List.length_map, List.length_append, List.length_replicate, List.length_cons, List.length_nil]
                  omega)
              refine ⟨o2, h5, by rw [aappend_of (aelems_new h2 1 [[.int .i64 l[i]]] false (some 1) (len := 1) rfl)]; exact s1, ?_, s3, (hE.tr (Ext.b1 _)).then s4 (fun m hm hm' => by omega)⟩
              rw [tk, if_pos c.symm, List.replicate_succ', ← List.append_assoc, dInts, List.map_append (l₂ := [l[i]])]
              exact s2
            obtain ⟨o2, h3, s1, s2, s3, s4⟩ := ap
            simp only [go_sem, reduceIte, Nat.reduceEqDiff, Nat.reduceAdd, Nat.reduceLeDiff, Nat.reducePow, Nat.reduceDiv, Nat.reduceMod, decide_true, decide_eq_true c, k0, k1, k5, k6, k7, hp, hv, s1, e2]
            exact ⟨_, by omega, j + 1, o2, rfl, by simp, s2, s3, s4, cj, rfl⟩
          · simp only [go_sem, reduceIte, Nat.reduceEqDiff, Nat.reduceAdd, Nat.reduceLeDiff, Nat.reducePow, Nat.reduceDiv, Nat.reduceMod, decide_true, decide_eq_false c, k0, k1, k5, k6, k7, e2]
            exact ⟨_, by omega, j + 1, o, rfl, by simp, by rw [tk, if_neg (fun e => c e.symm)]; exact hO, hA, hE, cj, rfl⟩
        · simp at cj
          obtain rfl : j = m.length := by omega
          rw [List.take_length] at hO
          simp only [go_sem, reduceIte, Nat.reduceEqDiff, Nat.reduceAdd, Nat.reduceLeDiff, Nat.reducePow, Nat.reduceDiv, Nat.reduceMod, decide_true, k0, k1, k5, k6, k7, e1]
          exact ⟨_, by omega, i + 1, o, rfl, by simp, by rw [bothI_more ci]; exact hO, hA, hE, ci, rfl⟩
    · simp at ci
      obtain rfl : i = l.length := by omega
      rw [List.take_length] at hO
      simp only [go_sem, reduceIte, Nat.reduceEqDiff, Nat.reduceAdd, Nat.reduceLeDiff, Nat.reducePow, Nat.reduceDiv, Nat.reduceMod, decide_true, k5]
      exact ⟨hO, hE⟩

/-- one step -/
def Conf.stepd (x : Conf) (how n : Int) (far : List Int) : Conf × Bool := if pick how 3 = 0 then ((x.add n).1, decide ((x.add n).2 = 0)) else if pick how 3 = 1 then ((x.drop n).1, decide ((x.drop n).2 = 0)) else x.next far
theorem stepd_safe {x : Conf} {how n : Int} {far : List Int} (h : (x.stepd how n far).2 = true) : x.right = true ∧ Safe x (x.stepd how n far).1 := by
  unfold Conf.stepd at h ⊢
  split
  · rename_i c; rw [if_pos c] at h; exact add_safe (by simpa using h)
  · rename_i c
    rw [if_neg c] at h
    split
    · rename_i c2; rw [if_pos c2] at h; exact drop_safe (by simpa using h)
    · rename_i c2; rw [if_neg c2] at h; exact next_safe h

def SteppedP (P : Program) (f : FuncId) : Prop :=
  isFn P f = true ∧ ∀ (F G : Nat → Prop) (h : AHeap) (x : Conf) (a : List AV) (how n : Int) (far : List Int) (b : AV), RdL F h x.c a → Rd G h (dInts far) b → x.few (2^38) → far.length ≤ 2^38 →
    ACalls P f [.agg a, .int .i64 how, .int .i64 n, b] h fun r h' => r = .tup [.agg (x.stepd how n far).1.v, .bool (x.stepd how n far).2] ∧ h' = h

theorem stepped_ok {P : Program} {f p a d k : FuncId} (hf : Is P f (c_glebelaw16_stepped p a d k)) (hp : PickOk P p) (ha : StepP P a Conf.add) (hd : StepP P d Conf.drop) (hk : NextP P k) : SteppedP P f := by
  refine ⟨hf.2, fun F G h x c how n far b hc hb hx hfar => obs (upto_tup2 (upto_aggD _ _) (upto_bool _ _)) (fun_sound hf.1 (Nat.le_of_ble_eq_true rfl) ?_)⟩
  show vc P (c_glebelaw16_stepped p a d k).code ⟨[(0, .agg c), (1, .int .i64 how), (2, .int .i64 n), (3, b)], [], h⟩ (atEnd (c_glebelaw16_stepped p a d k).res _)
  have hc2 := hc
  obtain ⟨o, u, e, rfl, ho, hn, he⟩ := rd_conf hc
  have hv := fun z : Conf => Conf.v_eq z
  simp only [c_glebelaw16_stepped, go_sem, reduceIte, Nat.reduceEqDiff, Nat.reduceAdd, Nat.reduceLeDiff, Nat.reducePow, Nat.reduceDiv, Nat.reduceMod, decide_true, ho.scalar, hn.scalar, he.scalar]
  refine (hp.2 how 3 (by omega)).use hp.1 ?_
  simp only [go_sem, reduceIte, Nat.reduceEqDiff, Nat.reduceAdd, Nat.reduceLeDiff, Nat.reducePow, Nat.reduceDiv, Nat.reduceMod, decide_true]
  unfold Conf.stepd
  by_cases c0 : pick how 3 = 0
  · have q := ha.2 F _ x _ n (RdL.up hc2 (Ext.b2 (some (.arr 3 [[o, u, e]] false)) (some (.arr 3 [[.nils, .nils, .nils]] false)))) hx
    simp only [hv] at q
    simp only [go_sem, reduceIte, Nat.reduceEqDiff, Nat.reduceAdd, Nat.reduceLeDiff, Nat.reducePow, Nat.reduceDiv, Nat.reduceMod, decide_true, decide_eq_true c0, if_pos c0]
    refine use1 ha.1 q ?_
    simp only [go_sem, reduceIte, Nat.reduceEqDiff, Nat.reduceAdd, Nat.reduceLeDiff, Nat.reducePow, Nat.reduceDiv, Nat.reduceMod, decide_true, scalar_aints, hv]
    exact Ext.b3 _ _ _
  by_cases c1 : pick how 3 = 1
  · have q := hd.2 F _ x _ n (RdL.up hc2 (Ext.b2 (some (.arr 3 [[o, u, e]] false)) (some (.arr 3 [[.nils, .nils, .nils]] false)))) hx
    simp only [hv] at q
    simp only [go_sem, reduceIte, Nat.reduceEqDiff, Nat.reduceAdd, Nat.reduceLeDiff, Nat.reducePow, Nat.reduceDiv, Nat.reduceMod, decide_true, decide_eq_false c0, if_neg c0, decide_eq_true c1, if_pos c1]
    refine use1 hd.1 q ?_
    simp only [go_sem, reduceIte, Nat.reduceEqDiff, Nat.reduceAdd, Nat.reduceLeDiff, Nat.reducePow, Nat.reduceDiv, Nat.reduceMod, decide_true, scalar_aints, hv]
    exact Ext.b3 _ _ _
  · have q := hk.2 F G _ x far _ b (RdL.up hc2 (Ext.b2 (some (.arr 3 [[o, u, e]] false)) (some (.arr 3 [[.nils, .nils, .nils]] false)))) (hb.up (Ext.b2 _ _)) hx hfar
    simp only [hv] at q
    simp only [go_sem, reduceIte, Nat.reduceEqDiff, Nat.reduceAdd, Nat.reduceLeDiff, Nat.reducePow, Nat.reduceDiv, Nat.reduceMod, decide_true, decide_eq_false c0, if_neg c0, decide_eq_false c1, if_neg c1]
    refine use1 hk.1 q ?_
    simp only [go_sem, reduceIte, Nat.reduceEqDiff, Nat.reduceAdd, Nat.reduceLeDiff, Nat.reducePow, Nat.reduceDiv, Nat.reduceMod, decide_true, scalar_aints, hv]
    exact Ext.b2 _ _

theorem ListOk.g {P : Program} {f : FuncId} {t : Conf → List Int} (hc : ListOk P f t) {F : Nat → Prop} {h : AHeap} {x : Conf} {a : List AV} (ha : RdL F h x.c a) (hl : x.few (2^38)) : ACalls P f [.agg a] h fun r h' => r = aints (t x) ∧ h' = h :=
  (hc.2 F h x a ha hl).freeze fun _ _ hk => ⟨hk.2, _, Frz.d (Own.fz _ (fun _ x => x) _ hk.1), rfl⟩

theorem sizes_step {x : Conf} {how n : Int} {far : List Int} (hx : x.few 300) : (x.stepd how n far).1.few 600 := by
  obtain ⟨h1, h2, h3⟩ := hx
  have no : Conf.no.few 600 := ⟨by simp [Conf.no], by simp [Conf.no], by simp [Conf.no]⟩
  unfold Conf.stepd
  split
  · unfold Conf.add; split
    · exact no
    · split
      · exact no
      · exact ⟨by simp; omega, by simp, by simp⟩
  · split
    · unfold Conf.drop; split
      · exact no
      · split
        · exact no
        · split
          · exact no
          · have := List.length_filter_le (fun m => !decide (m = n)) x.old
            exact ⟨by simp; omega, by simp only; omega, by simp⟩
    · unfold Conf.next; split
      · exact ⟨by simp only; omega, by simp only; omega, by simp only; omega⟩
      · split
        · exact ⟨by simp only; omega, by simp, by simp⟩
        · exact ⟨by simp only; omega, by simp only [sorted_length, List.length_append]; omega, by simp⟩

theorem safe_ok {P : Program} {f fb fw fs fc fn fo fm fv : FuncId} (hf : Is P f (c_glebelaw16_ConfSafe fb fw fs fc fn fo fm fv)) (hb : BigConfOk P fb) (hw : YesOk P fw) (hs : SteppedP P fs) (hc : CheckOk P fc) (hn : SameConfOk P fn) (ho : WonOk P fo) (hm : BothOk P fm) (hv : ListOk P fv Conf.voters)
    (x : Conf) (how n : Int) (far a b : List Int) (h : AHeap) : ACalls P f [.agg x.v, .int .i64 how, .int .i64 n, aints far, aints a, aints b] h fun r _ => r = .bool true := by
  refine fun_sound hf.1 (Nat.le_of_ble_eq_true rfl) ?_
  show vc P (c_glebelaw16_ConfSafe fb fw fs fc fn fo fm fv).code ⟨[(0, .agg x.v), (1, .int .i64 how), (2, .int .i64 n), (3, aints far), (4, aints a), (5, aints b)], [], h⟩ (atEnd (c_glebelaw16_ConfSafe fb fw fs fc fn fo fm fv).res _)
  have yes : ∀ {h : AHeap} {K : AV → AHeap → Prop}, K (.bool true) h → wCall P fw [] h K := fun hK => wCall_use ⟨hw.1, hw.2 _⟩ (by rintro _ _ ⟨rfl, rfl⟩; exact hK)
  have hx : ∀ (x : Conf) h, RdL nof h x.c [aints x.old, aints x.new, aints x.learners] := fun x h => by simpa only [Conf.v_eq] using rd_confv nof h x
  simp only [c_glebelaw16_ConfSafe, Conf.v_eq, go_sem, reduceIte, Nat.reduceEqDiff, Nat.reduceAdd, Nat.reduceLeDiff, Nat.reducePow, Nat.reduceDiv, Nat.reduceMod, decide_true, scalar_aints]
  refine wCall_use ⟨hb.1, hb.2 nof _ x _ 300 (hx x _)⟩ ?_
  rintro _ _ ⟨bb, rfl, rfl, hbb⟩
  cases bb
  rotate_left
  · simp only [go_sem, reduceIte, Nat.reduceEqDiff, Nat.reduceAdd, Nat.reduceLeDiff, Nat.reducePow, Nat.reduceDiv, Nat.reduceMod, decide_true]
    refine yes ?_
    simp only [go_sem, reduceIte, Nat.reduceEqDiff, Nat.reduceAdd, Nat.reduceLeDiff, Nat.reducePow, Nat.reduceDiv, Nat.reduceMod, decide_true]
  obtain ⟨l1, l2, l3⟩ := hbb rfl
  by_cases c1 : (300 : Int) < far.length
  · simp only [go_sem, reduceIte, Nat.reduceEqDiff, Nat.reduceAdd, Nat.reduceLeDiff, Nat.reducePow, Nat.reduceDiv, Nat.reduceMod, decide_true, len_aints, decide_eq_true c1]
    refine yes ?_
    simp only [go_sem, reduceIte, Nat.reduceEqDiff, Nat.reduceAdd, Nat.reduceLeDiff, Nat.reducePow, Nat.reduceDiv, Nat.reduceMod, decide_true]
  by_cases c2 : (300 : Int) < a.length
  · simp only [go_sem, reduceIte, Nat.reduceEqDiff, Nat.reduceAdd, Nat.reduceLeDiff, Nat.reducePow, Nat.reduceDiv, Nat.reduceMod, decide_true, len_aints, decide_eq_false c1, decide_eq_true c2]
    refine yes ?_
    simp only [go_sem, reduceIte, Nat.reduceEqDiff, Nat.reduceAdd, Nat.reduceLeDiff, Nat.reducePow, Nat.reduceDiv, Nat.reduceMod, decide_true]
  by_cases c3 : (300 : Int) < b.length
  · simp only [go_sem, reduceIte, Nat.reduceEqDiff, Nat.reduceAdd, Nat.reduceLeDiff, Nat.reducePow, Nat.reduceDiv, Nat.reduceMod, decide_true, len_aints, decide_eq_false c1, decide_eq_false c2, decide_eq_true c3]
    refine yes ?_
    simp only [go_sem, reduceIte, Nat.reduceEqDiff, Nat.reduceAdd, Nat.reduceLeDiff, Nat.reducePow, Nat.reduceDiv, Nat.reduceMod, decide_true]
  have hfew2 : x.few (2^38) := ⟨by omega, by omega, by omega⟩
  have hfew3 : x.few (2^40) := ⟨by omega, by omega, by omega⟩
  have q := hs.2 nof nof (h ++ [some (.arr 3 [[aints x.old, aints x.new, aints x.learners]] false)]) x _ how n far _ (hx x _) (rd_aints _ _ far) hfew2 (by omega)
  have hy : (x.stepd how n far).1.few 600 := sizes_step ⟨by omega, by omega, by omega⟩
  have hst := @stepd_safe x how n far
  generalize x.stepd how n far = z at *
  obtain ⟨y, ok⟩ := z
  simp only [Conf.v_eq] at q hst hy
  simp only [go_sem, reduceIte, Nat.reduceEqDiff, Nat.reduceAdd, Nat.reduceLeDiff, Nat.reducePow, Nat.reduceDiv, Nat.reduceMod, decide_true, len_aints, decide_eq_false c1, decide_eq_false c2, decide_eq_false c3]
  refine use1 hs.1 q ?_
  simp only [go_sem, reduceIte, Nat.reduceEqDiff, Nat.reduceAdd, Nat.reduceLeDiff, Nat.reducePow, Nat.reduceDiv, Nat.reduceMod, decide_true, scalar_aints]
  cases ok
  · simp only [go_sem, reduceIte, Nat.reduceEqDiff, Nat.reduceAdd, Nat.reduceLeDiff, Nat.reducePow, Nat.reduceDiv, Nat.reduceMod, decide_true]
    refine yes ?_
    simp only [go_sem, reduceIte, Nat.reduceEqDiff, Nat.reduceAdd, Nat.reduceLeDiff, Nat.reducePow, Nat.reduceDiv, Nat.reduceMod, decide_true]
  obtain ⟨r1, r2⟩ := hst rfl
  simp only [go_sem, reduceIte, Nat.reduceEqDiff, Nat.reduceAdd, Nat.reduceLeDiff, Nat.reducePow, Nat.reduceDiv, Nat.reduceMod, decide_true]
  refine use1 hc.1 (hc.2 nof _ x _ (hx x _) hfew2) ?_
  simp only [go_sem, reduceIte, Nat.reduceEqDiff, Nat.reduceAdd, Nat.reduceLeDiff, Nat.reducePow, Nat.reduceDiv, Nat.reduceMod, decide_true, r1, if_true, nz0]
  have hy38 : y.few (2^38) := ⟨by have := hy.1; omega, by have := hy.2.1; omega, by have := hy.2.2; omega⟩
  have hy40 : y.few (2^40) := ⟨by have := hy.1; omega, by have := hy.2.1; omega, by have := hy.2.2; omega⟩
  refine use1 hc.1 (hc.2 nof _ y _ (hx y _) hy38) ?_
  simp only [go_sem, reduceIte, Nat.reduceEqDiff, Nat.reduceAdd, Nat.reduceLeDiff, Nat.reducePow, Nat.reduceDiv, Nat.reduceMod, decide_true, r2.1, if_true, nz0]
  refine use1 hn.1 (hn.2 nof nof _ y x _ _ (hx y _) (hx x _) hy40) ?_
  simp only [go_sem, reduceIte, Nat.reduceEqDiff, Nat.reduceAdd, Nat.reduceLeDiff, Nat.reducePow, Nat.reduceDiv, Nat.reduceMod, decide_true, decide_eq_false r2.2.1]
  refine use1 ho.1 (ho.2 nof nof _ x a _ _ (hx x _) (rd_aints _ _ _) hfew3 (by omega)) ?_
  cases w1 : x.won a
  · simp only [go_sem, reduceIte, Nat.reduceEqDiff, Nat.reduceAdd, Nat.reduceLeDiff, Nat.reducePow, Nat.reduceDiv, Nat.reduceMod, decide_true]
    refine yes ?_
    simp only [go_sem, reduceIte, Nat.reduceEqDiff, Nat.reduceAdd, Nat.reduceLeDiff, Nat.reducePow, Nat.reduceDiv, Nat.reduceMod, decide_true]
  simp only [go_sem, reduceIte, Nat.reduceEqDiff, Nat.reduceAdd, Nat.reduceLeDiff, Nat.reducePow, Nat.reduceDiv, Nat.reduceMod, decide_true]
  refine use1 ho.1 (ho.2 nof nof _ y b _ _ (hx y _) (rd_aints _ _ _) hy40 (by omega)) ?_
  cases w2 : y.won b
  · simp only [go_sem, reduceIte, Nat.reduceEqDiff, Nat.reduceAdd, Nat.reduceLeDiff, Nat.reducePow, Nat.reduceDiv, Nat.reduceMod, decide_true]
    refine yes ?_
    simp only [go_sem, reduceIte, Nat.reduceEqDiff, Nat.reduceAdd, Nat.reduceLeDiff, Nat.reducePow, Nat.reduceDiv, Nat.reduceMod, decide_true]
  have ne := safe_both r2 w1 w2
  have b1 := bothI_le b a
  have b1' : a.length * b.length ≤ 300 * 300 := Nat.mul_le_mul (by omega) (by omega)
  have v1 := uni_length (x.old ++ x.new)
  have v2 := uni_length (y.old ++ y.new)
  simp only [List.length_append] at v1 v2
  have v3 : x.voters.length ≤ 600 := by simp only [Conf.voters]; omega
  have v4 : y.voters.length ≤ 2400 := by have := hy.1; have := hy.2.1; simp only [Conf.voters]; omega
  have b2 : (bothI x.voters y.voters).length ≤ x.voters.length := by
    rw [both_count (b := y.voters) (show y.voters.Nodup from (uni_rises _).1.nodup)]; exact List.countP_le_length
  simp only [go_sem, reduceIte, Nat.reduceEqDiff, Nat.reduceAdd, Nat.reduceLeDiff, Nat.reducePow, Nat.reduceDiv, Nat.reduceMod, decide_true]
  refine use1 hm.1 (hm.2 nof nof _ a b _ _ (rd_aints _ _ _) (rd_aints _ _ _) (by omega) (by omega)) ?_
  simp only [go_sem, reduceIte, Nat.reduceEqDiff, Nat.reduceAdd, Nat.reduceLeDiff, Nat.reducePow, Nat.reduceDiv, Nat.reduceMod, decide_true]
  refine use1 hv.1 (hv.g (hx x _) hfew2) ?_
  simp only [go_sem, reduceIte, Nat.reduceEqDiff, Nat.reduceAdd, Nat.reduceLeDiff, Nat.reducePow, Nat.reduceDiv, Nat.reduceMod, decide_true]
  refine use1 hv.1 (hv.g (hx y _) hy38) ?_
  simp only [go_sem, reduceIte, Nat.reduceEqDiff, Nat.reduceAdd, Nat.reduceLeDiff, Nat.reducePow, Nat.reduceDiv, Nat.reduceMod, decide_true]
  refine use1 hm.1 (hm.2 nof nof _ x.voters y.voters _ _ (rd_aints _ _ _) (rd_aints _ _ _) (by omega) (by omega)) ?_
  simp only [go_sem, reduceIte, Nat.reduceEqDiff, Nat.reduceAdd, Nat.reduceLeDiff, Nat.reducePow, Nat.reduceDiv, Nat.reduceMod, decide_true]
  refine use1 hm.1 (hm.2 nof nof _ (bothI a b) (bothI x.voters y.voters) _ _ (rd_aints _ _ _) (rd_aints _ _ _) (by omega) (by omega)) ?_
  have ne' : (0 : Int) < (bothI (bothI a b) (bothI x.voters y.voters)).length := by
    have := List.length_pos_iff.2 ne
    omega
  simp only [go_sem, reduceIte, Nat.reduceEqDiff, Nat.reduceAdd, Nat.reduceLeDiff, Nat.reducePow, Nat.reduceDiv, Nat.reduceMod, decide_true, len_aints, decide_eq_true ne']
  refine yes ?_
  simp only [go_sem, reduceIte, Nat.reduceEqDiff, Nat.reduceAdd, Nat.reduceLeDiff, Nat.reducePow, Nat.reduceDiv, Nat.reduceMod, decide_true]

end Glb

/-
  A node comes and goes: the law.
-/
namespace Glb
open Go
set_option maxRecDepth 10000
set_option maxHeartbeats 8000000

theorem next_of {x : Conf} {far : List Int} (h : x.stays far = false) : x.next far = if 0 < x.new.length then (⟨x.new, [], []⟩, true) else (⟨x.old, sorted (x.old ++ x.learners), []⟩, true) := by
  unfold Conf.next; rw [if_neg (by simp [h])]
theorem may_of {x : Conf} {n : Int} (r : x.right = true) (h1 : 1 ≤ n) (h7 : n ≤ 7) (hb : x.busy = false) : x.may n = 0 := by
  unfold Conf.may
  rw [if_neg (by simp [r]), if_neg (by omega), if_neg (by simp [hb])]

def all7 : List Int := [1, 2, 3, 4, 5, 6, 7]
theorem mem_all7 {n : Int} (h1 : 1 ≤ n) (h7 : n ≤ 7) : n ∈ all7 := by
  simp only [all7, List.mem_cons, List.not_mem_nil, or_false]; omega

theorem comes_facts {x : Conf} {n : Int} (h : (x.add n).2 = 0) : ∃ d : Conf, (x.add n).1 = ⟨x.old, [], [n]⟩ ∧ (⟨x.old, [], [n]⟩ : Conf).next all7 = (⟨x.old, d.old, []⟩, true) ∧ (⟨x.old, d.old, []⟩ : Conf).next [] = (d, true) ∧ d.next all7 = (d, false) ∧ d.new = [] ∧ d.learners = [] ∧
    d.old.length = x.old.length + 1 ∧ (bothI d.old [n]).length = 1 ∧ (bothI d.old x.old).length = x.old.length ∧ d.drop n = (⟨d.old, x.old, []⟩, 0) ∧ (⟨d.old, x.old, []⟩ : Conf).next [] = (x, true) := by
  obtain ⟨h1, h2, h3⟩ := add_ok h
  obtain ⟨r, n1, n7, e1, e2⟩ := may_zero h1
  obtain ⟨r0, sa⟩ := add_safe h
  have ra := sa.1
  rw [h3] at ra
  obtain ⟨g0, g1, _, _, _⟩ := right_iff.1 r
  obtain ⟨j1, j2⟩ := joint_right ra
  simp only at j1 j2
  have hperm := sorted_perm (x.old ++ [n])
  have hlen : (sorted (x.old ++ [n])).length = x.old.length + 1 := by rw [sorted_length]; simp
  have hne : sorted (x.old ++ [n]) ≠ [] := by intro e; rw [e] at hlen; simp at hlen
  have hmem : n ∈ sorted (x.old ++ [n]) := hperm.mem_iff.2 (by simp)
  have hfil : (sorted (x.old ++ [n])).filter (fun m => !decide (m = n)) = x.old := by
    refine rises_ext (j1.filter _) g1.1 fun m => ?_
    rw [List.mem_filter, hperm.mem_iff]
    simp only [List.mem_append, List.mem_singleton, Bool.not_eq_true', decide_eq_false_iff_not]
    constructor
    · rintro ⟨h | h, h'⟩
      · exact h
      · exact absurd h h'
    · intro hm; exact ⟨.inl hm, fun e => h2 (e ▸ hm)⟩
  have rd : (⟨sorted (x.old ++ [n]), [], []⟩ : Conf).right = true := right_iff.2 ⟨hne, ⟨j1, j2⟩, ⟨List.Pairwise.nil, by simp⟩, ⟨List.Pairwise.nil, by simp⟩, by simp⟩
  have rb : (⟨x.old, sorted (x.old ++ [n]), []⟩ : Conf).right = true := right_iff.2 ⟨g0, g1, ⟨j1, j2⟩, ⟨List.Pairwise.nil, by simp⟩, by simp⟩
  have re : (⟨sorted (x.old ++ [n]), x.old, []⟩ : Conf).right = true := right_iff.2 ⟨hne, ⟨j1, j2⟩, g1, ⟨List.Pairwise.nil, by simp⟩, by simp⟩
  have xl : 0 < x.old.length := List.length_pos_iff.2 g0
  refine ⟨⟨sorted (x.old ++ [n]), [], []⟩, h3, ?_, ?_, ?_, rfl, rfl, hlen, ?_, ?_, ?_, ?_⟩
  · rw [next_of (by simp [Conf.stays, ra, Conf.busy, mem_all7 n1 n7])]; simp
  · rw [next_of (by simp [Conf.stays, rb, Conf.busy, hlen])]; simp only [hlen]; rw [if_pos (by omega)]
  · simp [Conf.next, Conf.stays, Conf.busy]
  · rw [both_count ((List.nodup_cons.2 ⟨by simp, List.nodup_nil⟩ : [n].Nodup))]
    have : (sorted (x.old ++ [n])).countP (fun m => decide (m ∈ [n])) = (x.old ++ [n]).countP (fun m => decide (m ∈ [n])) := hperm.countP_eq _
    simp only [this, List.countP_append]
    have : x.old.countP (fun m => decide (m ∈ [n])) = 0 := by
      rw [List.countP_eq_zero]; intro m hm; simp; rintro rfl; exact h2 hm
    rw [this]; simp
  · rw [both_count g1.1.nodup]
    have : (sorted (x.old ++ [n])).countP (fun m => decide (m ∈ x.old)) = (x.old ++ [n]).countP (fun m => decide (m ∈ x.old)) := hperm.countP_eq _
    simp only [this, List.countP_append]
    have : x.old.countP (fun m => decide (m ∈ x.old)) = x.old.length := by
      rw [List.countP_eq_length]; intro m hm; simpa using hm
    rw [this]; simp [h2]
  · unfold Conf.drop
    rw [may_of rd n1 n7 (by simp [Conf.busy]), if_neg (by simp), if_neg (by simp [hmem]), if_neg (by simp only [hlen]; omega)]
    simp only [hfil]
  · rw [next_of (by simp [Conf.stays, re, Conf.busy]; omega)]
    simp only
    rw [if_pos xl]
    cases x
    simp only at e1 e2 ⊢
    rw [e1, e2]

theorem goes_facts {x : Conf} {n : Int} (h : (x.drop n).2 = 0) : ∃ d : Conf, (x.drop n).1 = ⟨x.old, d.old, []⟩ ∧ (⟨x.old, d.old, []⟩ : Conf).next [] = (d, true) ∧ d.new = [] ∧ d.learners = [] ∧ d.old.length + 1 = x.old.length ∧ (bothI d.old [n]).length = 0 ∧ (bothI d.old x.old).length = d.old.length := by
  obtain ⟨h1, h2, h3, h4⟩ := drop_ok h
  obtain ⟨r, n1, n7, e1, e2⟩ := may_zero h1
  obtain ⟨r0, sa⟩ := drop_safe h
  have ra := sa.1
  rw [h4] at ra
  obtain ⟨g0, g1, _, _, _⟩ := right_iff.1 r
  have fl := filter_len g1.1 h2
  have xl : 0 < x.old.length := List.length_pos_iff.2 g0
  refine ⟨⟨x.old.filter (fun m => !decide (m = n)), [], []⟩, h4, ?_, rfl, rfl, fl, ?_, ?_⟩
  · have fl0 : (x.old.filter (fun m => !decide (m = n))).length ≠ 0 := by omega
    rw [next_of (by
      have pos : 0 < (x.old.filter (fun m => !decide (m = n))).length := by omega
      simp only [Conf.stays, ra, Conf.busy, List.length_nil, Nat.add_zero, decide_eq_true pos, decide_eq_false fl0]; rfl)]
    simp only
    rw [if_pos (by omega)]
  · rw [both_count ((List.nodup_cons.2 ⟨by simp, List.nodup_nil⟩ : [n].Nodup)), List.countP_eq_zero]
    intro m hm
    have := (List.mem_filter.1 hm).2
    simpa using this
  · rw [both_count g1.1.nodup, List.countP_eq_length]
    intro m hm
    simpa using (List.mem_filter.1 hm).1

theorem rd_row {H : AHeap} {l : List Int} {g : Bool} {n k : Nat} (hn : n = l.length) (hb : H[k]? = some (some (.arr 1 (l.map fun n => [.int .i64 n]) g))) : Rd (fun _ => True) H (dInts l) (.ref k 1 0 n (some n)) := by
  subst hn
  simp only [dInts, Rd]
  exact ⟨_, .inr (.inr ⟨k, 0, l.length, _, _, g, rfl, trivial, hb, by simp, (fun c hc => by cases hc; omega), rfl⟩), by rw [List.drop_zero, List.take_of_length_le (by simp)]; exact OwnLL.rd (F := fun _ => True) _ (fun _ x => x) _ (ownLL_ints .i64 _ _ l)⟩

end Glb
