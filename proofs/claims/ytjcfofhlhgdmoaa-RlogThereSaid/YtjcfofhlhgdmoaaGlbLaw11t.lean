/-
  The statements on a group's log: entries that are laid stand there.
-/
import Derived.Test.YtjcfofhlhgdmoaaGlbLaid
set_option linter.unusedSimpArgs false
set_option linter.unusedVariables false
namespace Glb
open Go
set_option maxRecDepth 10000
set_option maxHeartbeats 4000000

theorem there_ok {P : Program} {f fr fb fk fa fl fs ft se : FuncId} (hf : Is P f (c_glebelaw11_RlogThere fr fb fk fa fl fs ft se)) (hr : RightOk P fr) (hb : BigEntriesOk P fb) (hk : YesOk P fk)
    (ha : AppendOk P fa) (hl : LastOk P fl) (hs : SameLogOk P fs) (ht : TermOk P ft) (hse : SameEntriesOk P se)
    (l : Log) (i : Int) (e : List Entry) (h : AHeap) :
    ACalls P f [.agg (D.avL l.c), .int .i64 i, (dEntries e).av] h fun r _ => r = .bool true := by
  refine fun_sound hf.1 (Nat.le_of_ble_eq_true rfl) ?_
  show vc P (c_glebelaw11_RlogThere fr fb fk fa fl fs ft se).code ⟨[(0, .agg (D.avL l.c)), (1, .int .i64 i), (2, (dEntries e).av)], [], h⟩ (atEnd (c_glebelaw11_RlogThere fr fb fk fa fl fs ft se).res _)
  have hL : ∀ h, RdL nof h l.c [.int .i64 l.base, .int .i64 l.bterm, (dEntries l.es).av] := fun h => rdL_av nof h l.c
  have hE : ∀ h, Rd nof h (dEntries e) (dEntries e).av := fun h => rd_av nof h _
  have hD : ∀ h, Rd nof h (dEntries l.es) (dEntries l.es).av := fun h => rd_av nof h _
  have hcells : D.avL l.c = [.int .i64 l.base, .int .i64 l.bterm, (dEntries l.es).av] := rfl
  have hsc := av_scalar (dEntries l.es)
  generalize (dEntries l.es).av = dd at *
  generalize (dEntries e).av = de at *
  rw [hcells]
  simp only [c_glebelaw11_RlogThere, go_sem, reduceIte, Nat.reduceEqDiff, Nat.reduceAdd, Nat.reduceLeDiff, Nat.reducePow, Nat.reduceDiv, Nat.reduceMod, decide_true, hsc]
  have no : ∀ {h : AHeap} {K : AV → AHeap → Prop}, K (.bool true) h → wCall P fk [] h K := fun hK => wCall_use ⟨hk.1, hk.2 _⟩ (by rintro _ _ ⟨rfl, rfl⟩; exact hK)
  refine wCall_use ⟨hr.1, hr.2 nof _ l _ (hL _)⟩ ?_
  rintro _ _ ⟨b1, rfl, e1, hb1⟩
  subst e1
  cases b1
  · simp only [go_sem, reduceIte, Nat.reduceEqDiff, Nat.reduceAdd, Nat.reduceLeDiff, Nat.reducePow, Nat.reduceDiv, Nat.reduceMod, decide_true]
    refine no ?_
    simp only [go_sem, reduceIte, Nat.reduceEqDiff, Nat.reduceAdd, Nat.reduceLeDiff, Nat.reducePow, Nat.reduceDiv, Nat.reduceMod, decide_true]
  simp only [go_sem, reduceIte, Nat.reduceEqDiff, Nat.reduceAdd, Nat.reduceLeDiff, Nat.reducePow, Nat.reduceDiv, Nat.reduceMod, decide_true]
  refine wCall_use ⟨hb.1, hb.2 nof _ e _ 2000 65536 (hE _) (by omega) (by omega)⟩ ?_
  rintro _ _ ⟨b2, rfl, e2, hb2⟩
  subst e2
  cases b2
  rotate_left
  · simp only [go_sem, reduceIte, Nat.reduceEqDiff, Nat.reduceAdd, Nat.reduceLeDiff, Nat.reducePow, Nat.reduceDiv, Nat.reduceMod, decide_true]
    refine no ?_
    simp only [go_sem, reduceIte, Nat.reduceEqDiff, Nat.reduceAdd, Nat.reduceLeDiff, Nat.reducePow, Nat.reduceDiv, Nat.reduceMod, decide_true]
  have hR := hb1 rfl
  have ok := hR.ok
  have hEs : e.length ≤ 2000 ∧ ∀ x ∈ e, x.data.length ≤ 65536 := by have := hb2 rfl; exact ⟨by have := this.1; omega, fun x hx => by have := this.2 x hx; omega⟩
  have okE : SmallEntries e := ⟨by omega, fun x hx => by have := hEs.2 x hx; omega⟩
  have le := (hE []).len
  simp only [List.length_map] at le
  simp only [go_sem, reduceIte, Nat.reduceEqDiff, Nat.reduceAdd, Nat.reduceLeDiff, Nat.reducePow, Nat.reduceDiv, Nat.reduceMod, decide_true]
  refine wCall_use ⟨ha.1, ha.2 nof _ l _ i e _ (hL _) (hE _) ok okE⟩ ?_
  rintro _ h1 ⟨_, rfl, hx, x1⟩
  obtain ⟨rx, rfl, hx'⟩ := own_log hx
  have A1 := x1.get (bx10 _ _)
  have sx := laid_small hR hEs i
  have hxb := laid_base l i e
  have okx : LogOk (l.laid i e) := ⟨by rw [hxb.1]; exact ok.1, by rw [hxb.1]; exact ok.2.1, sx⟩
  have hxe : Rd (fun _ => True) h1 (dEntries (l.laid i e).es) rx := Own.rd _ (fun _ _ => trivial) _ hx'
  simp only [hxb.1, hxb.2] at *
  have A2 := (Ext.b1 (some (.arr 3 [[.int .i64 l.base, .int .i64 l.bterm, rx]] false))).get A1
  have X2 := bx10 h1 (some (.arr 3 [[.int .i64 l.base, .int .i64 l.bterm, rx]] false))
  have R2 := hxe.up (Ext.b1 (some (.arr 3 [[.int .i64 l.base, .int .i64 l.bterm, rx]] false)))
  simp only [go_sem, reduceIte, Nat.reduceEqDiff, Nat.reduceAdd, Nat.reduceLeDiff, Nat.reducePow, Nat.reduceDiv, Nat.reduceMod, decide_true, hx'.scalar, A2]
  generalize h1 ++ [some (.arr 3 [[.int .i64 l.base, .int .i64 l.bterm, rx]] false)] = H at *
  have RL : ∀ {h' : AHeap}, Ext nof H h' → RdL (fun _ => True) h' (l.laid i e).c [.int .i64 l.base, .int .i64 l.bterm, rx] := fun x => by
    have := rd_log (l := l.laid i e) (R2.up x)
    rw [(laid_base l i e).1, (laid_base l i e).2] at this; exact this
  have hlast : l.last = l.base + l.es.length := rfl
  have o3 := hR.2.2.1
  have ob := hR.1.2
  have ob0 := hR.1.1
  refine wCall_use ⟨hl.1, hl.2 nof _ l _ (hL _) ok⟩ ?_
  rintro _ H2 ⟨rfl, e3⟩
  subst e3
  simp only [go_sem, reduceIte, Nat.reduceEqDiff, Nat.reduceAdd, Nat.reduceLeDiff, Nat.reducePow, Nat.reduceDiv, Nat.reduceMod, decide_true, A2]
  have LL : ∀ h', RdL (fun _ => True) h' l.c [.int .i64 l.base, .int .i64 l.bterm, dd] := fun h' => RdL.mono (fun m hm => hm.elim) (Keep.lt _ _) _ _ (hL h')
  cases hh : l.has i
  · have hi : ¬ (l.base ≤ i ∧ i ≤ l.last) := by rw [← has_iff, hh]; simp
    have e0 := laid_no (e := e) hh
    have s0 : decide (l.laid i e = l) = true := decide_eq_true e0.1
    by_cases h1' : i < l.base
    · simp only [go_sem, reduceIte, Nat.reduceEqDiff, Nat.reduceAdd, Nat.reduceLeDiff, Nat.reducePow, Nat.reduceDiv, Nat.reduceMod, decide_true, decide_eq_true h1', e0.2, decide_true, X2, A2]
      refine wCall_use ⟨hs.1, hs.2 (fun _ => True) _ (l.laid i e) l _ _ (RL (Ext.refl _ _)) (LL _) (by have := sx.1; omega) sx.2⟩ ?_
      rintro _ H3 ⟨rfl, e3⟩
      subst e3
      simp only [go_sem, reduceIte, Nat.reduceEqDiff, Nat.reduceAdd, Nat.reduceLeDiff, Nat.reducePow, Nat.reduceDiv, Nat.reduceMod, decide_true, s0]
      refine no ?_
      simp only [go_sem, reduceIte, Nat.reduceEqDiff, Nat.reduceAdd, Nat.reduceLeDiff, Nat.reducePow, Nat.reduceDiv, Nat.reduceMod, decide_true]
    · simp only [go_sem, reduceIte, Nat.reduceEqDiff, Nat.reduceAdd, Nat.reduceLeDiff, Nat.reducePow, Nat.reduceDiv, Nat.reduceMod, decide_true, decide_eq_false h1', decide_eq_true (show l.last < i by omega), e0.2, decide_true, X2, A2]
      refine wCall_use ⟨hs.1, hs.2 (fun _ => True) _ (l.laid i e) l _ _ (RL (Ext.refl _ _)) (LL _) (by have := sx.1; omega) sx.2⟩ ?_
      rintro _ H3 ⟨rfl, e3⟩
      subst e3
      simp only [go_sem, reduceIte, Nat.reduceEqDiff, Nat.reduceAdd, Nat.reduceLeDiff, Nat.reducePow, Nat.reduceDiv, Nat.reduceMod, decide_true, s0]
      refine no ?_
      simp only [go_sem, reduceIte, Nat.reduceEqDiff, Nat.reduceAdd, Nat.reduceLeDiff, Nat.reducePow, Nat.reduceDiv, Nat.reduceMod, decide_true]
  · have hi := has_iff.1 hh
    simp only [go_sem, reduceIte, Nat.reduceEqDiff, Nat.reduceAdd, Nat.reduceLeDiff, Nat.reducePow, Nat.reduceDiv, Nat.reduceMod, decide_true, decide_eq_false (show ¬ i < l.base by omega), decide_eq_false (show ¬ l.last < i by omega)]
    refine vc_loop (fun m L h' => ∃ (k : Nat), lk 1 L = .int .i64 i ∧ lk 2 L = de ∧ lk 3 L = .ptr h.length 3 0 0 ∧ lk 7 L = .ptr h1.length 3 0 0 ∧ lk 8 L = .int .i64 (l.laidAt i e) ∧ lk 11 L = .int .i64 k ∧ k ≤ e.length ∧ m = e.length - k ∧ h' = H2) e.length ?_ ?_
    · exact ⟨0, by simp [lk_ins, lk_cons], by simp [lk_ins, lk_cons], by simp [lk_ins, lk_cons], by simp [lk_ins, lk_cons], by simp [lk_ins, lk_cons], by simp [lk_ins, lk_cons], by omega, rfl, rfl⟩
    · rintro m L H4 ⟨k, k1, k2, k3, k7, k8, k11, hk1, rfl, rfl⟩
      have le' : alen de = some (.int .i64 e.length) := le
      by_cases c : k < e.length
      · have w1 : IntKind.i64.wrap (i + 1) = i + 1 := wrap_i64 (by omega)
        have w2 : IntKind.i64.wrap (i + 1 + k) = i + 1 + k := wrap_i64 (by omega)
        have w3 : IntKind.i64.wrap ((k : Int) + 1) = (k : Int) + 1 := wrap_i64 (by omega)
        have tk := laid_there (e := e) hh k c
        simp only [c_glebelaw11_RlogThere_l0, go_sem, reduceIte, Nat.reduceEqDiff, Nat.reduceAdd, Nat.reduceLeDiff, Nat.reducePow, Nat.reduceDiv, Nat.reduceMod, decide_true, k1, k2, k3, k7, k11, le', decide_eq_true (show (k : Int) < e.length by omega), X2, w1, w2]
        refine wCall_use ⟨ht.1, ht.2 _ _ (l.laid i e) _ (i + 1 + k) (RL (Ext.refl _ _)) okx⟩ ?_
        rintro _ H3 ⟨rfl, e3⟩
        subst e3
        obtain ⟨p, cs, hp, hpc, hcs⟩ := (hE H3).index .i64 (i := (k : Int)) (d := (e[k]).c) (by omega) (by simp [c])
        simp only [Entry.c, RdL, Rd] at hcs
        obtain ⟨_, _, rfl, rfl, _, _, rfl, rfl, d', _, rfl, _, rfl⟩ := hcs
        simp only [go_sem, reduceIte, Nat.reduceEqDiff, Nat.reduceAdd, Nat.reduceLeDiff, Nat.reducePow, Nat.reduceDiv, Nat.reduceMod, decide_true, tk.1, tk.2, k1, k2, k3, k7, k11, hp, afield_p hpc, aload_off hpc, decide_true, Bool.not_true, w3]
        exact ⟨_, by omega, k + 1, k8, rfl, by omega, rfl⟩
      · have w1 : IntKind.i64.wrap (i - l.base) = i - l.base := wrap_i64 (by omega)
        have lx := R2.len
        simp only [List.length_map] at lx
        have tk := laid_take (e := e) hh
        obtain ⟨q1, hq1, r1⟩ := R2.slice (lo := none) (hi := some (i - l.base)) (mx := none) (by simp) (by simp; omega) (by simp; omega) (by simp) (by simp; omega) (by simp)
        obtain ⟨q2, hq2, r2⟩ := (hD H4).slice (lo := none) (hi := some (i - l.base)) (mx := none) (by simp) (by simp; omega) (by simp; omega) (by simp) (by simp; omega) (by simp)
        simp only [Option.getD_some, Option.getD_none, Int.toNat_zero, List.drop_zero, ← List.map_take] at r1 r2
        rw [tk.1] at r1
        have s1 : SmallEntries (l.es.take (i - l.base).toNat) := ok.2.2.sub (by simp; omega) (fun x hx => List.mem_of_mem_take hx)
        simp only [c_glebelaw11_RlogThere_l0, go_sem, reduceIte, Nat.reduceEqDiff, Nat.reduceAdd, Nat.reduceLeDiff, Nat.reducePow, Nat.reduceDiv, Nat.reduceMod, decide_true, k1, k2, k3, k7, k8, k11, le', decide_eq_false (show ¬ (k : Int) < e.length by omega), X2, A2, w1, lx, decide_true, Bool.not_true, decide_eq_false (show ¬ ((l.laid i e).es.length : Int) < i - l.base by omega), hq1, hq2]
        refine wCall_use ⟨hse.1, hse.2 (fun _ => True) _ (l.es.take (i - l.base).toNat) (l.es.take (i - l.base).toNat) _ _ r1 (Rd.mono (fun m hm => hm.elim) (Keep.lt _ _) _ _ r2) (by have := s1.1; omega) s1.2⟩ ?_
        rintro _ H3 ⟨rfl, e3⟩
        subst e3
        simp only [go_sem, reduceIte, Nat.reduceEqDiff, Nat.reduceAdd, Nat.reduceLeDiff, Nat.reducePow, Nat.reduceDiv, Nat.reduceMod, decide_true, decide_true, k1, k2, k3, k7, k8, X2]
        refine wCall_use ⟨ha.1, ha.2 (fun _ => True) _ (l.laid i e) _ i e _ (RL (Ext.refl _ _)) (Rd.mono (fun m hm => hm.elim) (Keep.lt _ _) _ _ (hE _)) okx okE⟩ ?_
        rintro _ h5 ⟨_, rfl, hy, x5⟩
        rw [(laid_again hh).1] at hy
        obtain ⟨ry, rfl, hy'⟩ := own_log hy
        simp only [(laid_base l i e).1, (laid_base l i e).2]
        have A5 := (Ext.b1 (some (.arr 3 [[.int .i64 l.base, .int .i64 l.bterm, ry]] false))).get (x5.get A2)
        have X5 := (Ext.b1 (some (.arr 3 [[.int .i64 l.base, .int .i64 l.bterm, ry]] false))).get (x5.get X2)
        have Y5 := bx10 h5 (some (.arr 3 [[.int .i64 l.base, .int .i64 l.bterm, ry]] false))
        have x6 := x5.tr (Ext.b1 (some (.arr 3 [[.int .i64 l.base, .int .i64 l.bterm, ry]] false)))
        have RY := rd_log (l := l.laid i e) (Own.rd _ (F' := fun _ => True) (fun _ _ => trivial) _ (hy'.up (Ext.b1 (some (.arr 3 [[.int .i64 l.base, .int .i64 l.bterm, ry]] false)))))
        rw [(laid_base l i e).1, (laid_base l i e).2] at RY
        simp only [go_sem, reduceIte, Nat.reduceEqDiff, Nat.reduceAdd, Nat.reduceLeDiff, Nat.reducePow, Nat.reduceDiv, Nat.reduceMod, decide_true, hy'.scalar, (laid_again hh).2, decide_true, Bool.not_true, X5, Y5, k7]
        refine wCall_use ⟨hs.1, hs.2 (fun _ => True) _ (l.laid i e) (l.laid i e) _ _ (RL x6) RY (by have := sx.1; omega) sx.2⟩ ?_
        rintro _ H3 ⟨rfl, e3⟩
        subst e3
        have ag := agree_le l e (i + 1)
        have ai := agree_in (e := e) hh
        by_cases hag : l.agree (i + 1) e < e.length
        · have ly := laid_yes hh hag
          simp only [go_sem, reduceIte, Nat.reduceEqDiff, Nat.reduceAdd, Nat.reduceLeDiff, Nat.reducePow, Nat.reduceDiv, Nat.reduceMod, decide_true, decide_true, Bool.not_true, k8, ly.2, decide_eq_false (show ¬ i + 1 + (l.agree (i + 1) e : Int) = 0 by omega), k7, X5]
          refine wCall_use ⟨hl.1, hl.2 _ _ (l.laid i e) _ (RL x6) okx⟩ ?_
          rintro _ H5 ⟨rfl, e3⟩
          subst e3
          have w2 : IntKind.i64.wrap (i + (e.length : Int)) = i + e.length := wrap_i64 (by omega)
          have w3 : IntKind.i64.wrap (i + 1 + (l.agree (i + 1) e : Int) - l.base) = i + 1 + (l.agree (i + 1) e : Int) - l.base := wrap_i64 (by omega)
          have w4 : IntKind.i64.wrap (i + 1 + (l.agree (i + 1) e : Int) - l.base - 1) = i + (l.agree (i + 1) e : Int) - l.base := by rw [show i + 1 + (l.agree (i + 1) e : Int) - l.base - 1 = i + (l.agree (i + 1) e : Int) - l.base by omega]; exact wrap_i64 (by omega)
          have w5 : IntKind.i64.wrap (i + 1 + (l.agree (i + 1) e : Int) - i) = 1 + (l.agree (i + 1) e : Int) := by rw [show i + 1 + (l.agree (i + 1) e : Int) - i = 1 + (l.agree (i + 1) e : Int) by omega]; exact wrap_i64 (by omega)
          have w6 : IntKind.i64.wrap (1 + (l.agree (i + 1) e : Int) - 1) = (l.agree (i + 1) e : Int) := by rw [show 1 + (l.agree (i + 1) e : Int) - 1 = (l.agree (i + 1) e : Int) by omega]; exact wrap_i64 (by omega)
          have ll := laid_last hh hag
          have ll' : (l.laid i e).last = l.base + (l.laid i e).es.length := by rw [← (laid_base l i e).1]; rfl
          obtain ⟨q3, hq3, r3⟩ := (R2.up x6).slice (lo := some (i + (l.agree (i + 1) e : Int) - l.base)) (hi := none) (mx := none) (by simp; omega) (by simp; omega) (by simp) (by simp) (by simp) (by simp)
          obtain ⟨q4, hq4, r4⟩ := (hE (h5 ++ [some (.arr 3 [[.int .i64 l.base, .int .i64 l.bterm, ry]] false)])).slice (lo := some (l.agree (i + 1) e : Int)) (hi := none) (mx := none) (by simp) (by simp; omega) (by simp) (by simp) (by simp) (by simp)
          simp only [Option.getD_some, Option.getD_none, Int.toNat_natCast, List.take_length, ← List.map_drop] at r3 r4
          rw [laid_drop hh hag] at r3
          have s4 : SmallEntries (e.drop (l.agree (i + 1) e)) := okE.sub (by simp) (fun x hx => List.mem_of_mem_drop hx)
          simp only [go_sem, reduceIte, Nat.reduceEqDiff, Nat.reduceAdd, Nat.reduceLeDiff, Nat.reducePow, Nat.reduceDiv, Nat.reduceMod, decide_true, ll, k1, k2, k3, k7, k8, ly.2, le', X5, A5, w2, w3, w4, w5, w6, decide_true, decide_eq_true (show i < i + 1 + (l.agree (i + 1) e : Int) by omega), decide_eq_true (show i + 1 + (l.agree (i + 1) e : Int) ≤ i + e.length by omega), hq3, hq4]
          refine wCall_use ⟨hse.1, hse.2 (fun _ => True) _ (e.drop (l.agree (i + 1) e)) (e.drop (l.agree (i + 1) e)) _ _ r3 (Rd.mono (fun m hm => hm.elim) (Keep.lt _ _) _ _ r4) (by have := s4.1; omega) s4.2⟩ ?_
          rintro _ H5 ⟨rfl, e3⟩
          subst e3
          simp only [go_sem, reduceIte, Nat.reduceEqDiff, Nat.reduceAdd, Nat.reduceLeDiff, Nat.reducePow, Nat.reduceDiv, Nat.reduceMod, decide_true, decide_true]
          refine no ?_
          simp only [go_sem, reduceIte, Nat.reduceEqDiff, Nat.reduceAdd, Nat.reduceLeDiff, Nat.reducePow, Nat.reduceDiv, Nat.reduceMod, decide_true]
        · have ly := laid_same (l := l) (p := i) (e := e) (by omega)
          have s0 : decide (l.laid i e = l) = true := decide_eq_true ly.1
          simp only [go_sem, reduceIte, Nat.reduceEqDiff, Nat.reduceAdd, Nat.reduceLeDiff, Nat.reducePow, Nat.reduceDiv, Nat.reduceMod, decide_true, decide_true, Bool.not_true, k8, ly.2, k7, k3, X5, A5]
          refine wCall_use ⟨hs.1, hs.2 (fun _ => True) _ (l.laid i e) l _ _ (RL x6) (LL _) (by have := sx.1; omega) sx.2⟩ ?_
          rintro _ H5 ⟨rfl, e3⟩
          subst e3
          simp only [go_sem, reduceIte, Nat.reduceEqDiff, Nat.reduceAdd, Nat.reduceLeDiff, Nat.reducePow, Nat.reduceDiv, Nat.reduceMod, decide_true, s0]
          refine no ?_
          simp only [go_sem, reduceIte, Nat.reduceEqDiff, Nat.reduceAdd, Nat.reduceLeDiff, Nat.reducePow, Nat.reduceDiv, Nat.reduceMod, decide_true]

end Glb
