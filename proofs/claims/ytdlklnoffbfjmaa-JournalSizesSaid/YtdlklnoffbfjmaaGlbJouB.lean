/-
  A library of its own: its parts, one behind the other.
-/
import Derived.Test.YtdlklnoffbfjmaaGlbJouA
import Derived.Test.YtdlklnoffbfjmaaGlbTurA
set_option linter.unusedSimpArgs false
set_option linter.unusedVariables false
/-
  Layer 7: JournalSizes.
-/
namespace Glb
open Go
set_option maxRecDepth 10000
set_option maxHeartbeats 8000000

theorem beq_ff : (false == false) = true := rfl
theorem beq_tt : (true == true) = true := rfl
theorem beq_tf : (true == false) = false := rfl
theorem beq_ft : (false == true) = false := rfl
theorem dI80 : decide ((8 : Int) = 0) = false := rfl
theorem dI88 : decide ((8 : Int) = 8) = true := rfl
theorem dI00 : decide ((0 : Int) = 0) = true := rfl

def arowL (R : List (List Int)) : List (List AV) := R.map fun b => [abytes b]
theorem arowL_rd (F : Nat → Prop) (h : AHeap) : ∀ R : List (List Int), RdLL F h (R.map fun b => [dBytes b]) (arowL R)
  | [] => rfl
  | b :: R => ⟨_, _, rfl, ⟨_, _, rfl, rd_abytes _ _ _, rfl⟩, arowL_rd F h R⟩
theorem OwnO.rows {lo : Nat} {h : AHeap} {a : AV} {R : List (List Int)} (ho : OwnO lo h 1 a (arowL R)) : Rd (fun m => lo ≤ m) h (dRows R) a := ⟨_, ho.els, arowL_rd _ _ R⟩
theorem arowL_snoc (R : List (List Int)) (b : List Int) : arowL (R ++ [b]) = arowL R ++ [[abytes b]] := by simp [arowL]

theorem sizes7_ok {P : Program} {f fp fn fj fk fo fa fs fb fc : FuncId} (hf : Is P f (c_glebelaw07_JournalSizes fp fn fj fk fo fa fs fb fc)) (hp : PickOk P fp) (hn : NewDOk P fn) (hj : JNewOk P fj) (hk : YesOk P fk) (ho : JRoomOk P fo) (ha : AppJOk P fa) (hs : ScanOk P fs) (hb : SameRowsR P fb) (hc : JCountOk P fc)
    (l : List (List Int)) (ep : Int) (hB : ∀ x ∈ l, bytesOk x) (h : AHeap) : ACalls P f [arows l, .int .i64 ep] h fun r _ => r = .bool true := by
  refine fun_sound hf.1 (Nat.le_of_ble_eq_true rfl) ?_
  show vc P (c_glebelaw07_JournalSizes fp fn fj fk fo fa fs fb fc).code ⟨[(0, arows l), (1, .int .i64 ep)], [], h⟩ (atEnd (c_glebelaw07_JournalSizes fp fn fj fk fo fa fs fb fc).res _)
  simp only [c_glebelaw07_JournalSizes, go_sem, reduceIte, Nat.reduceEqDiff, Nat.reduceAdd, Nat.reduceLeDiff, Nat.reducePow, Nat.reduceDiv, Nat.reduceMod, decide_true]
  refine use1 hp.1 (hp.2 _ _ (by omega) h) ?_
  have pk := pick_lt (k := ep) (n := 1099511627776) (by omega)
  generalize pick ep 1099511627776 = e0 at *
  obtain ⟨e, he⟩ : ∃ e, e = 1 + e0 := ⟨_, rfl⟩
  have e1 : IntKind.i64.wrap (1 + e0) = e := by rw [wrap_i64 (by omega), he]
  simp only [go_sem, reduceIte, Nat.reduceEqDiff, Nat.reduceAdd, Nat.reduceLeDiff, Nat.reducePow, Nat.reduceDiv, Nat.reduceMod, decide_true, e1]
  refine wCall_use ⟨hn.1, hn.2 h 120⟩ ?_
  rintro r H ⟨q1, -, X⟩
  obtain ⟨p, rfl, a⟩ := q1 (by omega)
  obtain ⟨F, a, hF, hF2⟩ : ∃ F : Nat → Prop, DiskAt F H p (Dk.new 120) ∧ (∀ m, F m → m < H.length) ∧ (∀ m, m < h.length → ¬ F m) := ⟨_, a, fun m x => x.2, fun m x y => by have := y.1; omega⟩
  simp only [go_sem, reduceIte, Nat.reduceEqDiff, Nat.reduceAdd, Nat.reduceLeDiff, Nat.reducePow, Nat.reduceDiv, Nat.reduceMod, decide_true]
  refine wCall_use ⟨hj.1, hj.2 F H p (Dk.new 120) 0 120 e a⟩ ?_
  rintro r H1 ⟨q1, -, X1⟩
  obtain ⟨rfl, hrow⟩ := q1 ⟨by omega, by omega, by simp [Dk.new], by omega, by unfold maxNo; omega⟩
  have x0 : JX F H1 H.length p (Dk.new 120) 0 120 e [] 0 := ⟨a.up X1, hrow, JS.new (by omega) (by omega) (by unfold maxNo; omega), fun x => by have := hF _ x; omega, fun m hm => Nat.lt_of_lt_of_le (hF m hm) X1.1, rfl⟩
  have l0 : (Dk.new 120).left < 0 := by show (-1 : Int) < 0; omega
  obtain ⟨q, hq⟩ : ∃ q, q = H.length := ⟨_, rfl⟩
  rw [← hq] at x0 ⊢
  have hqlt : q < H1.length := (List.getElem?_eq_some_iff.1 x0.row).1
  have hFlt := x0.lt
  simp only [go_sem, reduceIte, Nat.reduceEqDiff, Nat.reduceAdd, Nat.reduceLeDiff, Nat.reducePow, Nat.reduceDiv, Nat.reduceMod, decide_true]
  obtain ⟨I, hI⟩ : ∃ I : Nat → Env → AHeap → Prop, ∀ m L h', I m L h' ↔ ∃ (i : Nat) (d : Dk) (R : List (List Int)) (pos : Int) (w : AV), lk 0 L = arows l ∧ lk 1 L = .int .i64 e ∧ lk 5 L = .ptr p 6 0 0 ∧ lk 7 L = .ptr q 5 0 0 ∧ lk 9 L = w ∧ lk 10 L = .int .i64 i ∧
    JX F h' q p d 0 120 e R pos ∧ d.left < 0 ∧ OwnO H1.length h' 1 w (arowL R) ∧ H1.length ≤ h'.length ∧ R.length ≤ i ∧ i ≤ l.length ∧ i ≤ 30 ∧ m = 30 - i := ⟨_, fun _ _ _ => Iff.rfl⟩
  refine vc_loop I 30 ((hI _ _ _).2 ⟨0, _, [], 0, .nils, by simp [lk_ins, lk_cons], by simp [lk_ins, lk_cons], by simp [lk_ins, lk_cons], by simp [lk_ins, lk_cons], by simp [lk_ins, lk_cons], by simp [lk_ins, lk_cons], x0, l0, .inl ⟨rfl, rfl⟩, Nat.le_refl _, by simp, by omega, by omega, by omega⟩) ?_
  clear x0 l0
  intro m L h1 hh
  obtain ⟨i, d, R, pos, w, k0, k1, k5, k7, k9, k10, hx, hl, hw, hlen, hRi, hi, hi3, rfl⟩ := (hI _ _ _).1 hh
  have xs := hx.js.len
  have xl := hx.js.le
  have out : vc P (.seq (.reg []) .skip) ⟨[], [], h1⟩ (fun _ _ => True) := by simp only [go_sem, reduceIte, Nat.reduceEqDiff, Nat.reduceAdd, Nat.reduceLeDiff, Nat.reducePow, Nat.reduceDiv, Nat.reduceMod, decide_true]
  simp only [c_glebelaw07_JournalSizes_l0, go_sem, reduceIte, Nat.reduceEqDiff, Nat.reduceAdd, Nat.reduceLeDiff, Nat.reducePow, Nat.reduceDiv, Nat.reduceMod, decide_true, k0, k10, len_arows]
  by_cases ci : i < l.length
  · by_cases ci3 : (i : Int) < 30
    · have ci' : (i : Int) < l.length := by omega
      obtain ⟨z, z1, z2⟩ := rows_at ci
      have hBi := hB _ (List.getElem_mem ci)
      generalize l[i] = v at *
      simp only [go_sem, reduceIte, Nat.reduceEqDiff, Nat.reduceAdd, Nat.reduceLeDiff, Nat.reducePow, Nat.reduceDiv, Nat.reduceMod, decide_true, decide_eq_true ci', decide_eq_true ci3, k0, k10, z1, z2, len_abytes]
      by_cases c2 : 2000 < (v.length : Int)
      · simp only [go_sem, reduceIte, Nat.reduceEqDiff, Nat.reduceAdd, Nat.reduceLeDiff, Nat.reducePow, Nat.reduceDiv, Nat.reduceMod, decide_true, decide_eq_true c2]
        refine use1 hk.1 (hk.2 _) ?_
        simp only [go_sem, reduceIte, Nat.reduceEqDiff, Nat.reduceAdd, Nat.reduceLeDiff, Nat.reducePow, Nat.reduceDiv, Nat.reduceMod, decide_true]
      · have f1 : IntKind.i64.wrap ((v.length : Int) + 39) = v.length + 39 := wrap_i64 (by omega)
        simp only [go_sem, reduceIte, Nat.reduceEqDiff, Nat.reduceAdd, Nat.reduceLeDiff, Nat.reducePow, Nat.reduceDiv, Nat.reduceMod, decide_true, decide_eq_false c2, k0, k10, z1, z2, len_abytes, f1, quo64]
        rw [if_neg (by omega)]
        have f3 : IntKind.i64.wrap (((v.length : Int) + 39).tdiv 40) = (((v.length + 39) / 40 : Nat) : Int) := by rw [Int.tdiv_eq_ediv_of_nonneg (by omega), wrap_i64 (by omega)]; omega
        have f4 : max (1 : Int) (((v.length + 39) / 40 : Nat) : Int) = (many v : Nat) := by unfold many; omega
        have f5 : IntKind.i64.wrap ((i : Int) + 1) = ((i + 1 : Nat) : Int) := by rw [wrap_i64 (by omega)]; omega
        simp only [go_sem, reduceIte, Nat.reduceEqDiff, Nat.reduceAdd, Nat.reduceLeDiff, Nat.reducePow, Nat.reduceDiv, Nat.reduceMod, decide_true, k7, f3, rev_mnmx, mnmx_max, f4]
        refine use1 ho.1 (hx.room ho) ?_
        rw [show (0 : Int) + 120 - pos = 120 - pos by omega]
        simp only [go_sem, reduceIte, Nat.reduceEqDiff, Nat.reduceAdd, Nat.reduceLeDiff, Nat.reducePow, Nat.reduceDiv, Nat.reduceMod, decide_true, k0, k7, k10, z1, z2]
        refine wCall_use ⟨ha.1, hx.quiet ha hl (l := v) (G := nof) (rd_abytes _ _ _) (fun m hm => hm.elim) (by omega) hBi⟩ ?_
        rintro r h2 ⟨hX, ⟨g1, rfl, hx2⟩ | ⟨g1, rfl, d2, hx2, n2, hl2⟩⟩
        · have g2 : ¬ (many v : Int) ≤ 120 - pos := by omega
          have hw2 : OwnO H1.length h2 1 w (arowL R) := hw.kp fun m h1 h2 => hX.2 m h2 (by rintro (y | rfl); have := hFlt m y; omega; omega)
          simp only [go_sem, reduceIte, Nat.reduceEqDiff, Nat.reduceAdd, Nat.reduceLeDiff, Nat.reducePow, Nat.reduceDiv, Nat.reduceMod, decide_true, beq_ff, beq_tt, beq_tf, beq_ft, dI80, dI88, dI00, Bool.not_true, Bool.not_false, decide_eq_false g2, k7]
          refine use1 ho.1 (hx2.room ho) ?_
          rw [show (0 : Int) + 120 - pos = 120 - pos by omega]
          simp only [go_sem, reduceIte, Nat.reduceEqDiff, Nat.reduceAdd, Nat.reduceLeDiff, Nat.reducePow, Nat.reduceDiv, Nat.reduceMod, decide_true, decide_eq_true (Eq.refl (120 - pos)), Bool.not_true, k10, f5]
          exact ⟨_, by omega, (hI _ _ _).2 ⟨i + 1, d, R, pos, w, by simp [lk_ins, k0], by simp [lk_ins, k1], by simp [lk_ins, k5], by simp [lk_ins, k7], by simp [lk_ins, k9], by simp [lk_ins], hx2, hl, hw2, Nat.le_trans hlen hX.1, by omega, by omega, by omega, rfl⟩⟩
        · have g2 : (many v : Int) ≤ 120 - pos := by omega
          have hw2 : OwnO H1.length h2 1 w (arowL R) := hw.kp fun m h1 h2 => hX.2 m h2 (by rintro (y | rfl); have := hFlt m y; omega; omega)
          have hlen2 : H1.length ≤ h2.length := Nat.le_trans hlen hX.1
          obtain ⟨o2, h3, t1, t2, t3⟩ := acc_app (bytes := 24) (h := h2 ++ [some (.arr 1 [[abytes v]] false)]) (ys := [[abytes v]]) hw2 (Ext.b1 _) hlen2 (by simp [arowL]; omega)
          have e9 : IntKind.i64.wrap (120 - pos - (many v : Int)) = 120 - (pos + many v) := by rw [wrap_i64 (by omega)]; omega
          have t2' : OwnO H1.length h3 1 o2 (arowL (R ++ [v])) := by rw [arowL_snoc]; exact t2
          have hx3 : JX F h3 q p d2 0 120 e ([] ++ (R ++ [v])) (pos + many v) := by
            have hup := hx2.up (Ext.b1 (some (.arr 1 [[abytes v]] false)))
            refine ⟨hup.dk.mono (fun _ x => x) (t3.keepOff (F' := F) fun m _ hm x => by have := hFlt m hm; omega), ?_, hup.js, hup.nq, fun m hm => Nat.lt_of_lt_of_le (hup.lt m hm) t3.1, hup.off⟩
            have := t3.2 q (List.getElem?_eq_some_iff.1 hup.row).1 (fun x => by omega)
            exact this.trans hup.row
          have sv : (abytes v).scalar = true := (rd_abytes nof [] v).scalar
          simp only [go_sem, reduceIte, Nat.reduceEqDiff, Nat.reduceAdd, Nat.reduceLeDiff, Nat.reducePow, Nat.reduceDiv, Nat.reduceMod, decide_true, beq_ff, beq_tt, beq_tf, beq_ft, dI80, dI88, dI00, Bool.not_true, Bool.not_false, decide_eq_true g2, k0, k7, k9, k10, z1, z2, sv, cells_of sv, aappend_of (aelems_new h2 1 [[abytes v]] false (some 1) (len := 1) rfl), t1, e9]
          refine use1 ho.1 (hx3.room ho) ?_
          rw [show (0 : Int) + 120 - (pos + (many v : Int)) = 120 - (pos + many v) by omega]
          simp only [go_sem, reduceIte, Nat.reduceEqDiff, Nat.reduceAdd, Nat.reduceLeDiff, Nat.reducePow, Nat.reduceDiv, Nat.reduceMod, decide_true, decide_eq_true (Eq.refl (120 - (pos + (many v : Int)))), Bool.not_true, k10, f5]
          refine ⟨_, by omega, (hI _ _ _).2 ⟨i + 1, d2, R ++ [v], pos + many v, o2, by simp [lk_ins, k0], by simp [lk_ins, k1], by simp [lk_ins, k5], by simp [lk_ins, k7], by simp [lk_ins], by simp [lk_ins], hx3, hl2, t2', ?_, by simp; omega, by omega, by omega, rfl⟩⟩
          have := t3.1; simp at this; omega
    · have q1 : decide ((i : Int) < l.length) = true := decide_eq_true (by omega)
      have q2 : decide ((i : Int) < 30) = false := decide_eq_false ci3
      simp only [go_sem, reduceIte, Nat.reduceEqDiff, Nat.reduceAdd, Nat.reduceLeDiff, Nat.reducePow, Nat.reduceDiv, Nat.reduceMod, decide_true, q1, q2, k1, k5, k7, k9, k10]
      refine use1 hs.1 (hx.scan hs) ?_
      simp only [go_sem, reduceIte, Nat.reduceEqDiff, Nat.reduceAdd, Nat.reduceLeDiff, Nat.reducePow, Nat.reduceDiv, Nat.reduceMod, decide_true, dI00, k1, k5, k7, k9]
      refine use1 hb.1 (hb.2 nof (fun m => H1.length ≤ m) h1 R R _ _ (rd_arows _ _ _) hw.rows (by omega) (fun b hb => by have := hx.js.small b hb; omega)) ?_
      have lw := hw.rows.len
      simp only [List.length_map] at lw
      simp only [go_sem, reduceIte, Nat.reduceEqDiff, Nat.reduceAdd, Nat.reduceLeDiff, Nat.reducePow, Nat.reduceDiv, Nat.reduceMod, decide_true, decide_eq_true (Eq.refl R), k7]
      refine use1 hc.1 (hx.count hc) ?_
      simp only [go_sem, reduceIte, Nat.reduceEqDiff, Nat.reduceAdd, Nat.reduceLeDiff, Nat.reducePow, Nat.reduceDiv, Nat.reduceMod, decide_true, k9, lw, decide_eq_true (Eq.refl (R.length : Int))]
      refine use1 hk.1 (hk.2 _) ?_
      simp only [go_sem, reduceIte, Nat.reduceEqDiff, Nat.reduceAdd, Nat.reduceLeDiff, Nat.reducePow, Nat.reduceDiv, Nat.reduceMod, decide_true]
  · have q1 : decide ((i : Int) < l.length) = false := decide_eq_false (by omega)
    have q2 := q1
    simp only [go_sem, reduceIte, Nat.reduceEqDiff, Nat.reduceAdd, Nat.reduceLeDiff, Nat.reducePow, Nat.reduceDiv, Nat.reduceMod, decide_true, q1, q2, k1, k5, k7, k9, k10]
    refine use1 hs.1 (hx.scan hs) ?_
    simp only [go_sem, reduceIte, Nat.reduceEqDiff, Nat.reduceAdd, Nat.reduceLeDiff, Nat.reducePow, Nat.reduceDiv, Nat.reduceMod, decide_true, dI00, k1, k5, k7, k9]
    refine use1 hb.1 (hb.2 nof (fun m => H1.length ≤ m) h1 R R _ _ (rd_arows _ _ _) hw.rows (by omega) (fun b hb => by have := hx.js.small b hb; omega)) ?_
    have lw := hw.rows.len
    simp only [List.length_map] at lw
    simp only [go_sem, reduceIte, Nat.reduceEqDiff, Nat.reduceAdd, Nat.reduceLeDiff, Nat.reducePow, Nat.reduceDiv, Nat.reduceMod, decide_true, decide_eq_true (Eq.refl R), k7]
    refine use1 hc.1 (hx.count hc) ?_
    simp only [go_sem, reduceIte, Nat.reduceEqDiff, Nat.reduceAdd, Nat.reduceLeDiff, Nat.reducePow, Nat.reduceDiv, Nat.reduceMod, decide_true, k9, lw, decide_eq_true (Eq.refl (R.length : Int))]
    refine use1 hk.1 (hk.2 _) ?_
    simp only [go_sem, reduceIte, Nat.reduceEqDiff, Nat.reduceAdd, Nat.reduceLeDiff, Nat.reducePow, Nat.reduceDiv, Nat.reduceMod, decide_true]

end Glb
