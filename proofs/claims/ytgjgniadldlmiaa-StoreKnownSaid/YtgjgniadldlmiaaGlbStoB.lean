/-
  A library of its own: its parts, one behind the other.
-/
import Derived.Test.YtgjgniadldlmiaaGlbStoA
import Derived.Test.YtgjgniadldlmiaaGlbJouB
import Derived.Test.YtgjgniadldlmiaaGlbChkB
import Derived.Test.YtgjgniadldlmiaaGlbJou10
set_option linter.unusedSimpArgs false
set_option linter.unusedVariables false
/-
  Layer 9: what is held, a deed.
-/
namespace Glb
open Go
set_option maxRecDepth 10000
set_option maxHeartbeats 8000000

end Glb

/-
  Layer 9: the law StoreThere.
-/
namespace Glb
open Go
set_option maxRecDepth 10000
set_option maxHeartbeats 16000000

theorem SX.arm {P : Program} {f : FuncId} (ha : ArmOk P f) {F h s q p d slot E c R i} (x : SX F h s q p d slot E c R i) {n : Int} (hn : -9223372036854775808 ≤ n ∧ n ≤ 9223372036854775807) :
    ACalls P f [.ptr p 6 0 0, .int .i64 n] h fun _ h' => SX F h' s q p (d.arm n) slot E c R i ∧ Ext F h h' := by
  refine (ha.2 F h p d n x.dk hn).mono ?_
  rintro _ h' ⟨hd, hx⟩
  have kp : ∀ {m : Nat} {v : Option ABlk}, h[m]? = some v → ¬ F m → h'[m]? = some v := fun hv hm => (hx.2 _ (List.getElem?_eq_some_iff.1 hv).1 hm).trans hv
  exact ⟨⟨hd, ⟨kp x.st.row x.st.nf, fun j hj => ⟨kp (x.st.jn j hj).1 (x.st.jn j hj).2.2.1, (x.st.jn j hj).2⟩, x.st.nf⟩, x.sd.arm hn.2, fun k hk => (x.js k hk).arm hn.2, fun m hm => Nat.lt_of_lt_of_le (x.lt m hm) hx.1⟩, hx⟩
theorem SX.low {F h s q p d slot E c R i} (x : SX F h s q p d slot E c R i) : s < h.length := (List.getElem?_eq_some_iff.1 x.st.row).1

end Glb

/-
  Layer 9: StoreKnown.
-/
namespace Glb
open Go
set_option maxRecDepth 10000
set_option maxHeartbeats 16000000

theorem Dk.japp_cut {d : Dk} {j : Jn} {p : List Int} (hl : d.left = 0) (ho : d.off = false) (h1 : p.length ≤ 32768) (h2 : (many p : Int) ≤ j.fin - j.at') (h3 : 0 ≤ j.at') (h4 : j.fin ≤ d.n) : (d.japp j p).2.2 = 10 := by
  have mp := many_pos p
  obtain ⟨m, hm⟩ : ∃ m, many p = m + 1 := ⟨many p - 1, by omega⟩
  have e1 : (d.jwr j p 0).2 = 10 := by
    unfold Dk.jwr Dk.write
    have hr := rowJ_le j.epoch (j.count + 1) p 0
    have hs : d.spend.1 = false := by unfold Dk.spend; rw [if_pos hl]
    rw [ho, if_neg (by simp), if_neg (by omega), if_neg (by omega), hs]
    rfl
  have e2 : (d.jrest j p (many p) 0).2 = 10 := by
    rw [hm]
    simp only [Dk.jrest]
    rw [if_neg (by omega), e1]
  have e3 : (d.jdone j p).2 = 10 := by
    unfold Dk.jdone
    rw [if_neg (by omega), e2]
  unfold Dk.japp
  rw [if_neg (by omega), if_neg (by omega)]
  exact e3
/-- an Append on a disk whose power goes at once -/
theorem SX.cut {P : Program} {f : FuncId} (hs : SAppOk P f) {F h s q p d slot E c R k} (x : SX F h s q p d slot E c R (some k)) (hl : d.left = 0) (hk : 0 ≤ k ∧ k + 1 ≤ d.n) :
    ACalls P f [.ptr s 5 0 0, .nils] h fun r h' => Ext (fun m => F m ∨ m = q ∨ m = s) h h' ∧ r = .int .i64 10 ∧ ∃ d', SDead F h' s q p d' d.n (fun e => SD e slot E c R) (fun e => SD e slot E c (R ++ [[]])) := by
  have hsl := x.sd.sl
  have hep := x.sd.ep
  refine (hs.2 F nof h s q p d (sof slot E d.n R (some k)) [] .nils x.dk x.st x.lt (Own.rd _ (fun _ x => x) _ (Own.nils 1)) (fun m hm => hm.elim)).mono ?_
  rintro r h' ⟨hr, hd, hst, hx⟩
  have js := x.js k rfl
  have m0 : many ([] : List Int) = 1 := by decide
  have e1 : d.sapp (sof slot E d.n R (some k)) [] = ((d.japp (jof (2 * slot) (d.n - 2 * slot) E R k) []).1, { sof slot E d.n R (some k) with j := some (d.japp (jof (2 * slot) (d.n - 2 * slot) E R k) []).2.1, dead := decide ((d.japp (jof (2 * slot) (d.n - 2 * slot) E R k) []).2.2 = 10) }, (d.japp (jof (2 * slot) (d.n - 2 * slot) E R k) []).2.2) := rfl
  rw [e1] at hr hd hst
  have cut := Dk.japp_cut (d := d) (j := jof (2 * slot) (d.n - 2 * slot) E R k) (p := []) hl x.sd.ck.off (by simp) (by rw [m0]; simp only [jof]; omega) (by simp only [jof]; omega) (by simp only [jof]; omega)
  refine ⟨hx, ?_⟩
  rcases x.sd.append js (q := []) (by simp) (fun x hx => by cases hx) with ⟨h1, h2⟩ | ⟨h1, d', h2, h3, h4, h5, h6⟩ | ⟨h1, d', h2, h3, h4, h5, h6, h7, h8⟩
  · rw [h2] at cut; simp at cut
  · rw [h2] at cut; simp at cut
  · rw [h2] at hr hd hst
    exact ⟨hr, d', ⟨hd, ⟨_, hst, rfl, hsl.1, hsl.2, hep.1, hep.2⟩, h3, h4, h5, h6, h8⟩⟩
/-- a dead store's Renew, whatever its disk has become -/
theorem dead_ren {P : Program} {f : FuncId} (ha : SRenOk P f) {F h s q p d} {y : St9} (dk : DiskAt F h p d) (st : StAt F h s q p y d.n) (h2 : y.dead = true) (h3 : 1 ≤ y.slot ∧ 2 * y.slot + 1 ≤ d.n) (h5 : 0 ≤ y.epoch ∧ y.epoch < maxNo) (hF : ∀ m, F m → m < h.length) :
    ACalls P f [.ptr s 5 0 0, .nils] h fun r h' => r = .int .i64 10 := by
  refine (ha.2 F nof h s q p d y [] .nils dk st hF (Own.rd _ (fun _ x => x) _ (Own.nils 1)) (fun m hm => hm.elim) h3 h5).mono ?_
  rintro r h' ⟨hr, -⟩
  have e : d.sren y [] = (d, y, 10) := by unfold Dk.sren; rw [if_pos h2]
  rw [e] at hr
  exact hr
theorem open_new {P : Program} {f : FuncId} (ho : SOpenOk P f) {F h p} {slot : Int} (hd : DiskAt F h p (Dk.new 12)) : ACalls P f [.ptr p 6 0 0, .int .i64 slot] h fun r h' => Ext nof h h' ∧
    ∃ a b, if 1 ≤ slot ∧ slot ≤ 5 then r = .tup [.ptr h.length 5 0 0, a, b, .int .i64 0] else r = .tup [.raw (.pointer none), a, b, .int .i64 3] := by
  refine (ho.2 F h p _ slot hd (Dk.new_bts 12)).mono ?_
  rintro r h' ⟨hx, hr⟩
  refine ⟨hx, ?_⟩
  have hn : (Dk.new 12).n = 12 := rfl
  have hoff : (Dk.new 12).off = false := rfl
  rw [hn, hoff] at hr
  by_cases c : 1 ≤ slot ∧ slot ≤ 5
  · rw [if_neg (by omega), if_neg (by simp)] at hr
    simp only [if_pos c]
    obtain ⟨-, hr⟩ := hr
    split at hr
    · exact ⟨_, _, hr⟩
    · exact ⟨_, _, hr⟩
  · rw [if_pos (by omega)] at hr
    simp only [if_neg c]
    exact ⟨_, _, hr⟩
/-- a store that is off -/
theorem open_off {P : Program} {f : FuncId} (ho : SOpenOk P f) {F h p d} {slot : Int} (hd : DiskAt F h p d) (hb : d.bts) (hs : 1 ≤ slot ∧ 2 * slot + 1 ≤ d.n) (hf : d.off = true) : ACalls P f [.ptr p 6 0 0, .int .i64 slot] h fun r h' => Ext nof h h' ∧ r = .tup [.raw (.pointer none), .nils, .nils, .int .i64 10] := by
  refine (ho.2 F h p _ slot hd hb).mono ?_
  rintro r h' ⟨hx, hr⟩
  rw [if_neg (by omega), hf, if_pos rfl] at hr
  exact ⟨hx, hr⟩
theorem SX.lq {F h s q p d slot E c R k} (x : SX F h s q p d slot E c R (some k)) : q < h.length := (List.getElem?_eq_some_iff.1 (x.st.jn _ rfl).1).1
def slots09 : List Int := [-9223372036854775808, -1, 0, 1, 5, 6, 9223372036854775807]
theorem slots09_fine : ∀ i, i < 7 → ((1 ≤ slots09.getD i 0 ∧ slots09.getD i 0 ≤ 5) ↔ (i = 3 ∨ i = 4)) := by decide

theorem sknown9_ok {P : Program} {f fn fo fr fa fe fc fb fd fx fk : FuncId} (hf : IsR P false f (r_glebelaw09_StoreKnown fn fo fr fa fe fc fb fd fx fk)) (hn : NewDOk P fn) (ho : SOpenOk P fo) (hr : SRenOk P fr) (ha : SAppOk P fa) (he : SEpochOk P fe) (hc : SCountOk P fc) (hb : SameOk P fb .u8) (hd : ArmOk P fd) (hx : CrashDOk P fx) (hk : YesOk P fk) (h : AHeap) :
    ACalls P f [] h fun r _ => r = .bool true := by
  refine rfun_sound hf.2 (Nat.le_of_ble_eq_true rfl) ?_
  show rvc P 0 (fun _ _ _ => False) (r_glebelaw09_StoreKnown fn fo fr fa fe fc fb fd fx fk).code ⟨none, false, ⟨[], [], h⟩⟩ (atEndR (r_glebelaw09_StoreKnown fn fo fr fa fe fc fb fd fx fk).res _)
  simp only [r_glebelaw09_StoreKnown, go_sem, reduceIte, Nat.reduceEqDiff, Nat.reduceAdd, Nat.reduceLeDiff, Nat.reducePow, Nat.reduceDiv, Nat.reduceMod, decide_true]
  refine wCall_use ⟨hn.1, hn.2 h 12⟩ ?_
  rintro r H ⟨e1, -, X⟩
  obtain ⟨p, rfl, a⟩ := e1 (by omega)
  obtain ⟨F, a, hF⟩ : ∃ F : Nat → Prop, DiskAt F H p (Dk.new 12) ∧ (∀ m, F m → m < H.length) := ⟨_, a, fun m x => x.2⟩
  simp only [go_sem, reduceIte, Nat.reduceEqDiff, Nat.reduceAdd, Nat.reduceLeDiff, Nat.reducePow, Nat.reduceDiv, Nat.reduceMod, decide_true]
  have aH := a.up (h' := H ++ [some (.arr 1 [[.int .i64 (-9223372036854775808)], [.int .i64 (-1)], [.int .i64 0], [.int .i64 1], [.int .i64 5], [.int .i64 6], [.int .i64 9223372036854775807]] false)]) (Ext.app _ _ _)
  have bH : (H ++ [some (ABlk.arr 1 [[.int .i64 (-9223372036854775808)], [.int .i64 (-1)], [.int .i64 0], [.int .i64 1], [.int .i64 5], [.int .i64 6], [.int .i64 9223372036854775807]] false)])[H.length]? = some (some (.arr 1 (slots09.map fun x => [AV.int .i64 x]) false)) := bx10 _ _
  have hF1 : ∀ m, F m → m < (H ++ [some (ABlk.arr 1 [[.int .i64 (-9223372036854775808)], [.int .i64 (-1)], [.int .i64 0], [.int .i64 1], [.int .i64 5], [.int .i64 6], [.int .i64 9223372036854775807]] false)]).length := fun m hm => by have := hF m hm; simp; omega
  generalize H.length = n at *
  generalize H ++ [some (ABlk.arr 1 [[.int .i64 (-9223372036854775808)], [.int .i64 (-1)], [.int .i64 0], [.int .i64 1], [.int .i64 5], [.int .i64 6], [.int .i64 9223372036854775807]] false)] = H0 at *
  clear a hF X e1
  obtain ⟨I, hI⟩ : ∃ I : Nat → Env → AHeap → Prop, ∀ m L h', I m L h' ↔ ∃ (i : Nat), lk 1 L = .ptr p 6 0 0 ∧ lk 3 L = .ref n 1 0 7 (some 7) ∧ lk 4 L = .int .i64 i ∧ Ext nof H0 h' ∧ i ≤ 7 ∧ m = 7 - i := ⟨_, fun _ _ _ => Iff.rfl⟩
  refine vc_loop I 7 ((hI _ _ _).2 ⟨0, by simp [lk_ins, lk_cons], by simp [lk_ins, lk_cons], by simp [lk_ins, lk_cons], Ext.refl _ _, by omega, by omega⟩) ?_
  intro m L h1 hh
  obtain ⟨i, k1, k3, k4, hx1, hi, rfl⟩ := (hI _ _ _).1 hh
  have la : alen (.ref n 1 0 7 (some 7)) = some (.int .i64 7) := rfl
  have aL := aH.up hx1
  simp only [r_glebelaw09_StoreKnown_l0, go_sem, reduceIte, Nat.reduceEqDiff, Nat.reduceAdd, Nat.reduceLeDiff, Nat.reducePow, Nat.reduceDiv, Nat.reduceMod, decide_true, k3, k4, la]
  refine wCond_split (fun ci => ?_) (fun ci => ?_)
  · simp at ci
    have ci : i < 7 := by omega
    have ea := ix_lit n 7 i (some 7) .i64 ci
    have ec : aload h1 false 1 (.ptr n 1 i 0) = some (.int .i64 (slots09.getD i 0)) := by
      rw [ld_lit (hx1.get bH) (by simpa [slots09] using ci)]
      congr 2
      rw [List.getD_eq_getElem?_getD, List.getElem?_eq_getElem (by simpa [slots09] using ci)]; rfl
    have fine := slots09_fine i ci
    have ew : IntKind.i64.wrap ((i : Int) + 1) = ((i + 1 : Nat) : Int) := by rw [wrap_i64 (by omega)]; omega
    generalize slots09.getD i 0 = slot at *
    simp only [go_sem, reduceIte, Nat.reduceEqDiff, Nat.reduceAdd, Nat.reduceLeDiff, Nat.reducePow, Nat.reduceDiv, Nat.reduceMod, decide_true, k1, k3, k4, ea, ec]
    refine wCall_use ⟨ho.1, open_new ho aL⟩ ?_
    rintro r h2 ⟨X2, va, vb, hr2⟩
    by_cases cf : 1 ≤ slot ∧ slot ≤ 5
    · rw [if_pos cf] at hr2
      subst hr2
      by_cases c3 : (i : Int) = 3
      · simp only [go_sem, reduceIte, Nat.reduceEqDiff, Nat.reduceAdd, Nat.reduceLeDiff, Nat.reducePow, Nat.reduceDiv, Nat.reduceMod, decide_true, k1, k3, k4, decide_eq_true c3, ew, Bool.not_true, Bool.not_false, dI00, bne_tt, bne_ff, bne_tf, bne_ft]
        exact ⟨_, by omega, (hI _ _ _).2 ⟨i + 1, by simp [lk_ins, k1], by simp [lk_ins, k3], by simp [lk_ins], hx1.tr X2, by omega, rfl⟩⟩
      · have c4 : (i : Int) = 4 := by omega
        simp only [go_sem, reduceIte, Nat.reduceEqDiff, Nat.reduceAdd, Nat.reduceLeDiff, Nat.reducePow, Nat.reduceDiv, Nat.reduceMod, decide_true, k1, k3, k4, decide_eq_false c3, decide_eq_true c4, ew, Bool.not_true, Bool.not_false, dI00, bne_tt, bne_ff, bne_tf, bne_ft]
        exact ⟨_, by omega, (hI _ _ _).2 ⟨i + 1, by simp [lk_ins, k1], by simp [lk_ins, k3], by simp [lk_ins], hx1.tr X2, by omega, rfl⟩⟩
    · rw [if_neg cf] at hr2
      subst hr2
      have c3 : ¬ (i : Int) = 3 := by omega
      have c4 : ¬ (i : Int) = 4 := by omega
      have d30 : decide ((3 : Int) = 0) = false := rfl
      simp only [go_sem, reduceIte, Nat.reduceEqDiff, Nat.reduceAdd, Nat.reduceLeDiff, Nat.reducePow, Nat.reduceDiv, Nat.reduceMod, decide_true, k1, k3, k4, decide_eq_false c3, decide_eq_false c4, ew, Bool.not_true, Bool.not_false, d30, decide_eq_true (Eq.refl (3 : Int)), bne_tt, bne_ff, bne_tf, bne_ft]
      exact ⟨_, by omega, (hI _ _ _).2 ⟨i + 1, by simp [lk_ins, k1], by simp [lk_ins, k3], by simp [lk_ins], hx1.tr X2, by omega, rfl⟩⟩
  · have hF : ∀ m, F m → m < h1.length := fun m hm => Nat.lt_of_lt_of_le (hF1 m hm) hx1.1
    clear aH hF1 hI ci bH la k3 k4
    have sd0 : SD (Dk.new 12) 2 0 [] [] := SD.new (by omega) (by omega)
    have l0 : (Dk.new 12).left < 0 := by show (-1 : Int) < 0; omega
    have n0 : (Dk.new 12).n = 12 := rfl
    generalize Dk.new 12 = dk at *
    simp only [go_sem, reduceIte, Nat.reduceEqDiff, Nat.reduceAdd, Nat.reduceLeDiff, Nat.reducePow, Nat.reduceDiv, Nat.reduceMod, decide_true, k1]
    refine wCall_use ⟨ho.1, sd0.opens ho aL hF⟩ ?_
    rintro _ H1 ⟨X1, x0, cv, rv, rfl, -, -, -, -⟩
    obtain ⟨s, hs'⟩ : ∃ s, s = h1.length := ⟨_, rfl⟩
    rw [← hs'] at x0 ⊢
    simp only [go_sem, reduceIte, Nat.reduceEqDiff, Nat.reduceAdd, Nat.reduceLeDiff, Nat.reducePow, Nat.reduceDiv, Nat.reduceMod, decide_true, dI00, Bool.not_true, litV_eq]
    have m97 : ∀ x : Int, many [x] = 1 := fun x => by unfold many; simp
    have m81 : ∀ h, amks h 1 1 [.int .u8 0] (.int .i64 81) (.int .i64 81) = some (.ref h.length 1 0 81 (some 81), h ++ [some (.arr 1 (zrow 81) false)]) := fun h => amks_zr h 81 (by decide)
    have m69 : ∀ h, amks h 1 1 [.int .u8 0] (.int .i64 32769) (.int .i64 32769) = some (.ref h.length 1 0 32769 (some 32769), h ++ [some (.arr 1 (zrow 32769) false)]) := fun h => amks_zr h 32769 (by decide)
    have m281 : ∀ h, amks h 1 1 [.int .u8 0] (.int .i64 281) (.int .i64 281) = some (.ref h.length 1 0 281 (some 281), h ++ [some (.arr 1 (zrow 281) false)]) := fun h => amks_zr h 281 (by decide)
    have d22 : decide ((2 : Int) = 2) = true := rfl
    have d11 : decide ((1 : Int) = 1) = true := rfl
    refine wCall_use ⟨hr.1, x0.renew hr (G := nof) (rd_abytes _ _ _) (fun m hm => hm.elim) (bok1 (by omega)) (by unfold maxNo; omega)⟩ ?_
    rw [eff_small (by simp)]
    rintro r H2 ⟨Y2, ⟨g, -⟩ | ⟨-, rfl, d1, q1, x1, n1, l1, hq1⟩ | ⟨-, -, g, -⟩⟩
    · rw [m97] at g; omega
    rotate_left
    · omega
    have l1 := l1 l0
    rw [show (0 : Int) + 1 = 1 from rfl, show (2 : Int) * 2 = 4 from rfl] at x1
    simp only [go_sem, reduceIte, Nat.reduceEqDiff, Nat.reduceAdd, Nat.reduceLeDiff, Nat.reducePow, Nat.reduceDiv, Nat.reduceMod, decide_true, dI00, Bool.not_true, litV_eq]
    refine wCall_use ⟨ha.1, x1.append ha (G := nof) (rd_abytes _ _ _) (fun m hm => hm.elim) (bok1 (by omega))⟩ ?_
    rintro r H3 ⟨Y3, ⟨g, -⟩ | ⟨g, -⟩ | ⟨-, ⟨k, g, g2⟩, -⟩ | ⟨-, rfl, d2, k, g, -, x2, n2, l2⟩ | ⟨-, -, g, -⟩⟩
    · cases g
    · simp at g
    · cases g; simp only [m97] at g2; omega
    rotate_left
    · omega
    cases g
    have l2 := l2 l1
    rw [m97, show (4 : Int) + ((1 : Nat) : Int) = 5 from rfl] at x2
    simp only [go_sem, reduceIte, Nat.reduceEqDiff, Nat.reduceAdd, Nat.reduceLeDiff, Nat.reducePow, Nat.reduceDiv, Nat.reduceMod, decide_true, dI00, Bool.not_true, hev_mks, m81]
    have lq2 := x2.lq
    have ls2 := x2.low
    refine wCall_use ⟨hr.1, (x2.up (Ext.b1 _)).renew hr (G := fun m => H3.length ≤ m) (rd_zs (n := 81) (bx10 _ _) (Nat.le_refl _)) (fun m hm => ⟨fun y => by have := x2.lt m y; omega, by omega⟩) (bytes_zs _) (by unfold maxNo; omega)⟩ ?_
    rw [eff_small (by rw [zlist_len]; omega)]
    rintro r H4 ⟨Y4, ⟨-, rfl, q2, x3, hq2⟩ | ⟨g, -⟩ | ⟨g, -⟩⟩
    rotate_left
    · rw [many_zs] at g; omega
    · rw [many_zs] at g; omega
    have lq3 := x3.lq
    have ls3 := x3.low
    simp only [go_sem, reduceIte, Nat.reduceEqDiff, Nat.reduceAdd, Nat.reduceLeDiff, Nat.reducePow, Nat.reduceDiv, Nat.reduceMod, decide_true, d22, Bool.not_true, hev_mks, m69]
    refine wCall_use ⟨ha.1, (x3.up (Ext.b1 _)).append ha (G := fun m => H4.length ≤ m) (rd_zs (n := 32769) (bx10 _ _) (Nat.le_refl _)) (fun m hm => ⟨fun y => by have := x3.lt m y; omega, by omega, by omega⟩) (bytes_zs _)⟩ ?_
    rw [zlist_len]
    rintro r H5 ⟨Y5, ⟨g, -⟩ | ⟨-, -, rfl, x4⟩ | ⟨g, -⟩ | ⟨g, -⟩ | ⟨-, -, g, -⟩⟩
    · cases g
    rotate_left
    · omega
    · omega
    · omega
    have lq4 := x4.lq
    have ls4 := x4.low
    simp only [go_sem, reduceIte, Nat.reduceEqDiff, Nat.reduceAdd, Nat.reduceLeDiff, Nat.reducePow, Nat.reduceDiv, Nat.reduceMod, decide_true, d22, Bool.not_true, hev_mks, m281]
    refine wCall_use ⟨ha.1, (x4.up (Ext.b1 _)).append ha (G := fun m => H5.length ≤ m) (rd_zs (n := 281) (bx10 _ _) (Nat.le_refl _)) (fun m hm => ⟨fun y => by have := x4.lt m y; omega, by omega, by omega⟩) (bytes_zs _)⟩ ?_
    rw [zlist_len, many_zs]
    rintro r H6 ⟨Y6, ⟨g, -⟩ | ⟨g, -⟩ | ⟨-, -, rfl, x5⟩ | ⟨-, -, d3, k, g, g2, -⟩ | ⟨-, -, g, -⟩⟩
    · cases g
    · omega
    rotate_left
    · cases g; omega
    · omega
    simp only [go_sem, reduceIte, Nat.reduceEqDiff, Nat.reduceAdd, Nat.reduceLeDiff, Nat.reducePow, Nat.reduceDiv, Nat.reduceMod, decide_true, dI88, Bool.not_true]
    refine use1 he.1 (x5.epoch he) ?_
    simp only [go_sem, reduceIte, Nat.reduceEqDiff, Nat.reduceAdd, Nat.reduceLeDiff, Nat.reducePow, Nat.reduceDiv, Nat.reduceMod, decide_true, d11, Bool.not_true]
    refine use1 hc.1 (x5.count hc) ?_
    rw [if_neg (by simp)]
    simp only [go_sem, reduceIte, Nat.reduceEqDiff, Nat.reduceAdd, Nat.reduceLeDiff, Nat.reducePow, Nat.reduceDiv, Nat.reduceMod, decide_true, List.nil_append, List.length_cons, List.length_nil, Nat.zero_add, show ((1 : Nat) : Int) = 1 from rfl, d11, Bool.not_true, k1]
    refine wCall_use ⟨ho.1, x5.sd.opens ho x5.dk x5.lt⟩ ?_
    rintro _ H7 ⟨X7, x6, cv2, rv2, rfl, rc, -, -, lr⟩
    obtain ⟨s2, hs2⟩ : ∃ s, s = H6.length := ⟨_, rfl⟩
    rw [← hs2] at x6 ⊢
    have lr : alen rv2 = some (.int .i64 1) := lr
    simp only [go_sem, reduceIte, Nat.reduceEqDiff, Nat.reduceAdd, Nat.reduceLeDiff, Nat.reducePow, Nat.reduceDiv, Nat.reduceMod, decide_true, dI00, Bool.not_true]
    refine wCall_use ⟨ha.1, x6.append ha (G := nof) (l := []) (v := .nils) (Own.rd _ (fun _ x => x) _ (Own.nils 1)) (fun m hm => hm.elim) (fun x hx => by cases hx)⟩ ?_
    rintro r H8 ⟨Y8, ⟨-, rfl, x7⟩ | ⟨-, g, -⟩ | ⟨-, ⟨k, g, -⟩, -⟩ | ⟨-, -, d', k, g, -⟩ | ⟨g, -⟩⟩
    rotate_left
    · exact absurd rfl g
    · cases g
    · cases g
    · exact absurd rfl g
    have d12 : decide ((12 : Int) = 12) = true := rfl
    simp only [go_sem, reduceIte, Nat.reduceEqDiff, Nat.reduceAdd, Nat.reduceLeDiff, Nat.reducePow, Nat.reduceDiv, Nat.reduceMod, decide_true, d12, Bool.not_true, litV_eq]
    refine use1 hb.1 (hb.2 (fun _ => True) H8 [97] [97] cv2 (abytes [97]) (rd_nof rc) (rd_abytes _ _ _) (by simp)) ?_
    simp only [go_sem, reduceIte, Nat.reduceEqDiff, Nat.reduceAdd, Nat.reduceLeDiff, Nat.reducePow, Nat.reduceDiv, Nat.reduceMod, decide_true, decide_eq_true (Eq.refl ([97] : List Int)), Bool.not_true, lr, d11, litV_eq]
    refine wCall_use ⟨hr.1, x7.renew hr (G := nof) (rd_abytes _ _ _) (fun m hm => hm.elim) (bok1 (by omega)) (by unfold maxNo; omega)⟩ ?_
    rw [eff_small (by simp)]
    rintro r H9 ⟨Y9, ⟨g, -⟩ | ⟨-, rfl, d3, q3, x8, n3, l3, hq3⟩ | ⟨-, -, g, -⟩⟩
    · rw [m97] at g; omega
    rotate_left
    · omega
    rw [show (1 : Int) + 1 = 2 from rfl, show (2 : Int) * 2 = 4 from rfl] at x8
    simp only [go_sem, reduceIte, Nat.reduceEqDiff, Nat.reduceAdd, Nat.reduceLeDiff, Nat.reducePow, Nat.reduceDiv, Nat.reduceMod, decide_true, dI00, Bool.not_true, k1]
    refine wCall_use ⟨ho.1, x8.sd.opens ho x8.dk x8.lt⟩ ?_
    rintro _ H10 ⟨X10, -, cv3, rv3, rfl, rc3, -, -, lr3⟩
    have lr3 : alen rv3 = some (.int .i64 0) := lr3
    have x9 := x8.up X10
    simp only [go_sem, reduceIte, Nat.reduceEqDiff, Nat.reduceAdd, Nat.reduceLeDiff, Nat.reducePow, Nat.reduceDiv, Nat.reduceMod, decide_true, dI00, Bool.not_true, litV_eq]
    refine use1 hb.1 (hb.2 (fun _ => True) H10 [100] [100] cv3 (abytes [100]) (rd_nof rc3) (rd_abytes _ _ _) (by simp)) ?_
    simp only [go_sem, reduceIte, Nat.reduceEqDiff, Nat.reduceAdd, Nat.reduceLeDiff, Nat.reducePow, Nat.reduceDiv, Nat.reduceMod, decide_true, decide_eq_true (Eq.refl ([100] : List Int)), Bool.not_true, lr3, dI00, k1]
    refine wCall_use ⟨hd.1, x9.arm hd (by omega)⟩ ?_
    rintro _ H11 ⟨x10, -⟩
    simp only [go_sem, reduceIte, Nat.reduceEqDiff, Nat.reduceAdd, Nat.reduceLeDiff, Nat.reducePow, Nat.reduceDiv, Nat.reduceMod, decide_true]
    refine wCall_use ⟨ha.1, x10.cut ha rfl ⟨by omega, by show 4 + 1 ≤ d3.n; omega⟩⟩ ?_
    rintro r H12 ⟨Y12, rfl, d4, sd⟩
    have dn4 : d4.n = 12 := by have : d4.n = d3.n := sd.dn; omega
    have lt12 : ∀ m, F m → m < H12.length := fun m hm => Nat.lt_of_lt_of_le (x10.lt m hm) Y12.1
    simp only [go_sem, reduceIte, Nat.reduceEqDiff, Nat.reduceAdd, Nat.reduceLeDiff, Nat.reducePow, Nat.reduceDiv, Nat.reduceMod, decide_true, k1]
    refine wCall_use ⟨ho.1, open_off ho sd.dk sd.bts ⟨by omega, by omega⟩ sd.off⟩ ?_
    rintro _ H13 ⟨X13, rfl⟩
    simp only [go_sem, reduceIte, Nat.reduceEqDiff, Nat.reduceAdd, Nat.reduceLeDiff, Nat.reducePow, Nat.reduceDiv, Nat.reduceMod, decide_true, k1]
    refine wCall_use ⟨hx.1, hx.2 F nof H13 p d4 [] .nils (sd.dk.up X13) (Own.rd _ (fun _ x => x) _ (Own.nils 1)) (fun m hm => hm.elim)⟩ ?_
    rintro _ H14 ⟨dk14, X14⟩
    have lt14 : ∀ m, F m → m < H14.length := fun m hm => Nat.lt_of_lt_of_le (lt12 m hm) (Nat.le_trans X13.1 X14.1)
    obtain ⟨y, st, yd, ys, ye⟩ : ∃ y : St9, StAt F H14 s2 q3 p y 12 ∧ y.dead = true ∧ (1 ≤ y.slot ∧ 2 * y.slot + 1 ≤ 12) ∧ (0 ≤ y.epoch ∧ y.epoch < maxNo) := by
      obtain ⟨y, st, z1, z2, z3, z4, z5⟩ := sd.st
      have e12 : (d3.arm 0).n = 12 := by show d3.n = 12; omega
      rw [e12] at st z3
      have st := st.up X13
      have kp : ∀ {m : Nat} {v : Option ABlk}, H13[m]? = some v → ¬ F m → H14[m]? = some v := fun hv hm => (X14.2 _ (List.getElem?_eq_some_iff.1 hv).1 hm).trans hv
      exact ⟨y, ⟨kp st.row st.nf, fun j hj => ⟨kp (st.jn j hj).1 (st.jn j hj).2.2.1, (st.jn j hj).2⟩, st.nf⟩, z1, ⟨z2, z3⟩, z4, z5⟩
    have op : ACalls P fo [.ptr p 6 0 0, .int .i64 2] H14 fun r h' => Ext nof H14 h' ∧ ∃ w cv rv, r = .tup [w, cv, rv, .int .i64 0] ∧ Rd nof [] (dBytes [100]) cv := by
      rcases sd.after [] with sdA | sdB
      · refine (sdA.opens ho dk14 lt14).mono ?_
        rintro _ h' ⟨z, -, cv, rv, rfl, rc, -⟩
        exact ⟨z, _, _, _, rfl, rc⟩
      · refine (sdB.opens ho dk14 lt14).mono ?_
        rintro _ h' ⟨z, -, cv, rv, rfl, rc, -⟩
        exact ⟨z, _, _, _, rfl, rc⟩
    simp only [go_sem, reduceIte, Nat.reduceEqDiff, Nat.reduceAdd, Nat.reduceLeDiff, Nat.reducePow, Nat.reduceDiv, Nat.reduceMod, decide_true, k1]
    refine wCall_use ⟨ho.1, op⟩ ?_
    rintro _ H15 ⟨X15, w, cv4, rv4, rfl, rc4⟩
    have d10 : decide ((10 : Int) = 10) = true := rfl
    simp only [go_sem, reduceIte, Nat.reduceEqDiff, Nat.reduceAdd, Nat.reduceLeDiff, Nat.reducePow, Nat.reduceDiv, Nat.reduceMod, decide_true, d10, dI00, litV_eq]
    refine use1 hb.1 (hb.2 (fun _ => True) H15 [100] [100] cv4 (abytes [100]) (rd_nof rc4) (rd_abytes _ _ _) (by simp)) ?_
    simp only [go_sem, reduceIte, Nat.reduceEqDiff, Nat.reduceAdd, Nat.reduceLeDiff, Nat.reducePow, Nat.reduceDiv, Nat.reduceMod, decide_true, decide_eq_true (Eq.refl ([100] : List Int))]
    have dn5 : (d4.crash []).n = 12 := dn4
    refine wCall_use ⟨hr.1, dead_ren hr (dk14.up X15) (by rw [dn5]; exact st.up X15) yd (by rw [dn5]; exact ys) ye (fun m hm => Nat.lt_of_lt_of_le (lt14 m hm) X15.1)⟩ ?_
    rintro _ H16 rfl
    simp only [go_sem, reduceIte, Nat.reduceEqDiff, Nat.reduceAdd, Nat.reduceLeDiff, Nat.reducePow, Nat.reduceDiv, Nat.reduceMod, decide_true, d10]
    refine use1 hk.1 (hk.2 _) ?_
    simp only [go_sem, reduceIte, Nat.reduceEqDiff, Nat.reduceAdd, Nat.reduceLeDiff, Nat.reducePow, Nat.reduceDiv, Nat.reduceMod, decide_true]

end Glb
