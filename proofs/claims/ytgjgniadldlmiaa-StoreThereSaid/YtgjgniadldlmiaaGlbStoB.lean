/-
  A library of its own: its parts, one behind the other.
-/
import Derived.Test.YtgjgniadldlmiaaGlbStoA
import Derived.Test.YtgjgniadldlmiaaGlbJouC
import Derived.Test.YtgjgniadldlmiaaGlbChkB
set_option linter.unusedSimpArgs false
set_option linter.unusedVariables false
/-
  Layer 9: what is held, a deed.
-/
namespace Glb
open Go
set_option maxRecDepth 10000
set_option maxHeartbeats 8000000

def HeldIs (P : Program) (f : FuncId) : Prop := isFn P f = true ∧ ∀ (F G1 G2 : Nat → Prop) (h : AHeap) (p : Nat) (d : Dk) (E E' : Int) (c c' : List Int) (R R' : List (List Int)) (t : Bool) (cv rv : AV), SD d 4 E c R → DiskAt F h p d → (∀ m, F m → m < h.length) → Rd G1 h (dBytes c') cv → Rd G2 h (dRows R') rv →
  c.length ≤ 2^40 → R.length ≤ 2^40 → (∀ b ∈ R, b.length ≤ 2^40) →
  ACalls P f [.agg [.bool t, cv, rv, .int .i64 E'], .ptr p 6 0 0] h fun r h' => r = .bool (decide (E = E') && (decide (c = c') && decide (R = R'))) ∧ h' = h

theorem heldis_ok {P : Program} {f fo fe fb fs : FuncId} (hf : Is P f (c_glebelaw09_held_is fo fe fb fs)) (ho : SOpenOk P fo) (he : SEpochOk P fe) (hb : SameOk P fb .u8) (hs : SameRowsR P fs) : HeldIs P f := by
  refine ⟨hf.2, fun F G1 G2 h p d E E' c c' R R' t cv rv sd dk hF rc rr lc lR lb => ACalls.freeze (K := fun r h' => r = .bool (decide (E = E') && (decide (c = c') && decide (R = R'))) ∧ Ext nof h h') (fun_sound hf.1 (Nat.le_of_ble_eq_true rfl) ?_) (fun r _ ⟨e, hx⟩ => ⟨hx, r, by rw [e]; exact Frz.bool _, e⟩)⟩
  show vc P (c_glebelaw09_held_is fo fe fb fs).code ⟨[(0, .agg [.bool t, cv, rv, .int .i64 E']), (1, .ptr p 6 0 0)], [], h⟩ (atEnd (c_glebelaw09_held_is fo fe fb fs).res _)
  have s1 := rc.scalar
  have s2 := rr.scalar
  simp only [c_glebelaw09_held_is, go_sem, reduceIte, Nat.reduceEqDiff, Nat.reduceAdd, Nat.reduceLeDiff, Nat.reducePow, Nat.reduceDiv, Nat.reduceMod, decide_true, s1, s2]
  have B0 : (h ++ [some (ABlk.arr 4 [[.bool t, cv, rv, .int .i64 E']] false)])[h.length]? = some (some (.arr 4 [[.bool t, cv, rv, .int .i64 E']] false)) := bx10 h _
  have X0 : Ext nof h (h ++ [some (ABlk.arr 4 [[.bool t, cv, rv, .int .i64 E']] false)]) := Ext.b1 _
  obtain ⟨n0, hn0⟩ : ∃ n, n = h.length := ⟨_, rfl⟩
  rw [← hn0] at B0 ⊢
  have rc0 := rc.up X0
  have rr0 := rr.up X0
  have dk0 := dk.up X0
  have hF0 : ∀ m, F m → m < (h ++ [some (ABlk.arr 4 [[.bool t, cv, rv, .int .i64 E']] false)]).length := fun m hm => Nat.lt_of_lt_of_le (hF m hm) X0.1
  generalize h ++ [some (ABlk.arr 4 [[.bool t, cv, rv, .int .i64 E']] false)] = H at *
  refine wCall_use ⟨ho.1, sd.opens ho dk0 hF0⟩ ?_
  rintro _ H2 ⟨X2, x2, cv2, rv2, rfl, c2, r2, -, -⟩
  have B2 := X2.get B0
  have X3 := X0.tr X2
  simp only [go_sem, reduceIte, Nat.reduceEqDiff, Nat.reduceAdd, Nat.reduceLeDiff, Nat.reducePow, Nat.reduceDiv, Nat.reduceMod, decide_true, dI00, B2]
  refine use1 he.1 (x2.epoch he) ?_
  rw [kDB_mk0]
  simp only [go_sem, reduceIte, Nat.reduceEqDiff, Nat.reduceAdd, Nat.reduceLeDiff, Nat.reducePow, Nat.reduceDiv, Nat.reduceMod, decide_true, B2]
  by_cases e1 : E = E'
  · simp only [go_sem, reduceIte, Nat.reduceEqDiff, Nat.reduceAdd, Nat.reduceLeDiff, Nat.reducePow, Nat.reduceDiv, Nat.reduceMod, decide_true, decide_eq_true e1, B2, Bool.true_and]
    refine use1 hb.1 (hb.2 (fun _ => True) H2 c c' cv2 cv (rd_nof c2) (Rd.any (rc0.up X2)) lc) ?_
    rw [kDB_mk0]
    by_cases e2 : c = c'
    · simp only [go_sem, reduceIte, Nat.reduceEqDiff, Nat.reduceAdd, Nat.reduceLeDiff, Nat.reducePow, Nat.reduceDiv, Nat.reduceMod, decide_true, decide_eq_true e2, B2, Bool.true_and]
      refine use1 hs.1 (hs.2 nof _ H2 R R' rv2 rv (rd_nof r2) (rr0.up X2) lR lb) ?_
      rw [kDB_mk0]
      simp only [go_sem, reduceIte, Nat.reduceEqDiff, Nat.reduceAdd, Nat.reduceLeDiff, Nat.reducePow, Nat.reduceDiv, Nat.reduceMod, decide_true, B2]
      exact X3
    · simp only [go_sem, reduceIte, Nat.reduceEqDiff, Nat.reduceAdd, Nat.reduceLeDiff, Nat.reducePow, Nat.reduceDiv, Nat.reduceMod, decide_true, decide_eq_false e2, B2, Bool.false_and]
      exact X3
  · simp only [go_sem, reduceIte, Nat.reduceEqDiff, Nat.reduceAdd, Nat.reduceLeDiff, Nat.reducePow, Nat.reduceDiv, Nat.reduceMod, decide_true, decide_eq_false e1, B2, Bool.false_and]
    exact X3

/-- a row of four cells is written -/
theorem StAt.set4 {F h s q p x n} (a : StAt F h s q p x n) {m : Nat} {r : List (List AV)} {g : Bool} (hm : h[m]? = some (some (.arr 4 r g))) (v : Option ABlk) : StAt F (h.set m v) s q p x n := by
  have ns : s ≠ m := by rintro rfl; rw [a.row] at hm; simp at hm
  refine ⟨by rw [List.getElem?_set_ne (Ne.symm ns)]; exact a.row, fun j hj => ?_, a.nf⟩
  obtain ⟨h1, h2⟩ := a.jn j hj
  have nq : q ≠ m := by rintro rfl; unfold JAt at h1; rw [h1] at hm; simp at hm
  refine ⟨?_, h2⟩
  unfold JAt
  rw [List.getElem?_set_ne (Ne.symm nq)]; exact h1
theorem SX.set4 {F h s q p d slot E c R i} (x : SX F h s q p d slot E c R i) {m : Nat} {r : List (List AV)} {g : Bool} (hm : h[m]? = some (some (.arr 4 r g))) (hF : ¬ F m) (v : Option ABlk) : SX F (h.set m v) s q p d slot E c R i := by
  have wq : Ext (fun k => k = m) h (h.set m v) := Ext.set _ (fun _ => rfl)
  exact ⟨x.dk.mono (fun _ z => z) (wq.keepOff (F' := F) fun k _ hk z => hF (z ▸ hk)), x.st.set4 hm v, x.sd, x.js, fun k hk => by rw [List.length_set]; exact x.lt k hk⟩
theorem SDead.set4 {F h s q p d n A B} (x : SDead F h s q p d n A B) {m : Nat} {r : List (List AV)} {g : Bool} (hm : h[m]? = some (some (.arr 4 r g))) (hF : ¬ F m) (v : Option ABlk) : SDead F (h.set m v) s q p d n A B := by
  have wq : Ext (fun k => k = m) h (h.set m v) := Ext.set _ (fun _ => rfl)
  obtain ⟨y, h1, h2⟩ := x.st
  exact ⟨x.dk.mono (fun _ z => z) (wq.keepOff (F' := F) fun k _ hk z => hF (z ▸ hk)), ⟨y, h1.set4 hm v, h2⟩, x.ok, x.bts, x.off, x.dn, x.after⟩

theorem OwnO.els2 {lo h sz av es} (ho : OwnO lo h sz av es) : Els (fun m => lo ≤ m ∧ m < h.length) h sz av es := by
  rcases ho with ⟨h1, h2⟩ | ⟨n, off, cap, row, g, h1, h2, h3, h4⟩
  · exact .inl ⟨h1, h2⟩
  · have := OwnO.els (.inr ⟨n, off, cap, row, g, h1, h2, h3, h4⟩ : OwnO lo h sz av es)
    rcases this with y | y | ⟨n', off', len, cap', row', g', e, hF, hb, rest⟩
    · exact .inl y
    · exact .inr (.inl y)
    · exact .inr (.inr ⟨n', off', len, cap', row', g', e, ⟨hF, (List.getElem?_eq_some_iff.1 hb).1⟩, hb, rest⟩)
structure Deed where
  nw : Bool
  data : List Int
  cut : Int
  fates : List Int
def Deed.c (x : Deed) : List D := [.bool x.nw, dBytes x.data, .int .i64 x.cut, dInts x.fates]
def Deed.v (x : Deed) : List AV := [.bool x.nw, abytes x.data, .int .i64 x.cut, aints x.fates]

def DoesOk (P : Program) (f : FuncId) : Prop := isFn P f = true ∧ ∀ (F G : Nat → Prop) (h : AHeap) (s q p : Nat) (d : Dk) (E : Int) (c : List Int) (R : List (List Int)) (i : Option Int) (t : Bool) (cv rv : AV) (x : Deed),
  SX F h s q p d 4 E c R i → Rd nof [] (dBytes c) cv → Rd G h (dRows R) rv → bytesOk x.data → E + 1 < maxNo → R.length ≤ 2^20 → (∀ b ∈ R, b.length ≤ 2^40) → s < h.length → q < h.length →
  ACalls P f [.ptr s 5 0 0, .agg [.bool t, cv, rv, .int .i64 E], .agg x.v] h fun r h' => Ext (fun m => F m ∨ m = q ∨ m = s) h h' ∧
    ((x.nw = true ∧ ∃ cv' e q', r = .tup [.agg [.bool true, cv', .nils, .int .i64 (E + 1)], .int .i64 e] ∧ Rd nof [] (dBytes (x.data.take 120)) cv' ∧ (q' = q ∨ h.length ≤ q') ∧
      ((e = 0 ∧ ∃ d', SX F h' s q' p d' 4 (E + 1) (x.data.take 120) [] (some 8) ∧ d'.n = d.n) ∨
       (e = 10 ∧ 0 ≤ d.left ∧ ∃ d', SDead F h' s q' p d' d.n (fun e => SD e 4 E c R) (fun e => SD e 4 (E + 1) (x.data.take 120) [])))) ∨
     (x.nw = false ∧ ∃ rv' e, r = .tup [.agg [.bool t, cv, rv', .int .i64 E], .int .i64 e] ∧ Rd (fun m => h.length ≤ m ∧ m < h'.length) h' (dRows (R ++ [x.data.take 120])) rv' ∧
      ((e = 12 ∧ i = none ∧ SX F h' s q p d 4 E c R i) ∨ (e = 8 ∧ i ≠ none ∧ SX F h' s q p d 4 E c R i) ∨
       (e = 0 ∧ i ≠ none ∧ ∃ d' k, SX F h' s q p d' 4 E c (R ++ [x.data.take 120]) (some k) ∧ d'.n = d.n) ∨
       (e = 10 ∧ 0 ≤ d.left ∧ ∃ d', SDead F h' s q p d' d.n (fun e => SD e 4 E c R) (fun e => SD e 4 E c (R ++ [x.data.take 120]))))))

theorem does9_ok {P : Program} {f fr fc fa : FuncId} (hf : Is P f (c_glebelaw09_does fr fc fa)) (hr : SRenOk P fr) (hc : CopyRowsOk P fc) (ha : SAppOk P fa) : DoesOk P f := by
  refine ⟨hf.2, fun F G h s q p d E c R i t cv rv x hx rc rr hB hE lR lb ls lq => fun_sound hf.1 (Nat.le_of_ble_eq_true rfl) ?_⟩
  show vc P (c_glebelaw09_does fr fc fa).code ⟨[(0, .ptr s 5 0 0), (1, .agg [.bool t, cv, rv, .int .i64 E]), (2, .agg x.v)], [], h⟩ (atEnd (c_glebelaw09_does fr fc fa).res _)
  have s1 := rc.scalar
  have s2 := rr.scalar
  obtain ⟨nw, data, cut, fates⟩ := x
  simp only at hB
  have s3 : (abytes data).scalar = true := (rd_abytes nof [] data).scalar
  have s4 : (aints fates).scalar = true := (rd_aints nof [] fates).scalar
  obtain ⟨u0, su, hu⟩ := Rd.slice (rd_abytes nof [] data) (lo := none) (hi := some (min (data.length : Int) 120)) (mx := none) (by simp) (by simp; omega) (by simp; omega) (by simp) (by simp; omega) (by simp)
  have hu' : Rd nof [] (dBytes (data.take 120)) u0 := by
    have e1 : (min (data.length : Int) 120).toNat = min data.length 120 := by omega
    simp only [Option.getD_none, Option.getD_some, e1] at hu
    have e2 : data.take (min data.length 120) = data.take 120 := by rw [List.take_eq_take_iff]; omega
    rw [← e2]
    simpa [dBytes, List.map_take] using hu
  have hlu : (data.take 120).length ≤ 120 := by simp; omega
  have hBu : bytesOk (data.take 120) := hB.take _
  simp only
  generalize data.take 120 = u at *
  have hep := hx.sd.ep
  unfold maxNo at hE
  have e9 : IntKind.i64.wrap (E + 1) = E + 1 := wrap_i64 (by omega)
  simp only [c_glebelaw09_does, Deed.v, go_sem, reduceIte, Nat.reduceEqDiff, Nat.reduceAdd, Nat.reduceLeDiff, Nat.reducePow, Nat.reduceDiv, Nat.reduceMod, decide_true, s1, s2, s3, s4, len_abytes, rev_mnmx, mnmx_min, aslc, su]
  have B0 : (h ++ [some (ABlk.arr 4 [[.bool t, cv, rv, .int .i64 E]] false)] ++ [some (ABlk.arr 4 [[.bool nw, abytes data, .int .i64 cut, aints fates]] false)] ++ [some (ABlk.arr 4 [[.bool false, .nils, .nils, .int .i64 0]] false)])[h.length]? = some (some (.arr 4 [[.bool t, cv, rv, .int .i64 E]] false)) := bx30 h _ _ _
  have B2 : (h ++ [some (ABlk.arr 4 [[.bool t, cv, rv, .int .i64 E]] false)] ++ [some (ABlk.arr 4 [[.bool nw, abytes data, .int .i64 cut, aints fates]] false)] ++ [some (ABlk.arr 4 [[.bool false, .nils, .nils, .int .i64 0]] false)])[h.length + 2]? = some (some (.arr 4 [[.bool false, .nils, .nils, .int .i64 0]] false)) := bx32 h _ _ _
  have X0 : Ext nof h (h ++ [some (ABlk.arr 4 [[.bool t, cv, rv, .int .i64 E]] false)] ++ [some (ABlk.arr 4 [[.bool nw, abytes data, .int .i64 cut, aints fates]] false)] ++ [some (ABlk.arr 4 [[.bool false, .nils, .nils, .int .i64 0]] false)]) := Ext.b3 _ _ _
  have L0 : (h ++ [some (ABlk.arr 4 [[.bool t, cv, rv, .int .i64 E]] false)] ++ [some (ABlk.arr 4 [[.bool nw, abytes data, .int .i64 cut, aints fates]] false)] ++ [some (ABlk.arr 4 [[.bool false, .nils, .nils, .int .i64 0]] false)]).length = h.length + 3 := by simp
  have flt := hx.lt
  obtain ⟨n0, hn0⟩ : ∃ n, n = h.length := ⟨_, rfl⟩
  rw [← hn0] at B0 B2 L0 ls lq flt ⊢
  have x0 := hx.up X0
  have rr0 := rr.up X0
  generalize h ++ [some (ABlk.arr 4 [[.bool t, cv, rv, .int .i64 E]] false)] ++ [some (ABlk.arr 4 [[.bool nw, abytes data, .int .i64 cut, aints fates]] false)] ++ [some (ABlk.arr 4 [[.bool false, .nils, .nils, .int .i64 0]] false)] = H at *
  have su' : u0.scalar = true := hu'.scalar
  have X0w : Ext (fun m => F m ∨ m = q ∨ m = s) h H := X0.weak (fun _ _ y => y.elim)
  cases nw with
  | true =>
    simp only [go_sem, reduceIte, Nat.reduceEqDiff, Nat.reduceAdd, Nat.reduceLeDiff, Nat.reducePow, Nat.reduceDiv, Nat.reduceMod, decide_true, B0, e9, su', cells_of su']
    refine wCall_use ⟨hr.1, x0.renew hr (G := nof) (rd_nof hu') (fun m hm => hm.elim) hBu (by unfold maxNo; omega)⟩ ?_
    rw [eff_small (by omega)]
    rintro r H2 ⟨Y, g⟩
    have nF : ∀ m, n0 ≤ m → ¬ F m := fun m hm y => by have := flt m y; omega
    have C0 : H2[n0]? = some (some (.arr 4 [[.bool t, cv, rv, .int .i64 E]] false)) := (Y.2 _ (by omega) (by rintro (y | y); exact nF _ (Nat.le_refl _) y; omega)).trans B0
    have C2 : H2[n0 + 2]? = some (some (.arr 4 [[.bool false, .nils, .nils, .int .i64 0]] false)) := (Y.2 _ (by omega) (by rintro (y | y); exact nF _ (by omega) y; omega)).trans B2
    have l2 : n0 + 2 < H2.length := (List.getElem?_eq_some_iff.1 C2).1
    have wq : Ext (fun m => m = n0 + 2) H2 (H2.set (n0 + 2) (some (.arr 4 [[.bool true, u0, .nils, .int .i64 (E + 1)]] false))) := Ext.set _ (fun _ => rfl)
    have gg : ∃ e, r = .int .i64 e := by rcases g with ⟨-, e, -⟩ | ⟨-, e, -⟩ | ⟨-, e, -⟩ <;> exact ⟨_, e⟩
    obtain ⟨e, rfl⟩ := gg
    rw [kDB_mk0]
    simp only [go_sem, reduceIte, Nat.reduceEqDiff, Nat.reduceAdd, Nat.reduceLeDiff, Nat.reducePow, Nat.reduceDiv, Nat.reduceMod, decide_true, C0, C2, l2, su']
    have hX : Ext (fun m => F m ∨ m = q ∨ m = s) h (H2.set (n0 + 2) (some (.arr 4 [[.bool true, u0, .nils, .int .i64 (E + 1)]] false))) :=
      (X0w.trans Y (fun _ _ y => y) (fun m _ y => y.imp id .inr)).trans wq (fun _ _ y => y) (fun m hm y => by omega)
    refine ⟨hX, .inl ?_⟩
    have m3 : many u ≤ 3 := by unfold many; omega
    rcases g with ⟨g, -⟩ | ⟨-, ge, d', q', x2, n2, -, hq'⟩ | ⟨-, ge, gl, d', q', x2, hq'⟩
    · omega
    · cases ge
      exact ⟨u0, 0, q', rfl, hu', by rcases hq' with y | y; exact .inl y; exact .inr (by omega), .inl ⟨rfl, d', x2.set4 C2 (nF _ (by omega)) _, n2⟩⟩
    · cases ge
      exact ⟨u0, 10, q', rfl, hu', by rcases hq' with y | y; exact .inl y; exact .inr (by omega), .inr ⟨rfl, gl, d', x2.set4 C2 (nF _ (by omega)) _⟩⟩
  | false =>
    have nF : ∀ m, n0 ≤ m → ¬ F m := fun m hm y => by have := flt m y; omega
    have B0' : ∀ y, (H ++ [y])[n0]? = some (some (.arr 4 [[.bool t, cv, rv, .int .i64 E]] false)) := fun y => by rw [List.getElem?_append_left (by omega)]; exact B0
    have s12 : (cv.scalar && rv.scalar) = true := by rw [s1, s2]; rfl
    simp only [go_sem, reduceIte, Nat.reduceEqDiff, Nat.reduceAdd, Nat.reduceLeDiff, Nat.reducePow, Nat.reduceDiv, Nat.reduceMod, decide_true, B0, B0', s1, s2, s12]
    have X1 : Ext nof H (H ++ [some (.arr 4 [[.bool t, cv, rv, .int .i64 E]] false)]) := Ext.b1 _
    have B9 : (H ++ [some (ABlk.arr 4 [[.bool t, cv, rv, .int .i64 E]] false)])[H.length]? = some (some (.arr 4 [[.bool t, cv, rv, .int .i64 E]] false)) := bx10 _ _
    have L1 : (H ++ [some (ABlk.arr 4 [[.bool t, cv, rv, .int .i64 E]] false)]).length = n0 + 4 := by simp [L0]
    rw [L0] at B9 ⊢
    have x1 := x0.up X1
    have rr1 := rr0.up X1
    have B2' := X1.get B2
    have X1w := X0.tr X1
    generalize H ++ [some (ABlk.arr 4 [[.bool t, cv, rv, .int .i64 E]] false)] = H1 at *
    refine wCall_use ⟨hc.1, hc.2 G H1 R rv rr1 lR lb⟩ ?_
    rintro y H3 ⟨yo, yx⟩
    obtain ⟨o4, H4, t1, t2, t3⟩ := acc_app (bytes := 24) (h := H3 ++ [some (.arr 1 [[u0]] false)]) (ys := [[u0]]) yo (Ext.b1 _) yx.1 (by simp [arowL]; omega)
    have X4 : Ext nof H1 H4 := (yx.tr (Ext.b1 _)).then t3 (fun m hm y => by omega)
    have B9' := X4.get B9
    have so : o4.scalar = true := t2.scalar
    have l9 : n0 + 3 < H4.length := (List.getElem?_eq_some_iff.1 B9').1
    have sr : RdLL nof [] ((R ++ [u]).map fun b => [dBytes b]) (arowL R ++ [[u0]]) := by
      rw [List.map_append]
      exact RdLL_app (arowL_rd _ _ R) ⟨_, _, rfl, ⟨_, _, rfl, hu', rfl⟩, rfl⟩
    simp only [go_sem, reduceIte, Nat.reduceEqDiff, Nat.reduceAdd, Nat.reduceLeDiff, Nat.reducePow, Nat.reduceDiv, Nat.reduceMod, decide_true, su', cells_of su', aappend_of (aelems_new H3 1 [[u0]] false (some 1) (len := 1) rfl), t1, B9', so, cells_of so, l9]
    have x5 := (x1.up X4).set4 B9' (nF _ (by omega)) (some (.arr 4 [[.bool t, cv, o4, .int .i64 E]] false))
    have o5 : OwnO H1.length (H4.set (n0 + 3) (some (.arr 4 [[.bool t, cv, o4, .int .i64 E]] false))) 1 o4 (arowL R ++ [[u0]]) := t2.setq (by omega) _
    have B5 : (H4.set (n0 + 3) (some (.arr 4 [[.bool t, cv, o4, .int .i64 E]] false)))[n0 + 3]? = some (some (.arr 4 [[.bool t, cv, o4, .int .i64 E]] false)) := List.getElem?_set_self l9
    have C5 : (H4.set (n0 + 3) (some (.arr 4 [[.bool t, cv, o4, .int .i64 E]] false)))[n0 + 2]? = some (some (.arr 4 [[.bool false, .nils, .nils, .int .i64 0]] false)) := by rw [List.getElem?_set_ne (by omega)]; exact X4.get B2'
    have X5 : Ext nof h (H4.set (n0 + 3) (some (.arr 4 [[.bool t, cv, o4, .int .i64 E]] false))) := (X1w.tr X4).setNew (by omega) _
    have L5 : H1.length ≤ (H4.set (n0 + 3) (some (.arr 4 [[.bool t, cv, o4, .int .i64 E]] false))).length := by rw [List.length_set]; exact X4.1
    generalize H4.set (n0 + 3) (some (.arr 4 [[.bool t, cv, o4, .int .i64 E]] false)) = H5 at *
    have s13 : (cv.scalar && o4.scalar) = true := by rw [s1, so]; rfl
    refine wCall_use ⟨ha.1, x5.append ha (G := nof) (rd_nof hu') (fun m hm => hm.elim) hBu⟩ ?_
    rintro r H6 ⟨Y, g⟩
    have gg : ∃ e, r = .int .i64 e := by rcases g with ⟨-, e, -⟩ | ⟨-, -, e, -⟩ | ⟨-, -, e, -⟩ | ⟨-, e, -⟩ | ⟨-, e, -⟩ <;> exact ⟨_, e⟩
    obtain ⟨e, rfl⟩ := gg
    have nq : ∀ m, m = n0 + 2 ∨ m = n0 + 3 ∨ H1.length ≤ m → ¬ (F m ∨ m = q ∨ m = s) := by
      rintro m hm (y | y | y)
      · exact nF m (by omega) y
      · omega
      · omega
    have D5 := (Y.2 _ (List.getElem?_eq_some_iff.1 B5).1 (nq _ (.inr (.inl rfl)))).trans B5
    have D2 := (Y.2 _ (List.getElem?_eq_some_iff.1 C5).1 (nq _ (.inl rfl))).trans C5
    have l2 : n0 + 2 < H6.length := (List.getElem?_eq_some_iff.1 D2).1
    rw [kDB_mk0]
    simp only [go_sem, reduceIte, Nat.reduceEqDiff, Nat.reduceAdd, Nat.reduceLeDiff, Nat.reducePow, Nat.reduceDiv, Nat.reduceMod, decide_true, D5, D2, s1, so, s13, l2]
    have wq : Ext (fun m => m = n0 + 2) H6 (H6.set (n0 + 2) (some (.arr 4 [[.bool t, cv, o4, .int .i64 E]] false))) := Ext.set _ (fun _ => rfl)
    have hX : Ext (fun m => F m ∨ m = q ∨ m = s) h (H6.set (n0 + 2) (some (.arr 4 [[.bool t, cv, o4, .int .i64 E]] false))) :=
      ((X5.weak (F' := fun m => F m ∨ m = q ∨ m = s) (fun _ _ y => y.elim)).trans Y (fun _ _ y => y) (fun m _ y => y)).trans wq (fun _ _ y => y) (fun m hm y => by omega)
    have o6 : OwnO H1.length (H6.set (n0 + 2) (some (.arr 4 [[.bool t, cv, o4, .int .i64 E]] false))) 1 o4 (arowL R ++ [[u0]]) := (o5.kp fun m m1 m2 => Y.2 m m2 (nq m (.inr (.inr m1)))).setq (by omega) _
    have rr6 : Rd (fun m => n0 ≤ m ∧ m < (H6.set (n0 + 2) (some (.arr 4 [[.bool t, cv, o4, .int .i64 E]] false))).length) (H6.set (n0 + 2) (some (.arr 4 [[.bool t, cv, o4, .int .i64 E]] false))) (dRows (R ++ [u])) o4 := ⟨_, o6.els2.mono (fun m hm => by omega) (fun _ _ _ y => y), RdLL.mono (fun _ y => y.elim) (fun _ y => y.elim) _ _ sr⟩
    have m3 : many u ≤ 3 := by unfold many; omega
    refine ⟨hX, .inr ⟨o4, e, rfl, rr6, ?_⟩⟩
    rcases g with ⟨g1, ge, x2⟩ | ⟨g1, -⟩ | ⟨-, ⟨k, g1, -⟩, ge, x2⟩ | ⟨-, ge, d', k, g1, -, x2, n2, -⟩ | ⟨g1, ge, gl, d', x2⟩
    · cases ge
      exact .inl ⟨rfl, g1, x2.set4 D2 (nF _ (by omega)) _⟩
    · omega
    · cases ge
      exact .inr (.inl ⟨rfl, by rw [g1]; simp, x2.set4 D2 (nF _ (by omega)) _⟩)
    · cases ge
      exact .inr (.inr (.inl ⟨rfl, by rw [g1]; simp, d', _, x2.set4 D2 (nF _ (by omega)) _, n2⟩))
    · cases ge
      exact .inr (.inr (.inr ⟨rfl, gl, d', x2.set4 D2 (nF _ (by omega)) _⟩))

end Glb

/-
  Layer 9: the law StoreThere.
-/
namespace Glb
open Go
set_option maxRecDepth 10000
set_option maxHeartbeats 16000000

def adeeds (l : List Deed) : AV := D.av (.sl 4 (l.map Deed.c))
theorem len_adeeds (l : List Deed) : alen (adeeds l) = some (.int .i64 l.length) := by
  have : Rd nof [] (.sl 4 (l.map Deed.c)) (adeeds l) := rd_av _ _ _
  simpa using this.len
theorem deed_cells (x : Deed) : D.avL x.c = x.v := rfl

theorem SX.arm {P : Program} {f : FuncId} (ha : ArmOk P f) {F h s q p d slot E c R i} (x : SX F h s q p d slot E c R i) {n : Int} (hn : -9223372036854775808 ≤ n ∧ n ≤ 9223372036854775807) :
    ACalls P f [.ptr p 6 0 0, .int .i64 n] h fun _ h' => SX F h' s q p (d.arm n) slot E c R i ∧ Ext F h h' := by
  refine (ha.2 F h p d n x.dk hn).mono ?_
  rintro _ h' ⟨hd, hx⟩
  have kp : ∀ {m : Nat} {v : Option ABlk}, h[m]? = some v → ¬ F m → h'[m]? = some v := fun hv hm => (hx.2 _ (List.getElem?_eq_some_iff.1 hv).1 hm).trans hv
  exact ⟨⟨hd, ⟨kp x.st.row x.st.nf, fun j hj => ⟨kp (x.st.jn j hj).1 (x.st.jn j hj).2.2.1, (x.st.jn j hj).2⟩, x.st.nf⟩, x.sd.arm hn.2, fun k hk => (x.js k hk).arm hn.2, fun m hm => Nat.lt_of_lt_of_le (x.lt m hm) hx.1⟩, hx⟩
theorem SDead.arm {P : Program} {f : FuncId} (ha : ArmOk P f) {F h s q p d n A B} (x : SDead F h s q p d n A B) {k : Int} (hk : -9223372036854775808 ≤ k ∧ k ≤ 9223372036854775807) :
    ACalls P f [.ptr p 6 0 0, .int .i64 k] h fun _ h' => SDead F h' s q p (d.arm k) n A B ∧ Ext F h h' := by
  refine (ha.2 F h p d k x.dk hk).mono ?_
  rintro _ h' ⟨hd, hx⟩
  have kp : ∀ {m : Nat} {v : Option ABlk}, h[m]? = some v → ¬ F m → h'[m]? = some v := fun hv hm => (hx.2 _ (List.getElem?_eq_some_iff.1 hv).1 hm).trans hv
  obtain ⟨y, h1, h2⟩ := x.st
  exact ⟨⟨hd, ⟨y, ⟨kp h1.row h1.nf, fun j hj => ⟨kp (h1.jn j hj).1 (h1.jn j hj).2.2.1, (h1.jn j hj).2⟩, h1.nf⟩, h2⟩, Dk.arm_ok x.ok hk.2, x.bts, x.off, x.dn, x.after⟩, hx⟩
theorem StAt.noj {F h s q q' p x n} (a : StAt F h s q p x n) (hj : x.j = none) : StAt F h s q' p x n := by
  refine ⟨?_, fun j e => (by rw [hj] at e; cases e), a.nf⟩
  have := a.row
  simp only [srowV, hj, jpV] at this ⊢
  exact this
theorem SDead.app {P : Program} {f : FuncId} (ha : SAppOk P f) {F h s q p d n A B} (x : SDead F h s q p d n A B) (hF : ∀ m, F m → m < h.length) : ACalls P f [.ptr s 5 0 0, .nils] h fun r h' => r = .int .i64 10 ∧ SDead F h' s q p d n A B ∧
    Ext (fun m => F m ∨ m = s ∨ (m = q ∧ ∃ r g, h[m]? = some (some (.arr 5 r g)))) h h' := by
  obtain ⟨y, h1, h2, h3⟩ := x.st
  have hn := x.dn
  have e : d.sapp y [] = (d, y, 10) := by unfold Dk.sapp; rw [if_pos h2]
  cases hj : y.j with
  | none =>
    refine (ha.2 F nof h s s p d y [] .nils x.dk (hn ▸ h1.noj hj) hF (Own.rd _ (fun _ x => x) _ (Own.nils 1)) (fun m hm => hm.elim)).mono ?_
    rintro r h' ⟨hr, hd, hs, hx⟩
    rw [e] at hr hd hs
    exact ⟨hr, ⟨hd, ⟨y, by rw [hn] at hs; exact hs.noj hj, h2, h3⟩, x.ok, x.bts, x.off, x.dn, x.after⟩, hx.weak fun m _ z => z.imp id fun z => .inl (z.elim id id)⟩
  | some j =>
    have hq := (h1.jn j hj).1
    refine (ha.2 F nof h s q p d y [] .nils x.dk (hn ▸ h1) hF (Own.rd _ (fun _ x => x) _ (Own.nils 1)) (fun m hm => hm.elim)).mono ?_
    rintro r h' ⟨hr, hd, hs, hx⟩
    rw [e] at hr hd hs
    exact ⟨hr, ⟨hd, ⟨y, by rw [hn] at hs; exact hs, h2, h3⟩, x.ok, x.bts, x.off, x.dn, x.after⟩, hx.weak fun m _ z => by
      rcases z with z | z | z
      · exact .inl z
      · exact .inr (.inr ⟨z, _, _, by rw [z]; exact hq⟩)
      · exact .inr (.inl z)⟩
theorem SDead.ren {P : Program} {f : FuncId} (ha : SRenOk P f) {F h s q p d n A B} (x : SDead F h s q p d n A B) (hF : ∀ m, F m → m < h.length) : ACalls P f [.ptr s 5 0 0, .nils] h fun r h' => r = .int .i64 10 ∧ DiskAt F h' p d ∧ Ext (fun m => F m ∨ m = s) h h' := by
  obtain ⟨y, h1, h2, h3, h4, h5, h6⟩ := x.st
  have hn := x.dn
  refine (ha.2 F nof h s q p d y [] .nils x.dk (hn ▸ h1) hF (Own.rd _ (fun _ x => x) _ (Own.nils 1)) (fun m hm => hm.elim) ⟨h3, by omega⟩ ⟨h5, h6⟩).mono ?_
  rintro r h' ⟨hr, hd, -, hx⟩
  have e : d.sren y [] = (d, y, 10) := by unfold Dk.sren; rw [if_pos h2]
  rw [e] at hr hd
  exact ⟨hr, hd, hx⟩
theorem SX.low {F h s q p d slot E c R i} (x : SX F h s q p d slot E c R i) : s < h.length := (List.getElem?_eq_some_iff.1 x.st.row).1

/-- a store, and what is held of it -/
structure TX (F G : Nat → Prop) (h : AHeap) (n9 s q p : Nat) (d : Dk) (E : Int) (c : List Int) (R : List (List Int)) (k : Option Int) (t : Bool) (cv rv : AV) (B : Nat) : Prop where
  sx : SX F h s q p d 4 E c R k
  bx : h[n9]? = some (some (.arr 4 [[.bool t, cv, rv, .int .i64 E]] false))
  rc : Rd nof [] (dBytes c) cv
  rr : Rd G h (dRows R) rv
  gd : ∀ m, G m → ¬ F m ∧ m ≠ q ∧ m ≠ s ∧ m ≠ n9 ∧ m < h.length
  nf : ¬ F n9
  ql : q < h.length ∧ q ≠ n9
  sz : c.length ≤ 120 ∧ R.length ≤ B ∧ (∀ b ∈ R, b.length ≤ 120) ∧ B ≤ 100
theorem TX.up {F G h n9 s q p d E c R k t cv rv B h'} (x : TX F G h n9 s q p d E c R k t cv rv B) (hx : Ext nof h h') : TX F G h' n9 s q p d E c R k t cv rv B :=
  ⟨x.sx.up hx, hx.get x.bx, x.rc, x.rr.up hx, fun m hm => by have y := x.gd m hm; have := hx.1; exact ⟨y.1, y.2.1, y.2.2.1, y.2.2.2.1, by omega⟩, x.nf, ⟨Nat.lt_of_lt_of_le x.ql.1 hx.1, x.ql.2⟩, x.sz⟩
theorem TX.arm {P : Program} {f : FuncId} (ha : ArmOk P f) {F G h n9 s q p d E c R k t cv rv B} (x : TX F G h n9 s q p d E c R k t cv rv B) {n : Int} (hn : -9223372036854775808 ≤ n ∧ n ≤ 9223372036854775807) :
    ACalls P f [.ptr p 6 0 0, .int .i64 n] h fun _ h' => TX F G h' n9 s q p (d.arm n) E c R k t cv rv B ∧ Ext F h h' := by
  refine (x.sx.arm ha hn).mono ?_
  rintro _ h' ⟨hs, hx⟩
  exact ⟨⟨hs, (hx.2 _ (List.getElem?_eq_some_iff.1 x.bx).1 x.nf).trans x.bx, x.rc, x.rr.mono (fun _ y => y) (hx.keepOff (F' := G) fun m _ hm => (x.gd m hm).1), fun m hm => by have y := x.gd m hm; have := hx.1; exact ⟨y.1, y.2.1, y.2.2.1, y.2.2.2.1, by omega⟩, x.nf, ⟨Nat.lt_of_lt_of_le x.ql.1 hx.1, x.ql.2⟩, x.sz⟩, hx⟩
theorem TX.is {P : Program} {f : FuncId} (hi : HeldIs P f) {F G h n9 s q p d E c R k t cv rv B} (x : TX F G h n9 s q p d E c R k t cv rv B) :
    ACalls P f [.agg [.bool t, cv, rv, .int .i64 E], .ptr p 6 0 0] h fun r h' => r = .bool true ∧ h' = h := by
  have := hi.2 F nof G h p d E E c c R R t cv rv x.sx.sd x.sx.dk x.sx.lt (rd_nof x.rc) x.rr (by have := x.sz.1; omega) (by have := x.sz.2.1; have := x.sz.2.2.2; omega) (fun b hb => by have := x.sz.2.2.1 b hb; omega)
  simpa using this
theorem TX.low {F G h n9 s q p d E c R k t cv rv B} (x : TX F G h n9 s q p d E c R k t cv rv B) : n9 < h.length := (List.getElem?_eq_some_iff.1 x.bx).1

/-- what is held then -/
structure TN (F G2 : Nat → Prop) (h : AHeap) (n9 s q' : Nat) (E E2 : Int) (c c2 : List Int) (R R2 : List (List Int)) (cv2 rv2 : AV) (B : Nat) : Prop where
  rc : Rd nof [] (dBytes c2) cv2
  rr : Rd G2 h (dRows R2) rv2
  gd : ∀ m, G2 m → ¬ F m ∧ m ≠ q' ∧ m ≠ s ∧ m ≠ n9 ∧ m < h.length
  ql : q' ≠ n9
  sz : c2.length ≤ 120 ∧ R2.length ≤ B + 1 ∧ ∀ b ∈ R2, b.length ≤ 120
  le : E2 ≤ E + 1
  ne : ¬ (E2 = E ∧ c2 = c ∧ R2 = R)
theorem TN.up {F G2 h n9 s q' E E2 c c2 R R2 cv2 rv2 B h'} (x : TN F G2 h n9 s q' E E2 c c2 R R2 cv2 rv2 B) (hx : Ext F h h') : TN F G2 h' n9 s q' E E2 c c2 R R2 cv2 rv2 B :=
  ⟨x.rc, x.rr.mono (fun _ y => y) (hx.keepOff (F' := G2) fun m _ hm => (x.gd m hm).1), fun m hm => by have y := x.gd m hm; have := hx.1; exact ⟨y.1, y.2.1, y.2.2.1, y.2.2.2.1, by omega⟩, x.ql, x.sz, x.le, x.ne⟩
theorem TX.does {P : Program} {f : FuncId} (hd : DoesOk P f) {F G h n9 s q p d E c R k t cv rv B} (x : TX F G h n9 s q p d E c R k t cv rv B) (y : Deed) (hB : bytesOk y.data) (hE : E + 1 < maxNo) :
    ACalls P f [.ptr s 5 0 0, .agg [.bool t, cv, rv, .int .i64 E], .agg y.v] h fun r h' => Ext (fun m => F m ∨ m = q ∨ m = s) h h' ∧ ∃ t2 cv2 rv2 E2 c2 R2 G2 e q', r = .tup [.agg [.bool t2, cv2, rv2, .int .i64 E2], .int .i64 e] ∧ (q' = q ∨ h.length ≤ q') ∧
      TN F G2 h' n9 s q' E E2 c c2 R R2 cv2 rv2 B ∧ h'[n9]? = some (some (.arr 4 [[.bool t, cv, rv, .int .i64 E]] false)) ∧ Rd G h' (dRows R) rv ∧
      ((e = 0 ∧ (y.nw = true ∨ k ≠ none) ∧ ∃ d' k2, SX F h' s q' p d' 4 E2 c2 R2 (some k2) ∧ d'.n = d.n) ∨
       (e = 12 ∧ y.nw = false ∧ k = none ∧ SX F h' s q p d 4 E c R k) ∨
       (e = 8 ∧ y.nw = false ∧ SX F h' s q p d 4 E c R k) ∨
       (e = 10 ∧ 0 ≤ d.left ∧ ∃ d', SDead F h' s q' p d' d.n (fun e => SD e 4 E c R) (fun e => SD e 4 E2 c2 R2))) := by
  have nl : s ≠ n9 := fun e => by have h1 := x.sx.st.row; have h2 := x.bx; rw [e, h2] at h1; simp at h1
  refine (hd.2 F G h s q p d E c R k t cv rv y x.sx x.rc x.rr hB hE (by have := x.sz; omega) (fun b hb => by have := x.sz.2.2.1 b hb; omega) x.sx.low x.ql.1).mono ?_
  rintro r h' ⟨hx, g⟩
  have hep := x.sx.sd.ep
  have low9 := x.low
  have lows := x.sx.low
  obtain ⟨lq, nq⟩ := x.ql
  obtain ⟨z1, z2, z3, z4⟩ := x.sz
  refine ⟨hx, ?_⟩
  have bx' : h'[n9]? = some (some (.arr 4 [[.bool t, cv, rv, .int .i64 E]] false)) := (hx.2 _ low9 (by rintro (y | y | y); exact x.nf y; exact nq y.symm; exact nl y.symm)).trans x.bx
  have rr' : Rd G h' (dRows R) rv := x.rr.mono (fun _ y => y) (hx.keepOff (F' := G) fun m _ hm y => by have g := x.gd m hm; rcases y with y | y | y; exact g.1 y; exact g.2.1 y; exact g.2.2.1 y)
  have lx := hx.1
  have ltF := x.sx.lt
  have lu : (y.data.take 120).length ≤ 120 := by simp; omega
  rcases g with ⟨hnw, cv', e, q', rfl, rc', hq', g⟩ | ⟨hnw, rv', e, rfl, rrv, g⟩
  · have tn : TN F nof h' n9 s q' E (E + 1) c (y.data.take 120) R [] cv' .nils B :=
      ⟨rc', Own.rd _ (fun _ x => x) _ (Own.nils 1), fun m hm => hm.elim, hq'.elim (fun w => w ▸ nq) (fun w z => absurd (z ▸ w) (Nat.not_le.2 low9)), ⟨lu, by simp, by simp⟩, Int.le_refl _, fun w => by omega⟩
    rcases g with ⟨rfl, d', sx', n'⟩ | ⟨rfl, gl, d', sd'⟩
    · exact ⟨true, cv', .nils, E + 1, _, _, nof, 0, q', rfl, hq', tn, bx', rr', .inl ⟨rfl, .inl hnw, d', _, sx', n'⟩⟩
    · exact ⟨true, cv', .nils, E + 1, _, _, nof, 10, q', rfl, hq', tn, bx', rr', .inr (.inr (.inr ⟨rfl, gl, d', sd'⟩))⟩
  · have tn : TN F (fun m => h.length ≤ m ∧ m < h'.length) h' n9 s q E E c c R (R ++ [y.data.take 120]) cv rv' B :=
      ⟨x.rc, rrv, fun m hm => ⟨fun w => by have := ltF m w; omega, by omega, by omega, by omega, hm.2⟩, nq, ⟨z1, by simp; omega, fun b hb => by rcases List.mem_append.1 hb with hb | hb; exact z3 b hb; simp at hb; subst hb; exact lu⟩, by omega, fun w => by have := w.2.2; simp at this⟩
    refine ⟨t, cv, rv', E, c, _, _, e, q, rfl, .inl rfl, tn, bx', rr', ?_⟩
    rcases g with ⟨rfl, g1, g2⟩ | ⟨rfl, g1, g2⟩ | ⟨rfl, g1, d', k', g2, g3⟩ | ⟨rfl, gl, d', g2⟩
    · exact .inr (.inl ⟨rfl, hnw, g1, g2⟩)
    · exact .inr (.inr (.inl ⟨rfl, hnw, g2⟩))
    · exact .inl ⟨rfl, .inr g1, d', k', g2, g3⟩
    · exact .inr (.inr (.inr ⟨rfl, gl, d', g2⟩))

theorem there9_ok {P : Program} {f fn fo fk fa fd fp fr fc fi : FuncId} (hf : Is P f (c_glebelaw09_StoreThere fn fo fk fa fd fp fr fc fi)) (hn : NewDOk P fn) (ho : SOpenOk P fo) (hk : YesOk P fk) (ha : ArmOk P fa) (hd : DoesOk P fd) (hp : SAppOk P fp) (hr : SRenOk P fr) (hc : CrashDOk P fc) (hi : HeldIs P fi)
    (l : List Deed) (hB : ∀ x ∈ l, bytesOk x.data ∧ -9223372036854775808 ≤ x.cut ∧ x.cut ≤ 9223372036854775807) (h : AHeap) : ACalls P f [adeeds l] h fun r _ => r = .bool true := by
  refine fun_sound hf.1 (Nat.le_of_ble_eq_true rfl) ?_
  show vc P (c_glebelaw09_StoreThere fn fo fk fa fd fp fr fc fi).code ⟨[(0, adeeds l)], [], h⟩ (atEnd (c_glebelaw09_StoreThere fn fo fk fa fd fp fr fc fi).res _)
  simp only [c_glebelaw09_StoreThere, go_sem, reduceIte, Nat.reduceEqDiff, Nat.reduceAdd, Nat.reduceLeDiff, Nat.reducePow, Nat.reduceDiv, Nat.reduceMod, decide_true]
  refine wCall_use ⟨hn.1, hn.2 h 30⟩ ?_
  rintro r H ⟨e1, -, X⟩
  obtain ⟨p, rfl, a⟩ := e1 (by omega)
  obtain ⟨F, a, hF⟩ : ∃ F : Nat → Prop, DiskAt F H p (Dk.new 30) ∧ (∀ m, F m → m < H.length) := ⟨_, a, fun m x => x.2⟩
  have sd0 : SD (Dk.new 30) 4 0 [] [] := SD.new (by omega) (by omega)
  have l0 : (Dk.new 30).left < 0 := by show (-1 : Int) < 0; omega
  have d0 : (Dk.new 30).n = 30 := rfl
  generalize Dk.new 30 = dk at *
  simp only [go_sem, reduceIte, Nat.reduceEqDiff, Nat.reduceAdd, Nat.reduceLeDiff, Nat.reducePow, Nat.reduceDiv, Nat.reduceMod, decide_true]
  refine wCall_use ⟨ho.1, sd0.opens ho a hF⟩ ?_
  rintro _ H1 ⟨X1, x0, cv, rv, rfl, -, -, -, -⟩
  simp only [go_sem, reduceIte, Nat.reduceEqDiff, Nat.reduceAdd, Nat.reduceLeDiff, Nat.reducePow, Nat.reduceDiv, Nat.reduceMod, decide_true, dI00, Bool.not_true]
  obtain ⟨n9, hn9⟩ : ∃ n, n = H1.length := ⟨_, rfl⟩
  have t0 : TX F nof (H1 ++ [some (.arr 4 [[.bool false, .nils, .nils, .int .i64 0]] false)]) n9 H.length H.length p dk 0 [] [] none false .nils .nils 0 :=
    ⟨x0.up (Ext.b1 _), by rw [hn9]; exact bx10 _ _, Own.rd _ (fun _ x => x) _ (Own.nils 1), Own.rd _ (fun _ x => x) _ (Own.nils 1), fun m hm => hm.elim, fun y => by have := x0.lt _ y; omega, ⟨by have := x0.low; simp; omega, by have := x0.low; omega⟩, by simp, by simp, by simp, by simp⟩
  rw [← hn9]
  generalize H.length = s at *
  generalize H1 ++ [some (ABlk.arr 4 [[AV.bool false, .nils, .nils, .int .i64 0]] false)] = H2 at *
  clear x0 a e1 hn9 hF
  obtain ⟨I, hI⟩ : ∃ I : Nat → Env → AHeap → Prop, ∀ m L h', I m L h' ↔ ∃ (i : Nat) (G : Nat → Prop) (s q : Nat) (d : Dk) (E : Int) (c : List Int) (R : List (List Int)) (k : Option Int) (t rdy : Bool) (cv rv : AV), lk 0 L = adeeds l ∧ lk 3 L = .ptr p 6 0 0 ∧ lk 5 L = .ptr s 5 0 0 ∧ lk 9 L = .ptr n9 4 0 0 ∧ lk 10 L = .bool rdy ∧ lk 11 L = .int .i64 i ∧
    TX F G h' n9 s q p d E c R k t cv rv i ∧ d.left < 0 ∧ d.n = 30 ∧ (k = none ↔ rdy = false) ∧ E ≤ i ∧ i ≤ 60 ∧ m = 60 - i := ⟨_, fun _ _ _ => Iff.rfl⟩
  refine vc_loop I 60 ((hI _ _ _).2 ⟨0, nof, s, s, dk, 0, [], [], none, false, false, .nils, .nils, by simp [lk_ins, lk_cons], by simp [lk_ins, lk_cons], by simp [lk_ins, lk_cons], by simp [lk_ins, lk_cons], by simp [lk_ins, lk_cons], by simp [lk_ins, lk_cons], t0, l0, d0, by simp, by omega, by omega, by omega⟩) ?_
  clear t0 l0 d0 sd0
  intro m L h1 hh
  obtain ⟨i, G, s, q, d, E, c, R, k, t, rdy, cv, rv, k0, k3, k5, k9, k10, k11, tx, hl, hn30, hrdy, hE, hi60, rfl⟩ := (hI _ _ _).1 hh
  simp only [c_glebelaw09_StoreThere_l0, go_sem, reduceIte, Nat.reduceEqDiff, Nat.reduceAdd, Nat.reduceLeDiff, Nat.reducePow, Nat.reduceDiv, Nat.reduceMod, decide_true, k0, k11, len_adeeds]
  by_cases ci : i < l.length
  · by_cases ci3 : (i : Int) < 60
    · have ci' : (i : Int) < l.length := by omega
      obtain ⟨z, z1, z2⟩ := index_av 4 Deed.c l .i64 ci
      have hBi := hB _ (List.getElem_mem ci)
      generalize l[i] = x at *
      rw [deed_cells] at z2
      have z1' : aindex 4 (adeeds l) (.int .i64 i) = some z := z1
      have z5 : ∀ H : AHeap, aload H true 4 z = some (.agg x.v) := fun H => aload_p (z2 H) true 4
      obtain ⟨nw, data, cut, fates⟩ := x
      have s3 : (abytes data).scalar = true := (rd_abytes nof [] data).scalar
      have s4 : (aints fates).scalar = true := (rd_aints nof [] fates).scalar
      have s34 : ((abytes data).scalar && (aints fates).scalar) = true := by rw [s3, s4]; rfl
      have lf := len_aints fates
      simp only [go_sem, reduceIte, Nat.reduceEqDiff, Nat.reduceAdd, Nat.reduceLeDiff, Nat.reducePow, Nat.reduceDiv, Nat.reduceMod, decide_true, decide_eq_true ci', decide_eq_true ci3, k0, k11, z1', z5, Deed.v, s3, s4, s34, lf]
      by_cases c2 : 100 < (fates.length : Int)
      · simp only [go_sem, reduceIte, Nat.reduceEqDiff, Nat.reduceAdd, Nat.reduceLeDiff, Nat.reducePow, Nat.reduceDiv, Nat.reduceMod, decide_true, decide_eq_true c2]
        refine use1 hk.1 (hk.2 _) ?_
        simp only [go_sem, reduceIte, Nat.reduceEqDiff, Nat.reduceAdd, Nat.reduceLeDiff, Nat.reducePow, Nat.reduceDiv, Nat.reduceMod, decide_true]
      · simp only [go_sem, reduceIte, Nat.reduceEqDiff, Nat.reduceAdd, Nat.reduceLeDiff, Nat.reducePow, Nat.reduceDiv, Nat.reduceMod, decide_true, decide_eq_false c2]
        have Bx : (h1 ++ [some (ABlk.arr 4 [[.bool nw, abytes data, .int .i64 cut, aints fates]] false)])[h1.length]? = some (some (.arr 4 [[.bool nw, abytes data, .int .i64 cut, aints fates]] false)) := bx10 _ _
        have tx2 := tx.up (Ext.b1 (some (ABlk.arr 4 [[.bool nw, abytes data, .int .i64 cut, aints fates]] false)))
        have nF12 : ¬ F h1.length := fun y => by have := tx.sx.lt _ y; omega
        have n129 : h1.length ≠ n9 ∧ h1.length ≠ s ∧ h1.length ≠ q := ⟨by have := tx.low; omega, by have := tx.sx.low; omega, by have := tx.ql.1; omega⟩
        have nG12 : ∀ m, G m → m ≠ h1.length := fun m hm => by have := (tx.gd m hm).2.2.2.2; omega
        generalize h1.length = n12 at *
        generalize h1 ++ [some (ABlk.arr 4 [[.bool nw, abytes data, .int .i64 cut, aints fates]] false)] = H2 at *
        clear tx
        refine wCond_join (fun z => ∃ L1 h2 d1, z = ⟨L1, [], h2⟩ ∧ lk 0 L1 = adeeds l ∧ lk 3 L1 = .ptr p 6 0 0 ∧ lk 5 L1 = .ptr s 5 0 0 ∧ lk 9 L1 = .ptr n9 4 0 0 ∧ lk 10 L1 = .bool rdy ∧ lk 11 L1 = .int .i64 i ∧ lk 12 L1 = .ptr n12 4 0 0 ∧
          TX F G h2 n9 s q p d1 E c R k t cv rv i ∧ h2[n12]? = some (some (.arr 4 [[.bool nw, abytes data, .int .i64 cut, aints fates]] false)) ∧ d1.n = 30 ∧ (cut < 1 → d1.left < 0)) ?_ ?_
        · by_cases c3 : 0 < cut
          · have e1 : IntKind.i64.wrap (cut - 1) = cut - 1 := wrap_i64 (by have := hBi.2; simp only at this; omega)
            have g1 : ∀ x : Int, abin .rem (.int .i64 x) (.int .i64 7) = some (.int .i64 (x.tmod 7)) := fun _ => rfl
            have e2 : (cut - 1).tmod 7 = (cut - 1) % 7 := Int.tmod_eq_emod_of_nonneg (by omega)
            simp only [go_sem, reduceIte, Nat.reduceEqDiff, Nat.reduceAdd, Nat.reduceLeDiff, Nat.reducePow, Nat.reduceDiv, Nat.reduceMod, decide_true, decide_eq_true c3, Bx, k3, e1, g1, e2]
            refine wCall_use ⟨ha.1, tx2.arm ha (by omega)⟩ ?_
            rintro _ h2 ⟨tx3, hx3⟩
            simp only [go_sem, reduceIte, Nat.reduceEqDiff, Nat.reduceAdd, Nat.reduceLeDiff, Nat.reducePow, Nat.reduceDiv, Nat.reduceMod, decide_true]
            exact ⟨_, _, _, rfl, by simp [lk_ins, k0], by simp [lk_ins, k3], by simp [lk_ins, k5], by simp [lk_ins, k9], by simp [lk_ins, k10], by simp [lk_ins, k11], by simp [lk_ins], tx3, (hx3.2 _ (List.getElem?_eq_some_iff.1 Bx).1 nF12).trans Bx, hn30, fun y => by omega⟩
          · simp only [go_sem, reduceIte, Nat.reduceEqDiff, Nat.reduceAdd, Nat.reduceLeDiff, Nat.reducePow, Nat.reduceDiv, Nat.reduceMod, decide_true, decide_eq_false c3]
            exact ⟨_, _, _, rfl, by simp [lk_ins, k0], by simp [lk_ins, k3], by simp [lk_ins, k5], by simp [lk_ins, k9], by simp [lk_ins, k10], by simp [lk_ins, k11], by simp [lk_ins], tx2, Bx, hn30, fun _ => hl⟩
        · clear k0 k3 k5 k9 k10 k11 tx2 Bx hn30 hl
          rintro z ⟨L, h1, d, rfl, k0, k3, k5, k9, k10, k11, k12, tx, Bx, hn30, hl⟩
          have hx9 := tx.bx
          simp only [go_sem, reduceIte, Nat.reduceEqDiff, Nat.reduceAdd, Nat.reduceLeDiff, Nat.reducePow, Nat.reduceDiv, Nat.reduceMod, decide_true, k5, k9, k12, hx9, Bx]
          refine wCall_use ⟨hd.1, tx.does hd ⟨nw, data, cut, fates⟩ hBi.1 (by unfold maxNo; omega)⟩ ?_
          rintro r H3 ⟨hx, t2, cv2, rv2, E2, c2, R2, G2, e, q', rfl, hqo, tn, bx3, rr3, g⟩
          have s2 := tn.rc.scalar
          have s2' := tn.rr.scalar
          have s22 : (cv2.scalar && rv2.scalar) = true := by rw [s2, s2']; rfl
          have Bx3 : H3[n12]? = some (some (.arr 4 [[.bool nw, abytes data, .int .i64 cut, aints fates]] false)) := (hx.2 _ (List.getElem?_eq_some_iff.1 Bx).1 (by rintro (y | y | y); exact nF12 y; exact n129.2.2 y; exact n129.2.1 y)).trans Bx
          simp only [go_sem, reduceIte, Nat.reduceEqDiff, Nat.reduceAdd, Nat.reduceLeDiff, Nat.reducePow, Nat.reduceDiv, Nat.reduceMod, decide_true, k3, s2, s2', s22]
          have f5 : IntKind.i64.wrap ((i : Int) + 1) = ((i + 1 : Nat) : Int) := by rw [wrap_i64 (by omega)]; omega
          have back : ∀ (H : AHeap) (G : Nat → Prop) (s q : Nat) (d : Dk) (E : Int) (c : List Int) (R : List (List Int)) (k : Option Int) (t rdy : Bool) (cv rv : AV) (L' : Env), TX F G H n9 s q p d E c R k t cv rv (i + 1) → d.left < 0 → d.n = 30 → (k = none ↔ rdy = false) → E ≤ i + 1 →
              lk 0 L' = adeeds l → lk 3 L' = .ptr p 6 0 0 → lk 5 L' = .ptr s 5 0 0 → lk 9 L' = .ptr n9 4 0 0 → lk 10 L' = .bool rdy → lk 11 L' = .int .i64 ((i + 1 : Nat) : Int) → ∃ m', m' < 60 - i ∧ I m' L' H :=
            fun H G s q d E c R k t rdy cv rv L' g1 g2 g3 g4 g5 g6 g7 g8 g9 g10 g11 => ⟨60 - (i + 1), by omega, (hI _ _ _).2 ⟨i + 1, G, s, q, d, E, c, R, k, t, rdy, cv, rv, g6, g7, g8, g9, g10, g11, g1, g2, g3, g4, by omega, by omega, rfl⟩⟩
          have B13 : (H3 ++ [some (ABlk.arr 4 [[.bool t2, cv2, rv2, .int .i64 E2]] false)])[H3.length]? = some (some (.arr 4 [[.bool t2, cv2, rv2, .int .i64 E2]] false)) := bx10 _ _
          have X4 : Ext nof H3 (H3 ++ [some (ABlk.arr 4 [[.bool t2, cv2, rv2, .int .i64 E2]] false)]) := Ext.b1 _
          have l39 : n9 < H3.length := (List.getElem?_eq_some_iff.1 bx3).1
          have l312 : n12 < H3.length := (List.getElem?_eq_some_iff.1 Bx3).1
          obtain ⟨n13, hn13⟩ : ∃ n, n = H3.length := ⟨_, rfl⟩
          have nF13 : ¬ F n13 := fun y => by have := tx.sx.lt _ y; have := hx.1; omega
          rw [← hn13] at B13 l39 l312 ⊢
          have bx4 := X4.get bx3
          have Bx4 := X4.get Bx3
          have tn4 := tn.up (X4.weak (fun _ _ y => y.elim))
          have rr4 := rr3.up X4
          have lz := tx.sz
          have nf9 := tx.nf
          have rcc := tx.rc
          have gdd := tx.gd
          have qll := tx.ql
          rcases g with ⟨rfl, hor, d', k2, sx, n'⟩ | ⟨rfl, hnw, hkn, sx⟩ | ⟨rfl, hnw, sx⟩ | ⟨rfl, gl, d', sd⟩
          · have sx4 := sx.up X4
            generalize H3 ++ [some (ABlk.arr 4 [[.bool t2, cv2, rv2, .int .i64 E2]] false)] = H4 at *
            refine wCall_use ⟨ha.1, sx4.arm ha (by omega)⟩ ?_
            rintro _ H5 ⟨sx5, hx5⟩
            have st5 : ∀ {m : Nat} {v : Option ABlk}, H4[m]? = some v → ¬ F m → H5[m]? = some v := fun hv hm => (hx5.2 _ (List.getElem?_eq_some_iff.1 hv).1 hm).trans hv
            have C9 := st5 bx4 nf9
            have C12 := st5 Bx4 nF12
            have C13 := st5 B13 nF13
            have tn5 := tn4.up hx5
            have l9 : n9 < H5.length := (List.getElem?_eq_some_iff.1 C9).1
            have sx6 := sx5.set4 C9 nf9 (some (.arr 4 [[.bool t2, cv2, rv2, .int .i64 E2]] false))
            have w9 : Ext (fun m => m = n9) H5 (H5.set n9 (some (.arr 4 [[.bool t2, cv2, rv2, .int .i64 E2]] false))) := Ext.set _ (fun _ => rfl)
            have lq' : q' < H5.length := (List.getElem?_eq_some_iff.1 (sx5.st.jn _ rfl).1).1
            have tx6 : TX F G2 (H5.set n9 (some (.arr 4 [[.bool t2, cv2, rv2, .int .i64 E2]] false))) n9 s q' p (d'.arm (-1)) E2 c2 R2 (some k2) t2 cv2 rv2 (i + 1) :=
              ⟨sx6, List.getElem?_set_self l9, tn5.rc, tn5.rr.mono (fun _ y => y) (w9.keepOff (F' := G2) fun m _ hm => (tn5.gd m hm).2.2.2.1), fun m hm => by have y := tn5.gd m hm; rw [List.length_set]; exact y, nf9, ⟨by rw [List.length_set]; exact lq', tn5.ql⟩, ⟨tn5.sz.1, tn5.sz.2.1, tn5.sz.2.2, by omega⟩⟩
            have C12' : (H5.set n9 (some (.arr 4 [[.bool t2, cv2, rv2, .int .i64 E2]] false)))[n12]? = some (some (.arr 4 [[.bool nw, abytes data, .int .i64 cut, aints fates]] false)) := by rw [List.getElem?_set_ne (Ne.symm n129.1)]; exact C12
            have D9 := tx6.bx
            have hr2 : rdy = true ∨ nw = true := by
              rcases hor with y | y
              · exact .inr y
              · left
                cases rdy with
                | true => rfl
                | false => exact absurd (hrdy.2 rfl) y
            have fin : ∀ (L' : Env) (H6 : AHeap), TX F G2 H6 n9 s q' p (d'.arm (-1)) E2 c2 R2 (some k2) t2 cv2 rv2 (i + 1) → lk 0 L' = adeeds l → lk 3 L' = .ptr p 6 0 0 → lk 5 L' = .ptr s 5 0 0 → lk 9 L' = .ptr n9 4 0 0 → lk 10 L' = .bool true → lk 11 L' = .int .i64 ((i + 1 : Nat) : Int) → ∃ m', m' < 60 - i ∧ I m' L' H6 :=
              fun L' H6 g1 g2 g3 g4 g5 g6 g7 => back H6 G2 s q' _ E2 c2 R2 (some k2) t2 true cv2 rv2 L' g1 (by simp [Dk.arm]) (n'.trans hn30) (by simp) (by have := tn.le; omega) g2 g3 g4 g5 g6 g7
            cases rdy with
            | true =>
              simp only [go_sem, reduceIte, Nat.reduceEqDiff, Nat.reduceAdd, Nat.reduceLeDiff, Nat.reducePow, Nat.reduceDiv, Nat.reduceMod, decide_true, dI00, C13, C9, l9, s2, s2', s22, k3, k9, k10]
              generalize H5.set n9 (some (.arr 4 [[.bool t2, cv2, rv2, .int .i64 E2]] false)) = H6 at *
              refine use1 hi.1 (tx6.is hi) ?_
              simp only [go_sem, reduceIte, Nat.reduceEqDiff, Nat.reduceAdd, Nat.reduceLeDiff, Nat.reducePow, Nat.reduceDiv, Nat.reduceMod, decide_true, Bool.not_true, k11, f5]
              exact fin _ _ tx6 (by simp [lk_ins, k0]) (by simp [lk_ins, k3]) (by simp [lk_ins, k5]) (by simp [lk_ins, k9]) (by simp [lk_ins]) (by simp [lk_ins])
            | false =>
              obtain rfl : nw = true := by rcases hr2 with y | y; cases y; exact y
              generalize hH6 : H5.set n9 (some (.arr 4 [[.bool t2, cv2, rv2, .int .i64 E2]] false)) = H6 at *
              simp only [go_sem, reduceIte, Nat.reduceEqDiff, Nat.reduceAdd, Nat.reduceLeDiff, Nat.reducePow, Nat.reduceDiv, Nat.reduceMod, decide_true, dI00, C13, C9, C12', l9, s2, s2', s22, k3, k9, k10, k12, hH6, D9]
              refine use1 hi.1 (tx6.is hi) ?_
              simp only [go_sem, reduceIte, Nat.reduceEqDiff, Nat.reduceAdd, Nat.reduceLeDiff, Nat.reducePow, Nat.reduceDiv, Nat.reduceMod, decide_true, Bool.not_true, k11, f5]
              exact fin _ _ tx6 (by simp [lk_ins, k0]) (by simp [lk_ins, k3]) (by simp [lk_ins, k5]) (by simp [lk_ins, k9]) (by simp [lk_ins]) (by simp [lk_ins])
          · have tx4 : TX F G _ n9 s q p d E c R k t cv rv (i + 1) := ⟨sx.up X4, bx4, rcc, rr4, fun m hm => by have y := gdd m hm; have := hx.1; have := X4.1; have := tx.low; exact ⟨y.1, y.2.1, y.2.2.1, y.2.2.2.1, by omega⟩, nf9, ⟨by have := hx.1; have := X4.1; omega, qll.2⟩, ⟨lz.1, by omega, lz.2.2.1, by omega⟩⟩
            generalize H3 ++ [some (ABlk.arr 4 [[.bool t2, cv2, rv2, .int .i64 E2]] false)] = H4 at *
            refine wCall_use ⟨ha.1, tx4.arm ha (by omega)⟩ ?_
            rintro _ H5 ⟨tx5, hx5⟩
            have C12 : H5[n12]? = some (some (.arr 4 [[.bool nw, abytes data, .int .i64 cut, aints fates]] false)) := (hx5.2 _ (List.getElem?_eq_some_iff.1 Bx4).1 nF12).trans Bx4
            have C9 := tx5.bx
            obtain rfl : nw = false := hnw
            have fin : ∀ L' : Env, lk 0 L' = adeeds l → lk 3 L' = .ptr p 6 0 0 → lk 5 L' = .ptr s 5 0 0 → lk 9 L' = .ptr n9 4 0 0 → lk 10 L' = .bool rdy → lk 11 L' = .int .i64 ((i + 1 : Nat) : Int) → ∃ m', m' < 60 - i ∧ I m' L' H5 :=
              fun L' g2 g3 g4 g5 g6 g7 => back H5 G s q _ E c R k t rdy cv rv L' tx5 (by simp [Dk.arm]) hn30 hrdy (by omega) g2 g3 g4 g5 g6 g7
            have hr' : true = true → rdy = false := fun y => by first | exact hrdy.1 hkn | cases y
            have q1 : decide ((12 : Int) = 0) = false := rfl
            have q2 : decide ((12 : Int) = 12) = true := rfl
            have q3 : decide ((12 : Int) = 8) = !true := rfl
            cases rdy with
            | true =>
              first
              | exact absurd (hr' rfl) (by simp)
              | (simp only [go_sem, reduceIte, Nat.reduceEqDiff, Nat.reduceAdd, Nat.reduceLeDiff, Nat.reducePow, Nat.reduceDiv, Nat.reduceMod, decide_true, q1, q2, q3, Bool.not_true, Bool.not_false, C9, C12, k3, k9, k10, k12]
                 refine use1 hi.1 (tx5.is hi) ?_
                 simp only [go_sem, reduceIte, Nat.reduceEqDiff, Nat.reduceAdd, Nat.reduceLeDiff, Nat.reducePow, Nat.reduceDiv, Nat.reduceMod, decide_true, Bool.not_true, k11, f5]
                 exact fin _ (by simp [lk_ins, k0]) (by simp [lk_ins, k3]) (by simp [lk_ins, k5]) (by simp [lk_ins, k9]) (by simp [lk_ins, k10]) (by simp [lk_ins]))
            | false =>
              simp only [go_sem, reduceIte, Nat.reduceEqDiff, Nat.reduceAdd, Nat.reduceLeDiff, Nat.reducePow, Nat.reduceDiv, Nat.reduceMod, decide_true, q1, q2, q3, Bool.not_true, Bool.not_false, C9, C12, k3, k9, k10, k12]
              refine use1 hi.1 (tx5.is hi) ?_
              simp only [go_sem, reduceIte, Nat.reduceEqDiff, Nat.reduceAdd, Nat.reduceLeDiff, Nat.reducePow, Nat.reduceDiv, Nat.reduceMod, decide_true, Bool.not_true, k11, f5]
              exact fin _ (by simp [lk_ins, k0]) (by simp [lk_ins, k3]) (by simp [lk_ins, k5]) (by simp [lk_ins, k9]) (by simp [lk_ins, k10]) (by simp [lk_ins])
          · have tx4 : TX F G _ n9 s q p d E c R k t cv rv (i + 1) := ⟨sx.up X4, bx4, rcc, rr4, fun m hm => by have y := gdd m hm; have := hx.1; have := X4.1; have := tx.low; exact ⟨y.1, y.2.1, y.2.2.1, y.2.2.2.1, by omega⟩, nf9, ⟨by have := hx.1; have := X4.1; omega, qll.2⟩, ⟨lz.1, by omega, lz.2.2.1, by omega⟩⟩
            generalize H3 ++ [some (ABlk.arr 4 [[.bool t2, cv2, rv2, .int .i64 E2]] false)] = H4 at *
            refine wCall_use ⟨ha.1, tx4.arm ha (by omega)⟩ ?_
            rintro _ H5 ⟨tx5, hx5⟩
            have C12 : H5[n12]? = some (some (.arr 4 [[.bool nw, abytes data, .int .i64 cut, aints fates]] false)) := (hx5.2 _ (List.getElem?_eq_some_iff.1 Bx4).1 nF12).trans Bx4
            have C9 := tx5.bx
            obtain rfl : nw = false := hnw
            have fin : ∀ L' : Env, lk 0 L' = adeeds l → lk 3 L' = .ptr p 6 0 0 → lk 5 L' = .ptr s 5 0 0 → lk 9 L' = .ptr n9 4 0 0 → lk 10 L' = .bool rdy → lk 11 L' = .int .i64 ((i + 1 : Nat) : Int) → ∃ m', m' < 60 - i ∧ I m' L' H5 :=
              fun L' g2 g3 g4 g5 g6 g7 => back H5 G s q _ E c R k t rdy cv rv L' tx5 (by simp [Dk.arm]) hn30 hrdy (by omega) g2 g3 g4 g5 g6 g7
            have hr' : false = true → rdy = false := fun y => by first | exact hrdy.1 hkn | cases y
            have q1 : decide ((8 : Int) = 0) = false := rfl
            have q2 : decide ((8 : Int) = 12) = false := rfl
            have q3 : decide ((8 : Int) = 8) = !false := rfl
            cases rdy with
            | true =>
              first
              | exact absurd (hr' rfl) (by simp)
              | (simp only [go_sem, reduceIte, Nat.reduceEqDiff, Nat.reduceAdd, Nat.reduceLeDiff, Nat.reducePow, Nat.reduceDiv, Nat.reduceMod, decide_true, q1, q2, q3, Bool.not_true, Bool.not_false, C9, C12, k3, k9, k10, k12]
                 refine use1 hi.1 (tx5.is hi) ?_
                 simp only [go_sem, reduceIte, Nat.reduceEqDiff, Nat.reduceAdd, Nat.reduceLeDiff, Nat.reducePow, Nat.reduceDiv, Nat.reduceMod, decide_true, Bool.not_true, k11, f5]
                 exact fin _ (by simp [lk_ins, k0]) (by simp [lk_ins, k3]) (by simp [lk_ins, k5]) (by simp [lk_ins, k9]) (by simp [lk_ins, k10]) (by simp [lk_ins]))
            | false =>
              simp only [go_sem, reduceIte, Nat.reduceEqDiff, Nat.reduceAdd, Nat.reduceLeDiff, Nat.reducePow, Nat.reduceDiv, Nat.reduceMod, decide_true, q1, q2, q3, Bool.not_true, Bool.not_false, C9, C12, k3, k9, k10, k12]
              refine use1 hi.1 (tx5.is hi) ?_
              simp only [go_sem, reduceIte, Nat.reduceEqDiff, Nat.reduceAdd, Nat.reduceLeDiff, Nat.reducePow, Nat.reduceDiv, Nat.reduceMod, decide_true, Bool.not_true, k11, f5]
              exact fin _ (by simp [lk_ins, k0]) (by simp [lk_ins, k3]) (by simp [lk_ins, k5]) (by simp [lk_ins, k9]) (by simp [lk_ins, k10]) (by simp [lk_ins])
          · have gl' : ¬ cut < 1 := fun y => by have := hl y; omega
            have q1 : decide ((10 : Int) = 0) = false := rfl
            have q2 : decide ((10 : Int) = 12) = false := rfl
            have q3 : decide ((10 : Int) = 8) = false := rfl
            have q4 : decide ((10 : Int) = 10) = true := rfl
            have ltF := tx.sx.lt
            have lt3 : ∀ m, F m → m < H3.length := fun m hm => Nat.lt_of_lt_of_le (ltF m hm) hx.1
            have sd4 : SDead F _ s q' p d' d.n (fun e => SD e 4 E c R) (fun e => SD e 4 E2 c2 R2) := ⟨sd.dk.up X4, sd.st.imp fun y hy => ⟨hy.1.up X4, hy.2⟩, sd.ok, sd.bts, sd.off, sd.dn, sd.after⟩
            have lt4 : ∀ m, F m → m < (H3 ++ [some (ABlk.arr 4 [[.bool t2, cv2, rv2, .int .i64 E2]] false)]).length := fun m hm => Nat.lt_of_lt_of_le (lt3 m hm) X4.1
            have l34 : H3.length ≤ (H3 ++ [some (ABlk.arr 4 [[.bool t2, cv2, rv2, .int .i64 E2]] false)]).length := X4.1
            generalize H3 ++ [some (ABlk.arr 4 [[.bool t2, cv2, rv2, .int .i64 E2]] false)] = H4 at *
            refine wCall_use ⟨ha.1, sd4.arm ha (by omega)⟩ ?_
            rintro _ H5 ⟨sd5, hx5⟩
            have st5 : ∀ {m : Nat} {v : Option ABlk}, H4[m]? = some v → ¬ F m → H5[m]? = some v := fun hv hm => (hx5.2 _ (List.getElem?_eq_some_iff.1 hv).1 hm).trans hv
            have C9 := st5 bx4 nf9
            have C12 := st5 Bx4 nF12
            have C13 := st5 B13 nF13
            have tn5 := tn4.up hx5
            have l12 : n12 < h1.length := (List.getElem?_eq_some_iff.1 Bx).1
            have gq : ∀ m, G m → m ≠ q' := fun m hm y => by have z := gdd m hm; rcases hqo with w | w; exact z.2.1 (y.trans w); omega
            have rr5 : Rd G H5 (dRows R) rv := rr4.mono (fun _ y => y) (hx5.keepOff (F' := G) fun m _ hm => (gdd m hm).1)
            have lt5 : ∀ m, F m → m < H5.length := fun m hm => Nat.lt_of_lt_of_le (lt4 m hm) hx5.1
            simp only [go_sem, reduceIte, Nat.reduceEqDiff, Nat.reduceAdd, Nat.reduceLeDiff, Nat.reducePow, Nat.reduceDiv, Nat.reduceMod, decide_true, q1, q2, q3, q4, Bool.not_true, Bool.not_false, C12, decide_eq_false gl', k5, k12]
            refine wCall_use ⟨hp.1, sd5.app hp lt5⟩ ?_
            rintro _ H6 ⟨rfl, sd6, hx6⟩
            have st6 : ∀ {m : Nat} {r : List (List AV)} {g : Bool}, H5[m]? = some (some (.arr 4 r g)) → ¬ F m → m ≠ s → H6[m]? = some (some (.arr 4 r g)) := fun hv hm hs => (hx6.2 _ (List.getElem?_eq_some_iff.1 hv).1 (by
              rintro (y | y | ⟨y, r', g', z⟩)
              · exact hm y
              · exact hs y
              · rw [hv] at z; simp at z)).trans hv
            have n13s : n13 ≠ s := by have := tx.sx.low; have := hx.1; omega
            have n9s : n9 ≠ s := fun e => by have h1 := tx.sx.st.row; have h2 := tx.bx; rw [← e, h2] at h1; simp at h1
            have C9 := st6 C9 nf9 n9s
            have C12 := st6 C12 nF12 n129.2.1
            have C13 := st6 C13 nF13 n13s
            have lt6 : ∀ m, F m → m < H6.length := fun m hm => Nat.lt_of_lt_of_le (lt5 m hm) hx6.1
            simp only [go_sem, reduceIte, Nat.reduceEqDiff, Nat.reduceAdd, Nat.reduceLeDiff, Nat.reducePow, Nat.reduceDiv, Nat.reduceMod, decide_true, q4, Bool.not_true, k5]
            refine wCall_use ⟨hr.1, sd6.ren hr lt6⟩ ?_
            rintro _ H7 ⟨rfl, dk7, hx7⟩
            have st7 : ∀ {m : Nat} {v : Option ABlk}, H6[m]? = some v → ¬ F m → m ≠ s → H7[m]? = some v := fun hv hm hs => (hx7.2 _ (List.getElem?_eq_some_iff.1 hv).1 (by rintro (y | y); exact hm y; exact hs y)).trans hv
            have C9 := st7 C9 nf9 n9s
            have C12 := st7 C12 nF12 n129.2.1
            have C13 := st7 C13 nF13 n13s
            have lt7 : ∀ m, F m → m < H7.length := fun m hm => Nat.lt_of_lt_of_le (lt6 m hm) hx7.1
            have k67 : ∀ {G' : Nat → Prop} {D : D} {v : AV}, (∀ m, G' m → ¬ F m ∧ m ≠ q' ∧ m ≠ s) → Rd G' H5 D v → Rd G' H7 D v := fun hG hv =>
              (hv.mono (fun _ y => y) (hx6.keepOff (F' := _) fun m _ hm y => by have z := hG m hm; rcases y with y | y | ⟨y, -⟩; exact z.1 y; exact z.2.2 y; exact z.2.1 y)).mono (fun _ y => y) (hx7.keepOff (F' := _) fun m _ hm y => by have z := hG m hm; rcases y with y | y; exact z.1 y; exact z.2.2 y)
            have rr7 := k67 (fun m hm => ⟨(gdd m hm).1, gq m hm, (gdd m hm).2.2.1⟩) rr5
            have rt7 := k67 (fun m hm => ⟨(tn5.gd m hm).1, (tn5.gd m hm).2.1, (tn5.gd m hm).2.2.1⟩) tn5.rr
            have dcn : (d'.crash fates).n = 30 := (sd.dn).trans hn30
            have dcl : (d'.crash fates).left < 0 := by show (-1 : Int) < 0; omega
            have af := sd.after fates
            have l57 : H5.length ≤ H7.length := Nat.le_trans hx6.1 hx7.1
            simp only [go_sem, reduceIte, Nat.reduceEqDiff, Nat.reduceAdd, Nat.reduceLeDiff, Nat.reducePow, Nat.reduceDiv, Nat.reduceMod, decide_true, q4, Bool.not_true, C12, k3, k12]
            refine wCall_use ⟨hc.1, hc.2 F nof H7 p _ fates _ dk7 (rd_aints _ _ _) (fun m hm => hm.elim)⟩ ?_
            rintro _ H8 ⟨dk8, hx8⟩
            have dk8 : DiskAt F H8 p (d'.crash fates) := dk8
            have st8 : ∀ {m : Nat} {v : Option ABlk}, H7[m]? = some v → ¬ F m → H8[m]? = some v := fun hv hm => (hx8.2 _ (List.getElem?_eq_some_iff.1 hv).1 hm).trans hv
            have C9 := st8 C9 nf9
            have C12 := st8 C12 nF12
            have C13 := st8 C13 nF13
            have lt8 : ∀ m, F m → m < H8.length := fun m hm => Nat.lt_of_lt_of_le (lt7 m hm) hx8.1
            have rr8 : Rd G H8 (dRows R) rv := rr7.mono (fun _ y => y) (hx8.keepOff (F' := G) fun m _ hm => (gdd m hm).1)
            have rt8 : Rd G2 H8 (dRows R2) rv2 := rt7.mono (fun _ y => y) (hx8.keepOff (F' := G2) fun m _ hm => (tn5.gd m hm).1)
            have gl8 : ∀ m, G m → m < H8.length := fun m hm => by have := (gdd m hm).2.2.2.2; have := hx.1; have := hx8.1; have := hx5.1; omega
            have gl28 : ∀ m, G2 m → m < H8.length := fun m hm => by have := (tn5.gd m hm).2.2.2.2; have := hx8.1; omega
            have l98 : n9 < H8.length := (List.getElem?_eq_some_iff.1 C9).1
            have snil : ∀ n : Nat, AV.ptr n 5 0 0 = AV.ptr n 5 0 0 := fun _ => rfl
            rcases af with sdA | sdB
            · have ti : ACalls P fi [.agg [.bool t, cv, rv, .int .i64 E], .ptr p 6 0 0] H8 fun r h' => r = .bool true ∧ h' = H8 := by
                have := hi.2 F nof G H8 p _ E E c c R R t cv rv sdA dk8 lt8 (rd_nof rcc) rr8 (by omega) (by omega) (fun b hb => by have := lz.2.2.1 b hb; omega)
                simpa using this
              simp only [go_sem, reduceIte, Nat.reduceEqDiff, Nat.reduceAdd, Nat.reduceLeDiff, Nat.reducePow, Nat.reduceDiv, Nat.reduceMod, decide_true, C9, k3, k9]
              refine use1 hi.1 ti ?_
              simp only [go_sem, reduceIte, Nat.reduceEqDiff, Nat.reduceAdd, Nat.reduceLeDiff, Nat.reducePow, Nat.reduceDiv, Nat.reduceMod, decide_true, Bool.not_true, k3]
              refine wCall_use ⟨ho.1, sdA.opens ho dk8 lt8⟩ ?_
              rintro _ H9 ⟨X9, sx9, cv', rv', rfl, -, -, -, -⟩
              have D9 := X9.get C9
              have tx9 : TX F G H9 n9 H8.length H8.length p (d'.crash fates) E c R none t cv rv (i + 1) := ⟨sx9, D9, rcc, rr8.up X9, fun m hm => ⟨(gdd m hm).1, by have := gl8 m hm; omega, by have := gl8 m hm; omega, (gdd m hm).2.2.2.1, by have := gl8 m hm; have := X9.1; omega⟩, nf9, ⟨sx9.low, by omega⟩, ⟨lz.1, by omega, lz.2.2.1, by omega⟩⟩
              simp only [go_sem, reduceIte, Nat.reduceEqDiff, Nat.reduceAdd, Nat.reduceLeDiff, Nat.reducePow, Nat.reduceDiv, Nat.reduceMod, decide_true, dI00, Bool.not_true, D9, k3, k9]
              refine use1 hi.1 (tx9.is hi) ?_
              simp only [go_sem, reduceIte, Nat.reduceEqDiff, Nat.reduceAdd, Nat.reduceLeDiff, Nat.reducePow, Nat.reduceDiv, Nat.reduceMod, decide_true, Bool.not_true, k11, f5]
              exact back H9 G _ _ _ E c R none t false cv rv _ tx9 dcl dcn (by simp) (by omega) (by simp [lk_ins, k0]) (by simp [lk_ins, k3]) (by simp [lk_ins]) (by simp [lk_ins, k9]) (by simp [lk_ins]) (by simp [lk_ins])
            · have ti : ACalls P fi [.agg [.bool t, cv, rv, .int .i64 E], .ptr p 6 0 0] H8 fun r h' => r = .bool false ∧ h' = H8 := by
                have := hi.2 F nof G H8 p _ E2 E c2 c R2 R t cv rv sdB dk8 lt8 (rd_nof rcc) rr8 (by have := tn5.sz.1; omega) (by have := tn5.sz.2.1; omega) (fun b hb => by have := tn5.sz.2.2 b hb; omega)
                have ne : (decide (E2 = E) && (decide (c2 = c) && decide (R2 = R))) = false := by
                  have := tn5.ne
                  simp only [Bool.and_eq_false_iff, decide_eq_false_iff_not]
                  by_cases y1 : E2 = E
                  · by_cases y2 : c2 = c
                    · exact .inr (.inr fun y3 => this ⟨y1, y2, y3⟩)
                    · exact .inr (.inl y2)
                  · exact .inl y1
                rwa [ne] at this
              simp only [go_sem, reduceIte, Nat.reduceEqDiff, Nat.reduceAdd, Nat.reduceLeDiff, Nat.reducePow, Nat.reduceDiv, Nat.reduceMod, decide_true, C9, k3, k9]
              refine use1 hi.1 ti ?_
              have w9 : Ext (fun m => m = n9) H8 (H8.set n9 (some (.arr 4 [[.bool t2, cv2, rv2, .int .i64 E2]] false))) := Ext.set _ (fun _ => rfl)
              have dk9 : DiskAt F (H8.set n9 (some (.arr 4 [[.bool t2, cv2, rv2, .int .i64 E2]] false))) p (d'.crash fates) := dk8.mono (fun _ y => y) (w9.keepOff (F' := F) fun m _ hm y => nf9 (y ▸ hm))
              have rt9 : Rd G2 (H8.set n9 (some (.arr 4 [[.bool t2, cv2, rv2, .int .i64 E2]] false))) (dRows R2) rv2 := rt8.mono (fun _ y => y) (w9.keepOff (F' := G2) fun m _ hm => (tn5.gd m hm).2.2.2.1)
              have b9 : (H8.set n9 (some (.arr 4 [[.bool t2, cv2, rv2, .int .i64 E2]] false)))[n9]? = some (some (.arr 4 [[.bool t2, cv2, rv2, .int .i64 E2]] false)) := List.getElem?_set_self l98
              have l9' : (H8.set n9 (some (.arr 4 [[.bool t2, cv2, rv2, .int .i64 E2]] false))).length = H8.length := List.length_set
              simp only [go_sem, reduceIte, Nat.reduceEqDiff, Nat.reduceAdd, Nat.reduceLeDiff, Nat.reducePow, Nat.reduceDiv, Nat.reduceMod, decide_true, Bool.not_false, k3, k9, C13, C9, l98, s2, s2', s22]
              generalize H8.set n9 (some (.arr 4 [[.bool t2, cv2, rv2, .int .i64 E2]] false)) = H9 at *
              refine wCall_use ⟨ho.1, sdB.opens ho dk9 (fun m hm => by have := lt8 m hm; omega)⟩ ?_
              rintro _ H10 ⟨X9, sx9, cv', rv', rfl, -, -, -, -⟩
              have D9 := X9.get b9
              have tx9 : TX F G2 H10 n9 H9.length H9.length p (d'.crash fates) E2 c2 R2 none t2 cv2 rv2 (i + 1) := ⟨sx9, D9, tn5.rc, rt9.up X9, fun m hm => ⟨(tn5.gd m hm).1, by have := gl28 m hm; omega, by have := gl28 m hm; omega, (tn5.gd m hm).2.2.2.1, by have := gl28 m hm; have := X9.1; omega⟩, nf9, ⟨sx9.low, by omega⟩, ⟨tn5.sz.1, tn5.sz.2.1, tn5.sz.2.2, by omega⟩⟩
              simp only [go_sem, reduceIte, Nat.reduceEqDiff, Nat.reduceAdd, Nat.reduceLeDiff, Nat.reducePow, Nat.reduceDiv, Nat.reduceMod, decide_true, dI00, Bool.not_true, D9, k3, k9]
              refine use1 hi.1 (tx9.is hi) ?_
              simp only [go_sem, reduceIte, Nat.reduceEqDiff, Nat.reduceAdd, Nat.reduceLeDiff, Nat.reducePow, Nat.reduceDiv, Nat.reduceMod, decide_true, Bool.not_true, k11, f5]
              exact back H10 G2 _ _ _ E2 c2 R2 none t2 false cv2 rv2 _ tx9 dcl dcn (by simp) (by have := tn.le; omega) (by simp [lk_ins, k0]) (by simp [lk_ins, k3]) (by simp [lk_ins]) (by simp [lk_ins, k9]) (by simp [lk_ins]) (by simp [lk_ins])
    · have q1 : decide ((i : Int) < l.length) = true := decide_eq_true (by omega)
      have q2 : decide ((i : Int) < 60) = false := decide_eq_false ci3
      have D9 := tx.bx
      simp only [go_sem, reduceIte, Nat.reduceEqDiff, Nat.reduceAdd, Nat.reduceLeDiff, Nat.reducePow, Nat.reduceDiv, Nat.reduceMod, decide_true, q1, q2, k3, k9, k11, D9]
      refine use1 hi.1 (tx.is hi) ?_
      simp only [go_sem, reduceIte, Nat.reduceEqDiff, Nat.reduceAdd, Nat.reduceLeDiff, Nat.reducePow, Nat.reduceDiv, Nat.reduceMod, decide_true]
      refine use1 hk.1 (hk.2 _) ?_
      simp only [go_sem, reduceIte, Nat.reduceEqDiff, Nat.reduceAdd, Nat.reduceLeDiff, Nat.reducePow, Nat.reduceDiv, Nat.reduceMod, decide_true]
  · have q1 : decide ((i : Int) < l.length) = false := decide_eq_false (by omega)
    have D9 := tx.bx
    simp only [go_sem, reduceIte, Nat.reduceEqDiff, Nat.reduceAdd, Nat.reduceLeDiff, Nat.reducePow, Nat.reduceDiv, Nat.reduceMod, decide_true, q1, k3, k9, k11, D9]
    refine use1 hi.1 (tx.is hi) ?_
    simp only [go_sem, reduceIte, Nat.reduceEqDiff, Nat.reduceAdd, Nat.reduceLeDiff, Nat.reducePow, Nat.reduceDiv, Nat.reduceMod, decide_true]
    refine use1 hk.1 (hk.2 _) ?_
    simp only [go_sem, reduceIte, Nat.reduceEqDiff, Nat.reduceAdd, Nat.reduceLeDiff, Nat.reducePow, Nat.reduceDiv, Nat.reduceMod, decide_true]

end Glb
