/-
  A library of its own: its parts, one behind the other.
-/
import Derived.Test.YtdlklnoffbfjmaaGlbJouB
set_option linter.unusedSimpArgs false
set_option linter.unusedVariables false
/-
  Layer 7: one epoch of a journal over a disk.
-/
namespace Glb
open Go
set_option maxRecDepth 10000
set_option maxHeartbeats 8000000

def CopyBF (P : Program) (f : FuncId) : Prop := isFn P f = true ∧ ∀ (F : Nat → Prop) (h : AHeap) (x : List Int) (a : AV), Rd F h (dBytes x) a → x.length ≤ 2^40 → ACalls P f [a] h fun r h' => r = abytes x ∧ h' = h
theorem CopyOk.bf {P : Program} {f : FuncId} (hc : CopyOk P f .u8) : CopyBF P f :=
  ⟨hc.1, fun F h x a ha hl => (hc.2 F h x a ha hl).freeze fun _ _ hk => ⟨hk.2.2, _, Frz.d (Own.fz (dBytes x) (fun _ x => x) _ hk.1), rfl⟩⟩
def CopyRowsOk (P : Program) (f : FuncId) : Prop := isFn P f = true ∧ ∀ (F : Nat → Prop) (h : AHeap) (R : List (List Int)) (a : AV), Rd F h (dRows R) a → R.length ≤ 2^20 → (∀ b ∈ R, b.length ≤ 2^40) →
  ACalls P f [a] h fun r h' => OwnO h.length h' 1 r (arowL R) ∧ Ext nof h h'

theorem copyrows_ok {P : Program} {f g : FuncId} (hf : Is P f (c_glebekit_CopyRows g)) (hg : CopyBF P g) : CopyRowsOk P f := by
  refine ⟨hf.2, fun F h R a ha hl hb => fun_sound hf.1 (Nat.le_of_ble_eq_true rfl) ?_⟩
  show vc P (c_glebekit_CopyRows g).code ⟨[(0, a)], [], h⟩ (atEnd (c_glebekit_CopyRows g).res _)
  simp only [c_glebekit_CopyRows, go_sem, reduceIte, Nat.reduceEqDiff, Nat.reduceAdd, Nat.reduceLeDiff, Nat.reducePow, Nat.reduceDiv, Nat.reduceMod, decide_true]
  obtain ⟨I, hI⟩ : ∃ I : Nat → Env → AHeap → Prop, ∀ m L h', I m L h' ↔ ∃ (i : Nat) (o : AV), lk 0 L = a ∧ lk 3 L = o ∧ lk 4 L = .int .i64 i ∧ OwnO h.length h' 1 o (arowL (R.take i)) ∧ Ext nof h h' ∧ i ≤ R.length ∧ m = R.length - i := ⟨_, fun _ _ _ => Iff.rfl⟩
  refine vc_loop I R.length ((hI _ _ _).2 ⟨0, .nils, by simp [lk_ins, lk_cons], by simp [lk_ins, lk_cons], by simp [lk_ins, lk_cons], .inl ⟨rfl, rfl⟩, Ext.refl _ _, by omega, by omega⟩) ?_
  intro m L H hh
  obtain ⟨i, o, k0, k3, k4, ho, hx, hi, rfl⟩ := (hI _ _ _).1 hh
  have hr := ha.up hx
  have lr := hr.len
  simp only [List.length_map] at lr
  simp only [c_glebekit_CopyRows_l0, go_sem, reduceIte, Nat.reduceEqDiff, Nat.reduceAdd, Nat.reduceLeDiff, Nat.reducePow, Nat.reduceDiv, Nat.reduceMod, decide_true, k0, k3, k4, lr]
  refine wCond_split (fun ci => ?_) (fun ci => ?_)
  · simp at ci
    obtain ⟨p, c, p1, p2, p3⟩ := jrows_at hr ci
    have ew : IntKind.i64.wrap (↑i + 1) = ((i + 1 : Nat) : Int) := by rw [wrap_i64 (by omega)]; omega
    simp only [go_sem, reduceIte, Nat.reduceEqDiff, Nat.reduceAdd, Nat.reduceLeDiff, Nat.reducePow, Nat.reduceDiv, Nat.reduceMod, decide_true, k0, k3, k4, p1, p2]
    refine use1 hg.1 (hg.2 F H R[i] c p3 (hb _ (List.getElem_mem ci))) ?_
    have sv : (abytes R[i]).scalar = true := (rd_abytes nof [] R[i]).scalar
    obtain ⟨o2, h3, t1, t2, t3⟩ := acc_app (bytes := 24) (h := H ++ [some (.arr 1 [[abytes R[i]]] false)]) (ys := [[abytes R[i]]]) ho (Ext.b1 _) hx.1 (by simp [arowL]; omega)
    simp only [go_sem, reduceIte, Nat.reduceEqDiff, Nat.reduceAdd, Nat.reduceLeDiff, Nat.reducePow, Nat.reduceDiv, Nat.reduceMod, decide_true, k4, ew, sv, cells_of sv, aappend_of (aelems_new H 1 [[abytes R[i]]] false (some 1) (len := 1) rfl), t1]
    refine ⟨_, by omega, (hI _ _ _).2 ⟨i + 1, o2, by simp [lk_ins, k0], by simp [lk_ins], by simp [lk_ins], ?_, (hx.tr (Ext.b1 _)).then t3 (fun m hm hm' => by omega), ci, rfl⟩⟩
    rw [List.take_succ_eq_append_getElem ci, arowL_snoc]
    exact t2
  · simp at ci
    obtain rfl : i = R.length := by omega
    rw [List.take_length] at ho
    simp only [go_sem, reduceIte, Nat.reduceEqDiff, Nat.reduceAdd, Nat.reduceLeDiff, Nat.reducePow, Nat.reduceDiv, Nat.reduceMod, decide_true, k3]
    exact ⟨ho, hx⟩

structure Life where
  recs : List (List Int)
  cut : Int
  fates : List Int
def Life.c (x : Life) : List D := [dRows x.recs, .int .i64 x.cut, dInts x.fates]
def LivesOk (P : Program) (f : FuncId) : Prop := isFn P f = true ∧ ∀ (F : Nat → Prop) (h : AHeap) (p : Nat) (d : Dk) (e : Int) (x : Life), DiskAt F h p d → d.bts → d.n = 42 → d.cache = [] → d.off = false → 1 ≤ e ∧ e ≤ maxNo → (∀ y, 1 ≤ y → y < 41 → eld e (d.last y)) → (∀ m, F m → m < h.length) → (∀ b ∈ x.recs, bytesOk b) →
  ACalls P f [.ptr p 6 0 0, .int .i64 e, .agg [arows x.recs, .int .i64 x.cut, aints x.fates]] h fun r h' => Ext F h h' ∧ ∃ (mv yv : AV) (R M : List (List Int)) (d' : Dk), r = .tup [mv, yv, .bool true] ∧ DiskAt F h' p d' ∧ d'.bts ∧ d'.n = 42 ∧ Rd (fun m => h.length ≤ m) h' (dRows R) mv ∧ Rd (fun m => h.length ≤ m) h' (dRows M) yv ∧ R.length ≤ 2^20 ∧
    ∀ how, ((d'.crash how).scan 1 40 e = (R, 0) ∨ (d'.crash how).scan 1 40 e = (M, 0)) ∧ ∀ y, 1 ≤ y → y < 41 → eld (e + 1) ((d'.crash how).last y)

theorem lives_ok {P : Program} {f fj fp fa fo fw fc fr fd : FuncId} (hf : Is P f (c_glebelaw07_lives fj fp fa fo fw fc fr fd)) (hj : JNewOk P fj) (hp : PickOk P fp) (ha : ArmOk P fa) (ho : JRoomOk P fo) (hw : AppJOk P fw) (hc : JCountOk P fc) (hr : CopyRowsOk P fr) (hd : DownOk P fd) : LivesOk P f := by
  refine ⟨hf.2, fun F h p d e x dk bts dn dc doff he hel hF hB => fun_sound hf.1 (Nat.le_of_ble_eq_true rfl) ?_⟩
  show vc P (c_glebelaw07_lives fj fp fa fo fw fc fr fd).code ⟨[(0, .ptr p 6 0 0), (1, .int .i64 e), (2, .agg [arows x.recs, .int .i64 x.cut, aints x.fates])], [], h⟩ (atEnd (c_glebelaw07_lives fj fp fa fo fw fc fr fd).res _)
  simp only [c_glebelaw07_lives, go_sem, reduceIte, Nat.reduceEqDiff, Nat.reduceAdd, Nat.reduceLeDiff, Nat.reducePow, Nat.reduceDiv, Nat.reduceMod, decide_true]
  have B0 : (h ++ [some (ABlk.arr 3 [[arows x.recs, .int .i64 x.cut, aints x.fates]] false)])[h.length]? = some (some (.arr 3 [[arows x.recs, .int .i64 x.cut, aints x.fates]] false)) := bx10 h _
  have X0 : Ext nof h (h ++ [some (ABlk.arr 3 [[arows x.recs, .int .i64 x.cut, aints x.fates]] false)]) := Ext.b1 _
  obtain ⟨n5, hn5⟩ : ∃ n, n = h.length := ⟨_, rfl⟩
  have L0 : (h ++ [some (ABlk.arr 3 [[arows x.recs, .int .i64 x.cut, aints x.fates]] false)]).length = n5 + 1 := by simp [hn5]
  rw [← hn5] at B0 ⊢
  generalize h ++ [some (ABlk.arr 3 [[arows x.recs, .int .i64 x.cut, aints x.fates]] false)] = H0 at *
  refine wCall_use ⟨hj.1, hj.2 F H0 p d 1 40 e (dk.up X0)⟩ ?_
  rintro r H1 ⟨q1, -, X1⟩
  obtain ⟨rfl, hrow⟩ := q1 ⟨by omega, by omega, by omega, he.1, he.2⟩
  have x0 : JX F H1 H0.length p d 1 40 e [] 1 := ⟨(dk.up X0).up X1, hrow, JS.begin dk.ok bts dc (by omega) he (fun y h1 h2 => hel y h1 (by omega)), fun y => by have := hF _ y; have := X0.1; omega, fun m hm => by have := hF m hm; have := X0.1; have := X1.1; omega, doff⟩
  obtain ⟨q, hq⟩ : ∃ q, q = H0.length := ⟨_, rfl⟩
  rw [← hq] at x0 ⊢
  have hq5 : q = n5 + 1 := by omega
  have B1 := X1.get B0
  simp only [go_sem, reduceIte, Nat.reduceEqDiff, Nat.reduceAdd, Nat.reduceLeDiff, Nat.reducePow, Nat.reduceDiv, Nat.reduceMod, decide_true, B1]
  refine use1 hp.1 (hp.2 _ _ (by omega) H1) ?_
  have pk := pick_lt (k := x.cut) (n := 150) (by omega)
  generalize pick x.cut 150 = cut at *
  simp only [go_sem, reduceIte, Nat.reduceEqDiff, Nat.reduceAdd, Nat.reduceLeDiff, Nat.reducePow, Nat.reduceDiv, Nat.reduceMod, decide_true]
  refine wCall_use ⟨ha.1, ha.2 F H1 p d cut x0.dk (by omega)⟩ ?_
  rintro _ H2 ⟨ad, X2⟩
  have hFn : ∀ m, n5 ≤ m → ¬ F m := fun m hm y => by have := hF m y; omega
  have keep : ∀ {h1 h2 : AHeap} {m : Nat} {v : Option ABlk}, Ext F h1 h2 → h1[m]? = some v → n5 ≤ m → h2[m]? = some v := fun y hv hm => (y.2 _ (List.getElem?_eq_some_iff.1 hv).1 (hFn _ hm)).trans hv
  have x1 : JX F H2 q p (d.arm cut) 1 40 e [] 1 := ⟨ad, keep X2 x0.row (by omega), x0.js.arm (by omega), x0.nq, fun m hm => Nat.lt_of_lt_of_le (x0.lt m hm) X2.1, doff⟩
  have B2 := keep X2 B1 (Nat.le_refl _)
  have XA : Ext F h H2 := ((X0.tr X1).weak (F' := F) (fun _ _ y => y.elim)).trans X2 (fun _ _ y => y) (fun _ _ y => y)
  clear x0 ad
  have hFlt := x1.lt
  have hqlt : q < H2.length := (List.getElem?_eq_some_iff.1 x1.row).1
  have h5lt : n5 < H2.length := (List.getElem?_eq_some_iff.1 B2).1
  simp only [go_sem, reduceIte, Nat.reduceEqDiff, Nat.reduceAdd, Nat.reduceLeDiff, Nat.reducePow, Nat.reduceDiv, Nat.reduceMod, decide_true]
  obtain ⟨I, hI⟩ : ∃ I : Nat → Env → AHeap → Prop, ∀ m L h', I m L h' ↔ ∃ (i : Nat) (d : Dk) (R : List (List Int)) (pos : Int) (w : AV) (es : List (List AV)), lk 0 L = .ptr p 6 0 0 ∧ lk 5 L = .ptr n5 3 0 0 ∧ lk 9 L = .ptr q 5 0 0 ∧ lk 11 L = w ∧ lk 12 L = .int .i64 i ∧
    JX F h' q p d 1 40 e R pos ∧ d.n = 42 ∧ h'[n5]? = some (some (.arr 3 [[arows x.recs, .int .i64 x.cut, aints x.fates]] false)) ∧ OwnO H2.length h' 1 w es ∧ RdLL nof [] (R.map fun b => [dBytes b]) es ∧ H2.length ≤ h'.length ∧ Ext F h h' ∧ R.length ≤ i ∧ i ≤ 50 ∧ m = 50 - i := ⟨_, fun _ _ _ => Iff.rfl⟩
  refine vc_loop I 50 ((hI _ _ _).2 ⟨0, _, [], 1, .nils, [], by simp [lk_ins, lk_cons], by simp [lk_ins, lk_cons], by simp [lk_ins, lk_cons], by simp [lk_ins, lk_cons], by simp [lk_ins, lk_cons], x1, dn, B2, .inl ⟨rfl, rfl⟩, by simp [RdLL], Nat.le_refl _, XA, by simp, by omega, by omega⟩) ?_
  clear x1
  intro m L h1 hh
  obtain ⟨i, d, R, pos, w, es, k0, k5, k9, k11, k12, hx, hn, hb5, hO, hR, hlen, hX, hRi, hi, rfl⟩ := (hI _ _ _).1 hh
  have xs := hx.js.len
  have xl := hx.js.le
  have hel : es.length = R.length := by have := RdLL_length hR; simpa using this
  simp only [c_glebelaw07_lives_l0, go_sem, reduceIte, Nat.reduceEqDiff, Nat.reduceAdd, Nat.reduceLeDiff, Nat.reducePow, Nat.reduceDiv, Nat.reduceMod, decide_true, k5, k12, hb5, len_arows]
  have fin : ∃ (mv yv : AV) (R M : List (List Int)) (d' : Dk), AV.tup [w, w, .bool true] = .tup [mv, yv, .bool true] ∧ DiskAt F h1 p d' ∧ d'.bts ∧ d'.n = 42 ∧ Rd (fun m => n5 ≤ m) h1 (dRows R) mv ∧ Rd (fun m => n5 ≤ m) h1 (dRows M) yv ∧ R.length ≤ 2^20 ∧
      ∀ how, ((d'.crash how).scan 1 40 e = (R, 0) ∨ (d'.crash how).scan 1 40 e = (M, 0)) ∧ ∀ y, 1 ≤ y → y < 41 → eld (e + 1) ((d'.crash how).last y) := by
    have rw' : Rd (fun m => n5 ≤ m) h1 (dRows R) w := ⟨es, hO.els.mono (fun m hm => by omega) (fun _ _ _ y => y), RdLL.mono (fun _ y => y.elim) (fun _ y => y.elim) _ _ hR⟩
    exact ⟨w, w, R, R, d, rfl, hx.dk, hx.js.bts, hn, rw', rw', by omega, fun how => ⟨.inl (hx.js.crash how).scan, fun y h1 h2 => (hx.js.crash how).elds y h1 (by omega)⟩⟩
  by_cases ci : i < x.recs.length
  · by_cases ci3 : (i : Int) < 50
    · have ci' : (i : Int) < x.recs.length := by omega
      obtain ⟨z, z1, z2⟩ := rows_at ci
      have hBi := hB _ (List.getElem_mem ci)
      generalize x.recs[i] = v at *
      obtain ⟨c, s1, hcv⟩ := Rd.slice (rd_abytes nof [] v) (lo := none) (hi := some (min (v.length : Int) 300)) (mx := none) (by simp) (by simp; omega) (by simp; omega) (by simp) (by simp; omega) (by simp)
      have hcv' : Rd nof [] (dBytes (v.take 300)) c := by
        have e1 : (min (v.length : Int) 300).toNat = min v.length 300 := by omega
        simp only [Option.getD_none, Option.getD_some, e1] at hcv
        have e2 : v.take (min v.length 300) = v.take 300 := by rw [List.take_eq_take_iff]; omega
        rw [← e2]
        simpa [dBytes, List.map_take] using hcv
      have hlv : (v.take 300).length ≤ 300 := by simp; omega
      have hBv : bytesOk (v.take 300) := hBi.take _
      generalize v.take 300 = u at *
      simp only [go_sem, reduceIte, Nat.reduceEqDiff, Nat.reduceAdd, Nat.reduceLeDiff, Nat.reducePow, Nat.reduceDiv, Nat.reduceMod, decide_true, decide_eq_true ci', decide_eq_true ci3, k0, k5, k9, k12, hb5, z1, z2, len_abytes, rev_mnmx, mnmx_min, aslc, s1]
      refine use1 ho.1 (hx.room ho) ?_
      rw [show (1 : Int) + 40 - pos = 41 - pos by omega]
      simp only [go_sem, reduceIte, Nat.reduceEqDiff, Nat.reduceAdd, Nat.reduceLeDiff, Nat.reducePow, Nat.reduceDiv, Nat.reduceMod, decide_true, k9]
      have f5 : IntKind.i64.wrap ((i : Int) + 1) = ((i + 1 : Nat) : Int) := by rw [wrap_i64 (by omega)]; omega
      refine wCall_use ⟨hw.1, hx.append hw (l := u) (G := nof) (Rd.mono (fun _ y => y) (fun _ y => y.elim) _ _ hcv') (fun m hm => hm.elim) (by omega) hBv⟩ ?_
      rintro r h2 ⟨hX2, hcase⟩
      have hFq : ∀ m, m < h.length → ¬ (m = q) := fun m hm => by omega
      have hXX : Ext F h h2 := hX.trans hX2 (fun _ _ y => y) (fun m hm y => y.elim id (fun y => absurd y (hFq m hm)))
      have kp2 : ∀ {m : Nat} {v : Option ABlk}, h1[m]? = some v → n5 ≤ m → m ≠ q → h2[m]? = some v := fun hv h5 hq => (hX2.2 _ (List.getElem?_eq_some_iff.1 hv).1 (by rintro (y | y); exact hFn _ h5 y; exact hq y)).trans hv
      have hb52 := kp2 hb5 (Nat.le_refl _) (by omega)
      have hO2 : OwnO H2.length h2 1 w es := hO.kp fun m m1 m2 => hX2.2 m m2 (by rintro (y | y); have := hFlt m y; omega; omega)
      have hlen2 := Nat.le_trans hlen hX2.1
      have su : c.scalar = true := hcv'.scalar
      have app : ∀ (w0 : AV) (h0 : AHeap), OwnO H2.length h0 1 w0 es → H2.length ≤ h0.length → ∃ o2 h3, aappendY (h0 ++ [some (.arr 1 [[c]] false)]) 1 24 w0 [[c]] = some (o2, h3) ∧ OwnO H2.length h3 1 o2 (es ++ [[c]]) ∧ Ext (fun m => H2.length ≤ m) (h0 ++ [some (.arr 1 [[c]] false)]) h3 :=
        fun w0 h0 o1 o2 => acc_app (bytes := 24) (ys := [[c]]) o1 (Ext.b1 _) o2 (by simp; omega)
      have hR1 : RdLL nof [] ((R ++ [u]).map fun b => [dBytes b]) (es ++ [[c]]) := by rw [List.map_append]; exact RdLL_app hR ⟨_, _, rfl, ⟨_, _, rfl, hcv', rfl⟩, rfl⟩
      rcases hcase with ⟨g1, rfl, hx2⟩ | ⟨g1, rfl, d2, hx2, n2, -⟩ | ⟨g1, rfl, g2, d2, dk2, bt2, of2, n2, am⟩
      · -- no room
        have e1 : IntKind.i64.wrap ((41 - pos) * 40) = (41 - pos) * 40 := wrap_i64 (by omega)
        have lc := hcv'.bytes_len
        have c1 : ¬ max (u.length : Int) 1 ≤ (41 - pos) * 40 := by unfold many at g1; omega
        simp only [go_sem, reduceIte, Nat.reduceEqDiff, Nat.reduceAdd, Nat.reduceLeDiff, Nat.reducePow, Nat.reduceDiv, Nat.reduceMod, decide_true, beq_ff, beq_tt, beq_tf, beq_ft, dI80, dI88, dI00, Bool.not_true, Bool.not_false, k9]
        refine use1 ho.1 (hx2.room ho) ?_
        rw [show (1 : Int) + 40 - pos = 41 - pos by omega]
        simp only [go_sem, reduceIte, Nat.reduceEqDiff, Nat.reduceAdd, Nat.reduceLeDiff, Nat.reducePow, Nat.reduceDiv, Nat.reduceMod, decide_true, decide_eq_true (Eq.refl (41 - pos)), Bool.not_true, e1, lc, rev_mnmx, mnmx_max, decide_eq_false c1, k12, f5]
        exact ⟨_, by omega, (hI _ _ _).2 ⟨i + 1, d, R, pos, w, es, by simp [lk_ins, k0], by simp [lk_ins, k5], by simp [lk_ins, k9], by simp [lk_ins, k11], by simp [lk_ins], hx2, hn, hb52, hO2, hR, hlen2, hXX, by omega, by omega, rfl⟩⟩
      · -- done
        obtain ⟨o2, h3, t1, t2, t3⟩ := app w h2 hO2 hlen2
        have hX3 : Ext F h h3 := (hXX.trans (Ext.b1 _) (fun _ _ y => y) (fun _ _ y => y.elim)).trans t3 (fun _ _ y => y) (fun m hm y => by omega)
        have hup := hx2.up (Ext.b1 (some (.arr 1 [[c]] false)))
        have hb53 : h3[n5]? = some (some (.arr 3 [[arows x.recs, .int .i64 x.cut, aints x.fates]] false)) := by
          have := Ext.get (Ext.b1 (some (.arr 1 [[c]] false))) hb52
          exact (t3.2 _ (List.getElem?_eq_some_iff.1 this).1 (by omega)).trans this
        have hx3 : JX F h3 q p d2 1 40 e (R ++ [u]) (pos + many u) :=
          ⟨hup.dk.mono (fun _ y => y) (t3.keepOff (F' := F) fun m _ hm y => by have := hFlt m hm; omega), (t3.2 q (List.getElem?_eq_some_iff.1 hup.row).1 (fun y => by omega)).trans hup.row, hup.js, hup.nq, fun m hm => Nat.lt_of_lt_of_le (hup.lt m hm) t3.1, hup.off⟩
        have mp := many_pos u
        have g3 : ¬ 41 - pos ≤ 41 - (pos + (many u : Int)) := by omega
        have lo2 := (Rd.len (F := fun m => H2.length ≤ m) (h := h3) (sz := 1) (ds := (R ++ [u]).map fun b => [dBytes b]) (av := o2) ⟨_, t2.els, RdLL.mono (fun _ y => y.elim) (fun _ y => y.elim) _ _ hR1⟩)
        simp only [List.length_map] at lo2
        simp only [go_sem, reduceIte, Nat.reduceEqDiff, Nat.reduceAdd, Nat.reduceLeDiff, Nat.reducePow, Nat.reduceDiv, Nat.reduceMod, decide_true, beq_ff, beq_tt, beq_tf, beq_ft, dI80, dI88, dI00, Bool.not_true, Bool.not_false, k9, k11, su, cells_of su, aappend_of (aelems_new h2 1 [[c]] false (some 1) (len := 1) rfl), t1]
        refine use1 ho.1 (hx3.room ho) ?_
        rw [show (1 : Int) + 40 - (pos + (many u : Int)) = 41 - (pos + many u) by omega]
        simp only [go_sem, reduceIte, Nat.reduceEqDiff, Nat.reduceAdd, Nat.reduceLeDiff, Nat.reducePow, Nat.reduceDiv, Nat.reduceMod, decide_true, decide_eq_false g3, k9]
        refine use1 hc.1 (hx3.count hc) ?_
        simp only [go_sem, reduceIte, Nat.reduceEqDiff, Nat.reduceAdd, Nat.reduceLeDiff, Nat.reducePow, Nat.reduceDiv, Nat.reduceMod, decide_true, lo2, decide_eq_true (Eq.refl (((R ++ [u]).length : Nat) : Int)), Bool.not_true, k12, f5]
        refine ⟨_, by omega, (hI _ _ _).2 ⟨i + 1, d2, R ++ [u], pos + many u, o2, es ++ [[c]], by simp [lk_ins, k0], by simp [lk_ins, k5], by simp [lk_ins, k9], by simp [lk_ins], by simp [lk_ins], hx3, by omega, hb53, t2, hR1, ?_, hX3, by simp; omega, by omega, rfl⟩⟩
        have := t3.1; simp at this; omega
      · -- the power has failed
        have rmw : Rd (fun m => n5 ≤ m) h2 (dRows R) w := ⟨es, hO2.els.mono (fun m hm => by omega) (fun _ _ _ y => y), RdLL.mono (fun _ y => y.elim) (fun _ y => y.elim) _ _ hR⟩
        simp only [go_sem, reduceIte, Nat.reduceEqDiff, Nat.reduceAdd, Nat.reduceLeDiff, Nat.reducePow, Nat.reduceDiv, Nat.reduceMod, decide_true, beq_ff, beq_tt, beq_tf, beq_ft, Bool.not_true, Bool.not_false, show decide ((10 : Int) = 0) = false from rfl, show decide ((10 : Int) = 8) = false from rfl, show decide ((10 : Int) = 10) = true from rfl, k0, k9, k11]
        refine wCall_use ⟨hr.1, hr.2 _ h2 R w rmw (by omega) (fun b hb => by have := hx.js.small b hb; omega)⟩ ?_
        rintro y h3 ⟨yo, yx⟩
        obtain ⟨o4, h4, t1, t2, t3⟩ := acc_app (bytes := 24) (h := h3 ++ [some (.arr 1 [[c]] false)]) (ys := [[c]]) yo (Ext.b1 _) yx.1 (by simp [arowL]; omega)
        simp only [go_sem, reduceIte, Nat.reduceEqDiff, Nat.reduceAdd, Nat.reduceLeDiff, Nat.reducePow, Nat.reduceDiv, Nat.reduceMod, decide_true, su, cells_of su, aappend_of (aelems_new h3 1 [[c]] false (some 1) (len := 1) rfl), t1, k0]
        have dk4 : DiskAt F h4 p d2 := ((dk2.up yx).up (Ext.b1 (some (.arr 1 [[c]] false)))).mono (fun _ y => y) (t3.keepOff (F' := F) fun m _ hm y => by have := hFlt m hm; omega)
        refine use1 hd.1 (hd.2 F h4 p d2 dk4) ?_
        rw [of2]
        simp only [go_sem, reduceIte, Nat.reduceEqDiff, Nat.reduceAdd, Nat.reduceLeDiff, Nat.reducePow, Nat.reduceDiv, Nat.reduceMod, decide_true, k11]
        have x4 : Ext nof h2 h4 := (yx.tr (Ext.b1 _)).then t3 (fun m hm y => by omega)
        refine ⟨hXX.trans x4 (fun _ _ y => y) (fun _ _ y => y.elim), w, o4, R, R ++ [u], d2, rfl, dk4, bt2, by omega, rmw.up x4, ?_, by omega, fun how => ⟨(am how).1, fun y h1 h2 => (am how).2 y h1 (by omega)⟩⟩
        refine ⟨arowL R ++ [[c]], t2.els.mono (fun m hm => by have := hXX.1; omega) (fun _ _ _ y => y), ?_⟩
        rw [List.map_append]
        exact RdLL_app (arowL_rd _ _ R) ⟨_, _, rfl, ⟨_, _, rfl, Rd.mono (fun _ y => y.elim) (fun _ y => y.elim) _ _ hcv', rfl⟩, rfl⟩
    · have q1 : decide ((i : Int) < x.recs.length) = true := decide_eq_true (by omega)
      have q2 : decide ((i : Int) < 50) = false := decide_eq_false ci3
      simp only [go_sem, reduceIte, Nat.reduceEqDiff, Nat.reduceAdd, Nat.reduceLeDiff, Nat.reducePow, Nat.reduceDiv, Nat.reduceMod, decide_true, q1, q2, k5, k11, k12]
      exact ⟨hX, fin⟩
  · have q1 : decide ((i : Int) < x.recs.length) = false := decide_eq_false (by omega)
    simp only [go_sem, reduceIte, Nat.reduceEqDiff, Nat.reduceAdd, Nat.reduceLeDiff, Nat.reducePow, Nat.reduceDiv, Nat.reduceMod, decide_true, q1, k5, k11, k12]
    exact ⟨hX, fin⟩

end Glb

/-
  Layer 7: JournalWhole.
-/
namespace Glb
open Go
set_option maxRecDepth 10000
set_option maxHeartbeats 8000000

def alifes (l : List Life) : AV := D.av (.sl 3 (l.map Life.c))
theorem len_alifes (l : List Life) : alen (alifes l) = some (.int .i64 l.length) := by
  have : Rd nof [] (.sl 3 (l.map Life.c)) (alifes l) := rd_av _ _ _
  simpa using this.len
theorem life_cells (x : Life) : D.avL x.c = [arows x.recs, .int .i64 x.cut, aints x.fates] := rfl

theorem scanJ_small {g : Int → Int → Option (List Int × Int)} : ∀ (m : Nat) (i : Int) (l : List (List Int)) (p : List Int) (k : Nat), (∀ b ∈ l, b.length ≤ 32768) → (scanJ g m i l p k).length ≤ l.length + m ∧ ∀ b ∈ scanJ g m i l p k, b.length ≤ 32768
  | 0, _, _, _, _, h => ⟨Nat.le_refl _, h⟩
  | m + 1, i, l, p, k, h => by
    simp only [scanJ]
    split
    · exact ⟨by omega, h⟩
    · rename_i b tag _
      split
      · exact ⟨by omega, h⟩
      · rename_i hb
        split
        · have := scanJ_small (g := g) m (i + 1) (l ++ [p ++ b]) [] 0 (by
            intro x hx
            rcases List.mem_append.1 hx with hx | hx
            · exact h x hx
            · simp at hx; subst hx; unfold badJ at hb; simp; omega)
          refine ⟨?_, this.2⟩
          have := this.1
          simp at this; omega
        · have := scanJ_small (g := g) m (i + 1) l (p ++ b) (k + 1) h
          exact ⟨by omega, this.2⟩
theorem Dk.scan_small (d : Dk) (a n e : Int) : (d.scan a n e).1.length ≤ n.toNat ∧ ∀ b ∈ (d.scan a n e).1, b.length ≤ 32768 := by
  unfold Dk.scan
  split
  · simpa using scanJ_small (g := fun i c => d.pj i e c) n.toNat a [] [] 0 (by simp)
  · simp

theorem whole7_ok {P : Program} {f fn fk fl fc fs fb : FuncId} (hf : Is P f (c_glebelaw07_JournalWhole fn fk fl fc fs fb)) (hn : NewDOk P fn) (hk : YesOk P fk) (hl : LivesOk P fl) (hc : CrashDOk P fc) (hs : ScanOk P fs) (hb : SameRowsR P fb)
    (l : List Life) (hB : ∀ x ∈ l, ∀ b ∈ x.recs, bytesOk b) (h : AHeap) : ACalls P f [alifes l] h fun r _ => r = .bool true := by
  refine fun_sound hf.1 (Nat.le_of_ble_eq_true rfl) ?_
  show vc P (c_glebelaw07_JournalWhole fn fk fl fc fs fb).code ⟨[(0, alifes l)], [], h⟩ (atEnd (c_glebelaw07_JournalWhole fn fk fl fc fs fb).res _)
  simp only [c_glebelaw07_JournalWhole, go_sem, reduceIte, Nat.reduceEqDiff, Nat.reduceAdd, Nat.reduceLeDiff, Nat.reducePow, Nat.reduceDiv, Nat.reduceMod, decide_true]
  refine wCall_use ⟨hn.1, hn.2 h 42⟩ ?_
  rintro r H ⟨q1, -, X⟩
  obtain ⟨p, rfl, a⟩ := q1 (by omega)
  obtain ⟨F, a, hF⟩ : ∃ F : Nat → Prop, DiskAt F H p (Dk.new 42) ∧ (∀ m, F m → m < H.length) := ⟨_, a, fun m x => x.2⟩
  simp only [go_sem, reduceIte, Nat.reduceEqDiff, Nat.reduceAdd, Nat.reduceLeDiff, Nat.reducePow, Nat.reduceDiv, Nat.reduceMod, decide_true]
  obtain ⟨I, hI⟩ : ∃ I : Nat → Env → AHeap → Prop, ∀ m L h', I m L h' ↔ ∃ (i : Nat) (d : Dk), lk 0 L = alifes l ∧ lk 3 L = .ptr p 6 0 0 ∧ lk 5 L = .int .i64 i ∧ DiskAt F h' p d ∧ d.bts ∧ d.n = 42 ∧ d.cache = [] ∧ d.off = false ∧ (∀ y, 1 ≤ y → y < 41 → eld (i + 3) (d.last y)) ∧ H.length ≤ h'.length ∧ i ≤ 10 ∧ m = 10 - i := ⟨_, fun _ _ _ => Iff.rfl⟩
  refine vc_loop I 10 ((hI _ _ _).2 ⟨0, _, by simp [lk_ins, lk_cons], by simp [lk_ins, lk_cons], by simp [lk_ins, lk_cons], a, Dk.new_bts _, rfl, rfl, rfl, fun y _ _ => eld_none _, Nat.le_refl _, by omega, by omega⟩) ?_
  clear a
  intro m L h1 hh
  obtain ⟨i, d, k0, k3, k5, dk, bts, dn, dc, doff, hel, hlen, hi, rfl⟩ := (hI _ _ _).1 hh
  simp only [c_glebelaw07_JournalWhole_l0, go_sem, reduceIte, Nat.reduceEqDiff, Nat.reduceAdd, Nat.reduceLeDiff, Nat.reducePow, Nat.reduceDiv, Nat.reduceMod, decide_true, k0, k5, len_alifes]
  by_cases ci : i < l.length
  · by_cases ci3 : (i : Int) < 10
    · have ci' : (i : Int) < l.length := by omega
      obtain ⟨z, z1, z2⟩ := index_av 3 Life.c l .i64 ci
      have hBi := hB _ (List.getElem_mem ci)
      generalize l[i] = x at *
      rw [life_cells] at z2
      have z1' : aindex 3 (alifes l) (.int .i64 i) = some z := z1
      have z3 := fun H => afield_p (z2 H) 2
      have z4 := fun (H : AHeap) => aload_off (z2 H) 2 false 1
      have z5 := fun (H : AHeap) => aload_p (z2 H) true 3
      have z6 : ∀ H : AHeap, aload H false 1 (poff 2 z) = some (aints x.fates) := z4
      have z7 : ∀ H : AHeap, aload H true 3 z = some (.agg [arows x.recs, .int .i64 x.cut, aints x.fates]) := z5
      have z3' : afield 2 z = some (poff 2 z) := z3 []
      have lf := len_aints x.fates
      simp only [go_sem, reduceIte, Nat.reduceEqDiff, Nat.reduceAdd, Nat.reduceLeDiff, Nat.reducePow, Nat.reduceDiv, Nat.reduceMod, decide_true, decide_eq_true ci', decide_eq_true ci3, k0, k5, z1', z3', z6, lf]
      by_cases c2 : 100 < (x.fates.length : Int)
      · simp only [go_sem, reduceIte, Nat.reduceEqDiff, Nat.reduceAdd, Nat.reduceLeDiff, Nat.reducePow, Nat.reduceDiv, Nat.reduceMod, decide_true, decide_eq_true c2]
        refine use1 hk.1 (hk.2 _) ?_
        simp only [go_sem, reduceIte, Nat.reduceEqDiff, Nat.reduceAdd, Nat.reduceLeDiff, Nat.reducePow, Nat.reduceDiv, Nat.reduceMod, decide_true]
      · have e3 : IntKind.i64.wrap ((i : Int) + 3) = i + 3 := wrap_i64 (by omega)
        have e4 : IntKind.i64.wrap ((i : Int) + 4) = i + 4 := wrap_i64 (by omega)
        have e5 : IntKind.i64.wrap ((i : Int) + 1) = ((i + 1 : Nat) : Int) := by rw [wrap_i64 (by omega)]; omega
        simp only [go_sem, reduceIte, Nat.reduceEqDiff, Nat.reduceAdd, Nat.reduceLeDiff, Nat.reducePow, Nat.reduceDiv, Nat.reduceMod, decide_true, decide_eq_false c2, k0, k3, k5, z1', z7, e3]
        refine wCall_use ⟨hl.1, hl.2 F h1 p d (i + 3) x dk bts dn dc doff (by unfold maxNo; omega) hel (fun m hm => Nat.lt_of_lt_of_le (hF m hm) hlen) hBi⟩ ?_
        rintro r h2 ⟨X2, mv, yv, R, M, d2, rfl, dk2, bt2, n2, rm, ry, lR, am⟩
        simp only [go_sem, reduceIte, Nat.reduceEqDiff, Nat.reduceAdd, Nat.reduceLeDiff, Nat.reducePow, Nat.reduceDiv, Nat.reduceMod, decide_true, Bool.not_true, k0, k3, k5, z1', z3', z6]
        refine wCall_use ⟨hc.1, hc.2 F nof h2 p d2 x.fates _ dk2 (rd_aints _ _ _) (fun m hm => hm.elim)⟩ ?_
        rintro _ h3 ⟨dk3, X3⟩
        obtain ⟨am1, am2⟩ := am x.fates
        have bt3 := Dk.crash_bts bt2 x.fates
        have n3 : (d2.crash x.fates).n = 42 := n2
        have c3 : (d2.crash x.fates).cache = [] := rfl
        have o3 : (d2.crash x.fates).off = false := rfl
        generalize d2.crash x.fates = d3 at *
        have hFlt : ∀ m, F m → m < h1.length := fun m hm => Nat.lt_of_lt_of_le (hF m hm) hlen
        have kp : ∀ {D : D} {v : AV}, Rd (fun m => h1.length ≤ m) h2 D v → Rd (fun m => h1.length ≤ m) h3 D v := fun hv => Rd.mono (fun _ y => y) (X3.keepOff (F' := fun m => h1.length ≤ m) fun m _ hm y => by have := hFlt m y; omega) _ _ hv
        have rm3 := kp rm
        have ry3 := kp ry
        simp only [go_sem, reduceIte, Nat.reduceEqDiff, Nat.reduceAdd, Nat.reduceLeDiff, Nat.reducePow, Nat.reduceDiv, Nat.reduceMod, decide_true, k3, k5, e3, e4]
        refine use1 hs.1 (hs.2 F h3 p d3 1 40 (i + 3) dk3 bt3) ?_
        have jr : ∀ e : Int, 1 ≤ e → e ≤ 100 → d3.jright 1 40 e := fun e h1 h2 => ⟨by omega, by omega, by omega, by omega, by unfold maxNo; omega⟩
        have sm := d3.scan_small 1 40 (i + 3)
        have small : (d3.scan 1 40 (i + 3)).1.length ≤ 2^40 ∧ ∀ b ∈ (d3.scan 1 40 (i + 3)).1, b.length ≤ 2^40 := ⟨by have := sm.1; omega, fun b hb => by have := sm.2 b hb; omega⟩
        have se : (d3.scan 1 40 (i + 3)).2 = 0 := by rcases am1 with h | h <;> rw [h]
        rw [se]
        simp only [go_sem, reduceIte, Nat.reduceEqDiff, Nat.reduceAdd, Nat.reduceLeDiff, Nat.reducePow, Nat.reduceDiv, Nat.reduceMod, decide_true, k3, k5, e3, e4]
        refine use1 hs.1 (hs.2 F h3 p d3 1 40 (i + 4) dk3 bt3) ?_
        rw [scan_elds (e := i + 4) c3 (jr _ (by omega) (by omega)) (by have := am2 1 (by omega) (by omega); rwa [show (i : Int) + 3 + 1 = i + 4 by omega] at this)]
        simp only [go_sem, reduceIte, Nat.reduceEqDiff, Nat.reduceAdd, Nat.reduceLeDiff, Nat.reducePow, Nat.reduceDiv, Nat.reduceMod, decide_true, dI00, Bool.not_true]
        refine use1 hb.1 (hb.2 nof _ h3 _ R _ _ (rd_arows _ _ _) rm3 small.1 small.2) ?_
        have goon : H.length ≤ h3.length := by have := X2.1; have := X3.1; omega
        have el3 : ∀ y, 1 ≤ y → y < 41 → eld (((i + 1 : Nat) : Int) + 3) (d3.last y) := fun y h1 h2 => by have := am2 y h1 h2; rwa [show (i : Int) + 3 + 1 = ((i + 1 : Nat) : Int) + 3 by omega] at this
        by_cases cm : (d3.scan 1 40 (i + 3)).1 = R
        · simp only [go_sem, reduceIte, Nat.reduceEqDiff, Nat.reduceAdd, Nat.reduceLeDiff, Nat.reducePow, Nat.reduceDiv, Nat.reduceMod, decide_true, decide_eq_true cm, len_arows, List.length_nil, show ((0 : Nat) : Int) = 0 from rfl, show decide ((0 : Int) < 0) = false from rfl, Bool.not_true, k5, e5]
          exact ⟨_, by omega, (hI _ _ _).2 ⟨i + 1, d3, by simp [lk_ins, k0], by simp [lk_ins, k3], by simp [lk_ins], dk3, bt3, n3, c3, o3, el3, goon, by omega, rfl⟩⟩
        · have cy : (d3.scan 1 40 (i + 3)).1 = M := by
            rcases am1 with h | h
            · exact absurd (by rw [h]) cm
            · rw [h]
          simp only [go_sem, reduceIte, Nat.reduceEqDiff, Nat.reduceAdd, Nat.reduceLeDiff, Nat.reducePow, Nat.reduceDiv, Nat.reduceMod, decide_true, decide_eq_false cm, Bool.not_false]
          refine use1 hb.1 (hb.2 nof _ h3 _ M _ _ (rd_arows _ _ _) ry3 small.1 small.2) ?_
          simp only [go_sem, reduceIte, Nat.reduceEqDiff, Nat.reduceAdd, Nat.reduceLeDiff, Nat.reducePow, Nat.reduceDiv, Nat.reduceMod, decide_true, decide_eq_true cy, len_arows, List.length_nil, show ((0 : Nat) : Int) = 0 from rfl, show decide ((0 : Int) < 0) = false from rfl, Bool.not_true, k5, e5]
          exact ⟨_, by omega, (hI _ _ _).2 ⟨i + 1, d3, by simp [lk_ins, k0], by simp [lk_ins, k3], by simp [lk_ins], dk3, bt3, n3, c3, o3, el3, goon, by omega, rfl⟩⟩
    · have q1 : decide ((i : Int) < l.length) = true := decide_eq_true (by omega)
      have q2 : decide ((i : Int) < 10) = false := decide_eq_false ci3
      simp only [go_sem, reduceIte, Nat.reduceEqDiff, Nat.reduceAdd, Nat.reduceLeDiff, Nat.reducePow, Nat.reduceDiv, Nat.reduceMod, decide_true, q1, q2, k5]
      refine use1 hk.1 (hk.2 _) ?_
      simp only [go_sem, reduceIte, Nat.reduceEqDiff, Nat.reduceAdd, Nat.reduceLeDiff, Nat.reducePow, Nat.reduceDiv, Nat.reduceMod, decide_true]
  · have q1 : decide ((i : Int) < l.length) = false := decide_eq_false (by omega)
    simp only [go_sem, reduceIte, Nat.reduceEqDiff, Nat.reduceAdd, Nat.reduceLeDiff, Nat.reducePow, Nat.reduceDiv, Nat.reduceMod, decide_true, q1, k5]
    refine use1 hk.1 (hk.2 _) ?_
    simp only [go_sem, reduceIte, Nat.reduceEqDiff, Nat.reduceAdd, Nat.reduceLeDiff, Nat.reducePow, Nat.reduceDiv, Nat.reduceMod, decide_true]

end Glb
