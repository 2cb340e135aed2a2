/-
  A library of its own: its parts, one behind the other.
-/
import Derived.Test.YthbhbgnngmfpiaaGlbChkA
import Derived.Test.YthbhbgnngmfpiaaGlbSecD
import Derived.Test.YthbhbgnngmfpiaaGlbCgleberef08
import Derived.Test.YthbhbgnngmfpiaaGlbImgB
import Derived.Test.YthbhbgnngmfpiaaGlbChkB
import Derived.Test.YthbhbgnngmfpiaaGlbSecC
set_option linter.unusedSimpArgs false
set_option linter.unusedVariables false
/-
  Layer 8: the document's Save.
-/
namespace Glb
open Go
set_option maxRecDepth 10000
set_option maxHeartbeats 8000000

/-- where a choice has two ends that go on alike -/
theorem wCond_meet {P : Program} {v : AV} {a b rest : AC} {st : St} {K : AX → St → Prop} (Q : St → Prop) (h1 : wCond P v a b st fun x s => x = .normal ∧ Q s) (h2 : ∀ s, Q s → vc P rest s K) : wCond P v a b st (kSeq P rest K) := by
  have key : ∀ (c : AC), vc P c st (fun x s => x = .normal ∧ Q s) → vc P c st (kSeq P rest K) := fun c hc => vc_mono c (fun x s ⟨e, q⟩ => by subst e; exact h2 s q) hc
  unfold wCond at h1 ⊢
  split at h1
  · exact ⟨fun e => key _ (h1.1 e), fun e => key _ (h1.2 e)⟩
  · exact h1.elim
theorem Rd.nof {h h' : AHeap} {d : D} {a : AV} (hh : Rd nof h d a) : Rd nof h' d a := Rd.mono (fun _ x => x) (fun _ x => x.elim) _ _ hh

def XMayOk (P : Program) (f : FuncId) : Prop := isFn P f = true ∧ ∀ (h : AHeap) (q : Nat) (x : Dk) (a n : Int), RefAt h q x →
  ACalls P f [.ptr q 5 0 0, .int .i64 a, .int .i64 n] h fun r h' => r = .bool (decide (x.may a n)) ∧ h' = h
def cutL (l : List Int) : List (List Int) := (List.range (many l)).map (cutAt l)
theorem cutL_length (l : List Int) : (cutL l).length = many l := by simp [cutL]
theorem cutL_get (l : List Int) {k : Nat} (h : k < (cutL l).length) : (cutL l)[k] = cutAt l k := by simp [cutL]
def XCutOk (P : Program) (f : FuncId) : Prop := isFn P f = true ∧ ∀ (h : AHeap) (l : List Int) (a : AV), Rd nof [] (dBytes l) a → l.length ≤ 2^40 →
  ACalls P f [a] h fun r h' => Rd (fun m => h.length ≤ m) h' (dRows (cutL l)) r ∧ Ext nof h h'
def XPieceOk (P : Program) (f : FuncId) : Prop := isFn P f = true ∧ ∀ (F : Nat → Prop) (h : AHeap) (e : Int) (k : Nat) (b : Bool) (l : List Int) (a : AV), Rd F h (dBytes l) a → l.length ≤ 2^40 → k ≤ 2^40 →
  ACalls P f [.int .i64 e, .int .i64 0, .int .i64 k, .bool b, a] h fun r h' => r = abytes (pieceB e k b l) ∧ h' = h
def XSaveOk (P : Program) (f : FuncId) : Prop := isFn P f = true ∧ ∀ (h : AHeap) (q : Nat) (x : Dk) (at' n e : Int) (l : List Int) (a : AV), RefAt h q x → Rd nof [] (dBytes l) a → l.length ≤ 2^40 →
  ACalls P f [.ptr q 5 0 0, .int .i64 at', .int .i64 n, .int .i64 e, a] h fun r h' => r = .int .i64 (x.save at' n e l).2 ∧ RefAt h' q (x.save at' n e l).1 ∧ Ext (only q) h h'

theorem xmay_ok {P : Program} {f : FuncId} (hf : Is P f c_gleberef08_May) : XMayOk P f := by
  refine ⟨hf.2, fun h q x a n hx => fun_sound hf.1 (Nat.le_of_ble_eq_true rfl) ?_⟩
  show vc P c_gleberef08_May.code ⟨[(0, .ptr q 5 0 0), (1, .int .i64 a), (2, .int .i64 n)], [], h⟩ (atEnd c_gleberef08_May.res _)
  have hn := hx.ok.n
  obtain ⟨L, C, B, -, -⟩ := hx.ex
  have no : ¬ x.may a n → decide (x.may a n) = false := fun y => decide_eq_false y
  by_cases c1 : 0 ≤ a
  · by_cases c2 : a < x.n
    · by_cases c3 : 1 ≤ n
      · by_cases c4 : n ≤ x.n
        · have e1 : IntKind.i64.wrap (2 * n) = 2 * n := wrap_i64 (by omega)
          have e2 : IntKind.i64.wrap (a + 2 * n) = a + 2 * n := wrap_i64 (by omega)
          have hm : decide (x.may a n) = decide (a + 2 * n ≤ x.n) := decide_eq_decide.2 ⟨fun y => y.2.2, fun y => ⟨c1, c3, y⟩⟩
          simp only [c_gleberef08_May, go_sem, reduceIte, Nat.reduceEqDiff, Nat.reduceAdd, Nat.reduceLeDiff, Nat.reducePow, Nat.reduceDiv, Nat.reduceMod, decide_true, B, decide_eq_true c1, decide_eq_true c2, decide_eq_true c3, decide_eq_true c4, e1, e2, hm]
        · simp only [c_gleberef08_May, go_sem, reduceIte, Nat.reduceEqDiff, Nat.reduceAdd, Nat.reduceLeDiff, Nat.reducePow, Nat.reduceDiv, Nat.reduceMod, decide_true, B, decide_eq_true c1, decide_eq_true c2, decide_eq_true c3, decide_eq_false c4, no (fun y => by have := y.2; omega)]
      · simp only [c_gleberef08_May, go_sem, reduceIte, Nat.reduceEqDiff, Nat.reduceAdd, Nat.reduceLeDiff, Nat.reducePow, Nat.reduceDiv, Nat.reduceMod, decide_true, B, decide_eq_true c1, decide_eq_true c2, decide_eq_false c3, no (fun y => by have := y.2; omega)]
    · simp only [c_gleberef08_May, go_sem, reduceIte, Nat.reduceEqDiff, Nat.reduceAdd, Nat.reduceLeDiff, Nat.reducePow, Nat.reduceDiv, Nat.reduceMod, decide_true, B, decide_eq_true c1, decide_eq_false c2, no (fun y => by have := y.2; omega)]
  · simp only [c_gleberef08_May, go_sem, reduceIte, Nat.reduceEqDiff, Nat.reduceAdd, Nat.reduceLeDiff, Nat.reducePow, Nat.reduceDiv, Nat.reduceMod, decide_true, B, decide_eq_false c1, no (fun y => by have := y.1; omega)]

theorem xpiece_ok {P : Program} {f g : FuncId} (hf : Is P f (c_gleberef08_Piece g)) (hg : IntOk P g) : XPieceOk P f := by
  refine ⟨hf.2, fun F h e k b l a ha hl hk => ACalls.freeze (K := fun r h' => Own (dBytes (pieceB e k b l)) (fun m => h.length ≤ m) h' r ∧ Ext nof h h') (fun_sound hf.1 (Nat.le_of_ble_eq_true rfl) ?_) (fun r _ ⟨ho, hx⟩ => ⟨hx, _, Frz.d (Own.fz (dBytes _) (fun _ x => x) _ ho), rfl⟩)⟩
  show vc P (c_gleberef08_Piece g).code ⟨[(0, .int .i64 e), (1, .int .i64 0), (2, .int .i64 k), (3, .bool b), (4, a)], [], h⟩ (atEnd (c_gleberef08_Piece g).res _)
  have e1 : IntKind.i64.wrap (2 * (k : Int)) = 2 * k := wrap_i64 (by omega)
  have e2 : IntKind.i64.wrap (2 * (k : Int) + 1) = 2 * k + 1 := wrap_i64 (by omega)
  have hp := hg.p
  cases b
  · simp only [c_gleberef08_Piece, go_sem, reduceIte, Nat.reduceEqDiff, Nat.reduceAdd, Nat.reduceLeDiff, Nat.reducePow, Nat.reduceDiv, Nat.reduceMod, decide_true, e1, e2]
    refine use1 hp.1 (hp.2 (fun _ => True) h [] .nils e (nl_rd8 h) (by simp)) ?_
    simp only [go_sem, reduceIte, Nat.reduceEqDiff, Nat.reduceAdd, Nat.reduceLeDiff, Nat.reducePow, Nat.reduceDiv, Nat.reduceMod, decide_true]
    refine use1 hp.1 (hp.2 (fun _ => True) h (num e) _ 0 (rd_abytes _ _ _) (by simp [num_length])) ?_
    simp only [go_sem, reduceIte, Nat.reduceEqDiff, Nat.reduceAdd, Nat.reduceLeDiff, Nat.reducePow, Nat.reduceDiv, Nat.reduceMod, decide_true]
    refine wCall_use ⟨hg.1, hg.2 (fun _ => True) h (num e ++ num 0) _ (2 * k) (rd_abytes _ _ _) (by simp [num_length])⟩ ?_
    rintro b H ⟨ho, hc, hx⟩
    obtain ⟨ys, hys, hyr⟩ := (ha.up hx).elems
    obtain ⟨o, h', hap, ho', hc', he'⟩ := own_app (lo := h.length) (sz := 1) (bytes := 1) ho hc (Ext.refl _ _) (own_ints1 hyr) hx.1 (by simp [num_length]; omega)
    have ha2 := aappend_of hys 1 b
    rw [hap] at ha2
    simp only [go_sem, reduceIte, Nat.reduceEqDiff, Nat.reduceAdd, Nat.reduceLeDiff, Nat.reducePow, Nat.reduceDiv, Nat.reduceMod, decide_true, ha2]
    refine ⟨?_, hx.then he' (fun m hm hm' => by omega)⟩
    have := ho'
    simpa [dBytes, pieceB] using this
  · simp only [c_gleberef08_Piece, go_sem, reduceIte, Nat.reduceEqDiff, Nat.reduceAdd, Nat.reduceLeDiff, Nat.reducePow, Nat.reduceDiv, Nat.reduceMod, decide_true, e1, e2]
    refine use1 hp.1 (hp.2 (fun _ => True) h [] .nils e (nl_rd8 h) (by simp)) ?_
    simp only [go_sem, reduceIte, Nat.reduceEqDiff, Nat.reduceAdd, Nat.reduceLeDiff, Nat.reducePow, Nat.reduceDiv, Nat.reduceMod, decide_true]
    refine use1 hp.1 (hp.2 (fun _ => True) h (num e) _ 0 (rd_abytes _ _ _) (by simp [num_length])) ?_
    simp only [go_sem, reduceIte, Nat.reduceEqDiff, Nat.reduceAdd, Nat.reduceLeDiff, Nat.reducePow, Nat.reduceDiv, Nat.reduceMod, decide_true]
    refine wCall_use ⟨hg.1, hg.2 (fun _ => True) h (num e ++ num 0) _ (2 * k + 1) (rd_abytes _ _ _) (by simp [num_length])⟩ ?_
    rintro b H ⟨ho, hc, hx⟩
    obtain ⟨ys, hys, hyr⟩ := (ha.up hx).elems
    obtain ⟨o, h', hap, ho', hc', he'⟩ := own_app (lo := h.length) (sz := 1) (bytes := 1) ho hc (Ext.refl _ _) (own_ints1 hyr) hx.1 (by simp [num_length]; omega)
    have ha2 := aappend_of hys 1 b
    rw [hap] at ha2
    simp only [go_sem, reduceIte, Nat.reduceEqDiff, Nat.reduceAdd, Nat.reduceLeDiff, Nat.reducePow, Nat.reduceDiv, Nat.reduceMod, decide_true, ha2]
    refine ⟨?_, hx.then he' (fun m hm hm' => by omega)⟩
    have := ho'
    simpa [dBytes, pieceB] using this

theorem cut_ok {P : Program} {f : FuncId} (hf : Is P f c_gleberef08_Cut) : XCutOk P f := by
  refine ⟨hf.2, fun h l a ha hl => fun_sound hf.1 (Nat.le_of_ble_eq_true rfl) ?_⟩
  show vc P c_gleberef08_Cut.code ⟨[(0, a)], [], h⟩ (atEnd c_gleberef08_Cut.res _)
  simp only [c_gleberef08_Cut, go_sem, reduceIte, Nat.reduceEqDiff, Nat.reduceAdd, Nat.reduceLeDiff, Nat.reducePow, Nat.reduceDiv, Nat.reduceMod, decide_true]
  obtain ⟨I, hI⟩ : ∃ I : Nat → Env → AHeap → Prop, ∀ m L h', I m L h' ↔ ∃ (k : Nat) (c o : AV) (es : List (List AV)), lk 0 L = c ∧ lk 3 L = o ∧ Rd nof [] (dBytes (l.drop (40 * k))) c ∧ OwnO h.length h' 1 o es ∧ RdLL nof [] ((List.range k).map fun j => [dBytes (cutAt l j)]) es ∧ Ext nof h h' ∧ k < many l ∧ m = many l - k := ⟨_, fun _ _ _ => Iff.rfl⟩
  have mp := many_pos l
  refine vc_loop I (many l) ((hI _ _ _).2 ⟨0, a, .nils, [], by simp [lk_ins, lk_cons], by simp [lk_ins], by simpa using ha, .inl ⟨rfl, rfl⟩, by simp [RdLL], Ext.refl _ _, by omega, by omega⟩) ?_
  intro m L H hh
  obtain ⟨k, c, o, es, k0, k3, hc, hO, hR, hx, hk, rfl⟩ := (hI _ _ _).1 hh
  have lc := hc.bytes_len
  have hel : es.length = k := by have := RdLL_length hR; simpa using this
  have hk40 : 40 * k ≤ l.length + 39 := by unfold many at hk; omega
  have hR1 : ∀ c', Rd nof [] (dBytes (cutAt l k)) c' → RdLL nof [] ((List.range (k + 1)).map fun j => [dBytes (cutAt l j)]) (es ++ [[c']]) := fun c' h1 => by
    rw [List.range_succ, List.map_append]
    exact RdLL_app hR ⟨_, _, rfl, ⟨_, _, rfl, h1, rfl⟩, rfl⟩
  simp only [c_gleberef08_Cut_l0, go_sem, reduceIte, Nat.reduceEqDiff, Nat.reduceAdd, Nat.reduceLeDiff, Nat.reducePow, Nat.reduceDiv, Nat.reduceMod, decide_true, k0, k3, lc]
  have hlen : (l.drop (40 * k)).length = l.length - 40 * k := List.length_drop
  rw [hlen]
  refine wCond_split (fun ci => ?_) (fun ci => ?_)
  · simp at ci
    obtain ⟨c1, s1, r1⟩ := Rd.slice hc (lo := none) (hi := some 40) (mx := none) (by simp) (by simp) (by simp; omega) (by simp) (by simp; omega) (by simp)
    obtain ⟨c2, s2, r2⟩ := Rd.slice hc (lo := some 40) (hi := none) (mx := none) (by simp) (by simp; omega) (by simp) (by simp) (by simp) (by simp)
    have r1' : Rd nof [] (dBytes (cutAt l k)) c1 := by
      have : cutAt l k = (l.drop (40 * k)).take 40 := rfl
      rw [this]; simpa [dBytes, List.map_take] using r1
    have r2' : Rd nof [] (dBytes (l.drop (40 * (k + 1)))) c2 := by
      rw [show 40 * (k + 1) = 40 * k + 40 by omega, ← List.drop_drop]
      simp only [Option.getD_some, Option.getD_none, Int.toNat_natCast, List.take_length] at r2
      simpa [dBytes, List.map_drop] using r2
    obtain ⟨o2, h3, t1, t2, t3⟩ := acc_app (bytes := 24) (h := H ++ [some (.arr 1 [[c1]] false)]) (ys := [[c1]]) hO (Ext.b1 _) hx.1 (by simp; omega)
    simp only [go_sem, reduceIte, Nat.reduceEqDiff, Nat.reduceAdd, Nat.reduceLeDiff, Nat.reducePow, Nat.reduceDiv, Nat.reduceMod, decide_true, k0, k3, s1, s2, r1'.scalar, cells_of r1'.scalar, aappend_of (aelems_new H 1 [[c1]] false (some 1) (len := 1) rfl), t1]
    exact ⟨_, by omega, (hI _ _ _).2 ⟨k + 1, c2, o2, es ++ [[c1]], by simp [lk_ins], by simp [lk_ins], r2', t2, hR1 _ r1', (hx.tr (Ext.b1 _)).then t3 (fun m hm hm' => by omega), by unfold many at *; omega, rfl⟩⟩
  · simp at ci
    have hk1 : k + 1 = many l := by unfold many at hk ⊢; omega
    have r1' : Rd nof [] (dBytes (cutAt l k)) c := by rw [cutAt_last hk1]; exact hc
    obtain ⟨o2, h3, t1, t2, t3⟩ := acc_app (bytes := 24) (h := H ++ [some (.arr 1 [[c]] false)]) (ys := [[c]]) hO (Ext.b1 _) hx.1 (by simp; omega)
    simp only [go_sem, reduceIte, Nat.reduceEqDiff, Nat.reduceAdd, Nat.reduceLeDiff, Nat.reducePow, Nat.reduceDiv, Nat.reduceMod, decide_true, k0, k3, r1'.scalar, cells_of r1'.scalar, aappend_of (aelems_new H 1 [[c]] false (some 1) (len := 1) rfl), t1]
    refine ⟨?_, ?_⟩
    · have e : (cutL l).map (fun b => [dBytes b]) = (List.range (k + 1)).map fun j => [dBytes (cutAt l j)] := by unfold cutL; rw [List.map_map, hk1]; rfl
      unfold dRows
      rw [e]
      exact ⟨_, t2.els, RdLL.mono (F := nof) (h := []) (fun _ x => x.elim) (fun _ x => x.elim) _ _ (hR1 _ r1')⟩
    · exact (hx.tr (Ext.b1 _)).then t3 (fun m hm hm' => by omega)

theorem Dk.flush_err (d : Dk) : d.flush.2 = 0 ∨ d.flush.2 = 10 := by
  unfold Dk.flush
  split
  · exact .inr rfl
  · split
    · exact .inl rfl
    · exact .inr rfl
theorem crows_at {F : Nat → Prop} {h : AHeap} {l : List (List Int)} {o : AV} (ho : Rd F h (dRows l) o) {i : Nat} (hi : i < l.length) : ∃ p c, aindex 1 o (.int .i64 i) = some p ∧ aload h false 1 p = some c ∧ Rd F h (dBytes l[i]) c := by
  obtain ⟨p, cs, hp, hpc, hcs⟩ := ho.index .i64 (i := i) (d := [dBytes l[i]]) (by omega) (by simp [hi])
  simp only [RdL] at hcs
  obtain ⟨c, _, rfl, hc, rfl⟩ := hcs
  exact ⟨p, c, hp, by rw [aload_p hpc]; exact take_one _ _ _, hc⟩

theorem xsave_ok {P : Program} {f g1 g2 g3 g4 g5 : FuncId} (hf : Is P f (c_gleberef08_Save g1 g2 g3 g4 g5)) (h1 : XMayOk P g1) (h2 : XCutOk P g2) (h3 : XPieceOk P g3) (h4 : XWriteOk P g4) (h5 : XFlushOk P g5) : XSaveOk P f := by
  refine ⟨hf.2, fun h q x at' n e l a hx ha hl => fun_sound hf.1 (Nat.le_of_ble_eq_true rfl) ?_⟩
  show vc P (c_gleberef08_Save g1 g2 g3 g4 g5).code ⟨[(0, .ptr q 5 0 0), (1, .int .i64 at'), (2, .int .i64 n), (3, .int .i64 e), (4, a)], [], h⟩ (atEnd (c_gleberef08_Save g1 g2 g3 g4 g5).res _)
  have hn := hx.ok.n
  simp only [c_gleberef08_Save, go_sem, reduceIte, Nat.reduceEqDiff, Nat.reduceAdd, Nat.reduceLeDiff, Nat.reducePow, Nat.reduceDiv, Nat.reduceMod, decide_true]
  refine use1 h1.1 (h1.2 h q x at' n hx) ?_
  unfold Dk.save
  by_cases cm : x.may at' n
  · by_cases c1 : e < 1
    · simp only [go_sem, reduceIte, Nat.reduceEqDiff, Nat.reduceAdd, Nat.reduceLeDiff, Nat.reducePow, Nat.reduceDiv, Nat.reduceMod, decide_true, decide_eq_true cm, Bool.not_true, decide_eq_true c1]
      rw [if_pos (.inr (.inl c1))]
      exact ⟨rfl, hx, Ext.refl _ _⟩
    · by_cases c2 : 1099511627776 < e
      · simp only [go_sem, reduceIte, Nat.reduceEqDiff, Nat.reduceAdd, Nat.reduceLeDiff, Nat.reducePow, Nat.reduceDiv, Nat.reduceMod, decide_true, decide_eq_true cm, Bool.not_true, decide_eq_false c1, decide_eq_true c2]
        rw [if_pos (.inr (.inr (by unfold maxNo; omega)))]
        exact ⟨rfl, hx, Ext.refl _ _⟩
      · rw [if_neg (by unfold maxNo; rintro (y | y | y); exact y cm; exact c1 y; exact c2 y)]
        obtain ⟨m1, m2, m3⟩ := cm
        simp only [go_sem, reduceIte, Nat.reduceEqDiff, Nat.reduceAdd, Nat.reduceLeDiff, Nat.reducePow, Nat.reduceDiv, Nat.reduceMod, decide_true, decide_eq_true (show x.may at' n from ⟨m1, m2, m3⟩), Bool.not_true, decide_eq_false c1, decide_eq_false c2]
        refine wCall_use ⟨h2.1, h2.2 h l a ha hl⟩ ?_
        rintro o H ⟨ho, hX⟩
        have lo : alen o = some (.int .i64 (many l)) := by have := ho.len; simpa [cutL_length] using this
        have mp := many_pos l
        have ml : many l ≤ 2^40 := by unfold many; omega
        simp only [go_sem, reduceIte, Nat.reduceEqDiff, Nat.reduceAdd, Nat.reduceLeDiff, Nat.reducePow, Nat.reduceDiv, Nat.reduceMod, decide_true, lo]
        by_cases c3 : n < many l
        · simp only [go_sem, reduceIte, Nat.reduceEqDiff, Nat.reduceAdd, Nat.reduceLeDiff, Nat.reducePow, Nat.reduceDiv, Nat.reduceMod, decide_true, decide_eq_true c3]
          rw [if_pos c3]
          exact ⟨rfl, hx.up (hX.2 _ hx.lt (fun y => y)), hX.weak (fun _ _ y => y.elim)⟩
        rw [if_neg c3]
        have er : e.tmod 2 = e % 2 := Int.tmod_eq_emod_of_nonneg (by omega)
        have g1' : ∀ x : Int, abin .rem (.int .i64 x) (.int .i64 2) = some (.int .i64 (x.tmod 2)) := fun _ => rfl
        have e2 : IntKind.i64.wrap (at' + n) = at' + n := wrap_i64 (by omega)
        have e3 : IntKind.i64.wrap ((many l : Int) - 1) = many l - 1 := wrap_i64 (by omega)
        obtain ⟨i, hi⟩ : ∃ i, i = at' + e % 2 * n := ⟨_, rfl⟩
        have hir : 0 ≤ i ∧ i ≤ 16384 := by rcases (by omega : e % 2 = 0 ∨ e % 2 = 1) with y | y <;> rw [y] at hi <;> omega
        rw [← hi]
        simp only [go_sem, reduceIte, Nat.reduceEqDiff, Nat.reduceAdd, Nat.reduceLeDiff, Nat.reducePow, Nat.reduceDiv, Nat.reduceMod, decide_true, decide_eq_false c3, g1', er]
        refine wCond_meet (fun s => ∃ L1, s = ⟨L1, [], H⟩ ∧ lk 0 L1 = .ptr q 5 0 0 ∧ lk 3 L1 = .int .i64 e ∧ lk 11 L1 = o ∧ lk 12 L1 = .int .i64 i) ?_ ?_
        · by_cases c4 : e % 2 = 1
          · rw [c4, Int.one_mul] at hi
            simp only [go_sem, reduceIte, Nat.reduceEqDiff, Nat.reduceAdd, Nat.reduceLeDiff, Nat.reducePow, Nat.reduceDiv, Nat.reduceMod, decide_true, decide_eq_true c4, e2]
            exact ⟨_, rfl, by simp [lk_ins, lk_cons], by simp [lk_ins, lk_cons], by simp [lk_ins, lk_cons], by simp [lk_ins, hi]⟩
          · rw [show e % 2 = 0 by omega, Int.zero_mul, Int.add_zero] at hi
            simp only [go_sem, reduceIte, Nat.reduceEqDiff, Nat.reduceAdd, Nat.reduceLeDiff, Nat.reducePow, Nat.reduceDiv, Nat.reduceMod, decide_true, decide_eq_false c4]
            exact ⟨_, rfl, by simp [lk_ins, lk_cons], by simp [lk_ins, lk_cons], by simp [lk_ins, lk_cons], by simp [lk_ins, hi]⟩
        rintro s ⟨L1, rfl, q0, q3, q11, q12⟩
        simp only [go_sem, reduceIte, Nat.reduceEqDiff, Nat.reduceAdd, Nat.reduceLeDiff, Nat.reducePow, Nat.reduceDiv, Nat.reduceMod, decide_true]
        unfold Dk.lay
        obtain ⟨rs, hrs⟩ : ∃ y, y = x.rest i e l (many l - 1) 1 := ⟨_, rfl⟩
        rw [← hrs]
        have up0 : ∀ {h'}, Ext (only q) H h' → Ext (only q) h h' := fun y => hX.trans y (fun _ _ z => z.elim) (fun _ _ z => z)
        have xH : RefAt H q x := hx.up (hX.2 _ hx.lt (fun y => y))
        have hqn : ∀ m, h.length ≤ m → ¬ only q m := fun m hm y => by have := hx.lt; unfold only at y; omega
        have rdo : ∀ {h'}, Ext (only q) H h' → Rd (fun m => h.length ≤ m) h' (dRows (cutL l)) o := fun y => Rd.mono (fun _ z => z) (y.keepOff (F' := fun m => h.length ≤ m) fun m _ hm => hqn m hm) _ _ ho
        obtain ⟨I, hI⟩ : ∃ I : Nat → Env → AHeap → Prop, ∀ m L h', I m L h' ↔ ∃ (j : Nat) (d1 : Dk), lk 0 L = .ptr q 5 0 0 ∧ lk 3 L = .int .i64 e ∧ lk 11 L = o ∧ lk 12 L = .int .i64 i ∧ lk 13 L = .int .i64 j ∧ RefAt h' q d1 ∧ Ext (only q) H h' ∧ rs = d1.rest i e l (many l - j) j ∧ 1 ≤ j ∧ j ≤ many l ∧ m = many l - j := ⟨_, fun _ _ _ => Iff.rfl⟩
        refine vc_loop I (many l - 1) ((hI _ _ _).2 ⟨1, x, by simp [lk_ins, q0], by simp [lk_ins, q3], by simp [lk_ins, q11], by simp [lk_ins, q12], by simp [lk_ins], xH, Ext.refl _ _, hrs, by omega, by omega, rfl⟩) ?_
        clear q0 q3 q11 q12
        intro m L h' hh
        obtain ⟨j, d1, q0, q3, q11, q12, q13, hd1, hxj, hr, hj1, hj, rfl⟩ := (hI _ _ _).1 hh
        simp only [c_gleberef08_Save_l0, go_sem, reduceIte, Nat.reduceEqDiff, Nat.reduceAdd, Nat.reduceLeDiff, Nat.reducePow, Nat.reduceDiv, Nat.reduceMod, decide_true, q11, q13, lo]
        refine wCond_split (fun ck => ?_) (fun ck => ?_)
        · simp at ck
          have ej : IntKind.i64.wrap ((j : Int) + 1) = ((j + 1 : Nat) : Int) := by rw [wrap_i64 (by omega)]; omega
          have e4 : IntKind.i64.wrap (i + j) = i + j := wrap_i64 (by omega)
          obtain ⟨p, c, hp1, hp2, hp3⟩ := crows_at (rdo hxj) (i := j) (by rw [cutL_length]; omega)
          rw [cutL_get] at hp3
          have ed : decide ((j : Int) = many l - 1) = decide (j + 1 = many l) := by rw [decide_eq_decide]; omega
          simp only [go_sem, reduceIte, Nat.reduceEqDiff, Nat.reduceAdd, Nat.reduceLeDiff, Nat.reducePow, Nat.reduceDiv, Nat.reduceMod, decide_true, q0, q3, q11, q12, q13, lo, e3, e4, hp1, hp2, ed]
          refine use1 h3.1 (h3.2 _ h' e j _ (cutAt l j) c hp3 (by have := cut_len l j; omega) (by omega)) ?_
          simp only [go_sem, reduceIte, Nat.reduceEqDiff, Nat.reduceAdd, Nat.reduceLeDiff, Nat.reducePow, Nat.reduceDiv, Nat.reduceMod, decide_true]
          refine wCall_use ⟨h4.1, h4.2 nof h' q d1 (i + j) (pieceK e l j) _ hd1 (rd_abytes _ _ _) (fun y => y) (by have := pieceK_len e l j; omega)⟩ ?_
          rintro _ h2' ⟨rfl, hd2, hx2, -⟩
          have hr2 : rs = if (d1.wr i e l j).2 = 0 then (d1.wr i e l j).1.rest i e l (many l - (j + 1)) (j + 1) else d1.wr i e l j := by
            rw [hr, show many l - j = (many l - (j + 1)) + 1 by omega]; rfl
          have hx3 : Ext (only q) H h2' := hxj.trans hx2 (fun _ _ y => y) (fun _ _ y => y)
          change RefAt h2' q (d1.wr i e l j).1 at hd2
          change kPutH _ _ _ _ _ (.int .i64 (d1.wr i e l j).2) h2'
          by_cases c4 : (d1.wr i e l j).2 = 0
          · simp only [go_sem, reduceIte, Nat.reduceEqDiff, Nat.reduceAdd, Nat.reduceLeDiff, Nat.reducePow, Nat.reduceDiv, Nat.reduceMod, decide_true, q0, q3, q11, q12, q13, decide_eq_true c4, Bool.not_true, ej]
            rw [if_pos c4] at hr2
            exact ⟨_, by omega, (hI _ _ _).2 ⟨j + 1, _, by simp [lk_ins, q0], by simp [lk_ins, q3], by simp [lk_ins, q11], by simp [lk_ins, q12], by simp [lk_ins], hd2, hx3, hr2, by omega, by omega, rfl⟩⟩
          · simp only [go_sem, reduceIte, Nat.reduceEqDiff, Nat.reduceAdd, Nat.reduceLeDiff, Nat.reducePow, Nat.reduceDiv, Nat.reduceMod, decide_true, q0, q3, q11, q12, q13, decide_eq_false c4, Bool.not_false]
            rw [if_neg c4] at hr2
            rw [hr2, if_neg c4]
            exact ⟨rfl, hd2, up0 hx3⟩
        · simp at ck
          obtain rfl : j = many l := by omega
          rw [Nat.sub_self] at hr
          simp only [Dk.rest] at hr
          rw [hr, if_pos rfl]
          have tail : ∀ (L' : Env) (h2 : AHeap) (d2 : Dk), RefAt h2 q d2 → Ext (only q) H h2 → ∃ p c, aindex 1 o (.int .i64 0) = some p ∧ aload h2 false 1 p = some c ∧ Rd (fun m => h.length ≤ m) h2 (dBytes (cutAt l 0)) c := fun L' h2 d2 _ hx2 => by
            obtain ⟨p, c, hp1, hp2, hp3⟩ := crows_at (rdo hx2) (i := 0) (by rw [cutL_length]; omega)
            rw [cutL_get] at hp3
            exact ⟨p, c, hp1, hp2, hp3⟩
          have e00 : i + (0 : Nat) = i := by simp
          have ed : decide ((many l : Int) = 1) = decide (0 + 1 = many l) := by rw [decide_eq_decide]; omega
          by_cases c5 : 1 < (many l : Int)
          · have em : d1.mid l = d1.flush := by unfold Dk.mid; rw [if_pos (by omega)]
            rw [em]
            simp only [go_sem, reduceIte, Nat.reduceEqDiff, Nat.reduceAdd, Nat.reduceLeDiff, Nat.reducePow, Nat.reduceDiv, Nat.reduceMod, decide_true, q0, q3, q11, q12, q13, lo, decide_eq_true c5]
            refine wCall_use ⟨h5.1, h5.2 h' q d1 hd1⟩ ?_
            rintro _ h2' ⟨rfl, hd2, hx2, -⟩
            have hx3 : Ext (only q) H h2' := hxj.trans hx2 (fun _ _ y => y) (fun _ _ y => y)
            by_cases c6 : d1.flush.2 = 0
            · rw [if_pos c6]
              generalize d1.flush.1 = d2 at *
              obtain ⟨p, c, hp1, hp2, hp3⟩ := tail [] h2' d2 hd2 hx3
              simp only [go_sem, reduceIte, Nat.reduceEqDiff, Nat.reduceAdd, Nat.reduceLeDiff, Nat.reducePow, Nat.reduceDiv, Nat.reduceMod, decide_true, q0, q3, q11, q12, q13, lo, decide_eq_true c6, Bool.not_true, hp1, hp2, ed]
              refine use1 h3.1 (h3.2 _ h2' e 0 _ (cutAt l 0) c hp3 (by have := cut_len l 0; omega) (by omega)) ?_
              simp only [go_sem, reduceIte, Nat.reduceEqDiff, Nat.reduceAdd, Nat.reduceLeDiff, Nat.reducePow, Nat.reduceDiv, Nat.reduceMod, decide_true]
              refine wCall_use ⟨h4.1, h4.2 nof h2' q d2 i (pieceK e l 0) _ hd2 (rd_abytes _ _ _) (fun y => y) (by have := pieceK_len e l 0; omega)⟩ ?_
              have ew : d2.write i (pieceK e l 0) = d2.wr i e l 0 := by unfold Dk.wr; rw [e00]
              rw [ew]
              rintro _ h6 ⟨rfl, hd6, hx6, -⟩
              have hx7 : Ext (only q) H h6 := hx3.trans hx6 (fun _ _ y => y) (fun _ _ y => y)
              unfold Dk.end'
              by_cases c7 : (d2.wr i e l 0).2 = 0
              · rw [if_pos c7]
                simp only [go_sem, reduceIte, Nat.reduceEqDiff, Nat.reduceAdd, Nat.reduceLeDiff, Nat.reducePow, Nat.reduceDiv, Nat.reduceMod, decide_true, q0, q3, q11, q12, q13, decide_eq_true c7, Bool.not_true]
                refine wCall_use ⟨h5.1, h5.2 h6 q _ hd6⟩ ?_
                rintro _ h7 ⟨rfl, hd7, hx8, -⟩
                simp only [go_sem, reduceIte, Nat.reduceEqDiff, Nat.reduceAdd, Nat.reduceLeDiff, Nat.reducePow, Nat.reduceDiv, Nat.reduceMod, decide_true]
                exact ⟨hd7, up0 (hx7.trans hx8 (fun _ _ y => y) (fun _ _ y => y))⟩
              · rw [if_neg c7]
                simp only [go_sem, reduceIte, Nat.reduceEqDiff, Nat.reduceAdd, Nat.reduceLeDiff, Nat.reducePow, Nat.reduceDiv, Nat.reduceMod, decide_true, q0, q3, q11, q12, q13, decide_eq_false c7, Bool.not_false]
                exact ⟨hd6, up0 hx7⟩
            · rw [if_neg c6]
              have c10 : d1.flush.2 = 10 := (Dk.flush_err d1).resolve_left c6
              have t10 : decide ((10 : Int) = 0) = false := rfl
              simp only [go_sem, reduceIte, Nat.reduceEqDiff, Nat.reduceAdd, Nat.reduceLeDiff, Nat.reducePow, Nat.reduceDiv, Nat.reduceMod, decide_true, q0, q3, q11, q12, q13, Bool.not_false, c10, t10]
              exact ⟨hd2, up0 hx3⟩
          · have em : d1.mid l = (d1, 0) := by unfold Dk.mid; rw [if_neg (by omega)]
            rw [em, if_pos rfl]
            obtain ⟨p, c, hp1, hp2, hp3⟩ := tail [] h' d1 hd1 hxj
            simp only [go_sem, reduceIte, Nat.reduceEqDiff, Nat.reduceAdd, Nat.reduceLeDiff, Nat.reducePow, Nat.reduceDiv, Nat.reduceMod, decide_true, q0, q3, q11, q12, q13, lo, decide_eq_false c5, hp1, hp2, ed]
            refine use1 h3.1 (h3.2 _ h' e 0 _ (cutAt l 0) c hp3 (by have := cut_len l 0; omega) (by omega)) ?_
            simp only [go_sem, reduceIte, Nat.reduceEqDiff, Nat.reduceAdd, Nat.reduceLeDiff, Nat.reducePow, Nat.reduceDiv, Nat.reduceMod, decide_true]
            refine wCall_use ⟨h4.1, h4.2 nof h' q d1 i (pieceK e l 0) _ hd1 (rd_abytes _ _ _) (fun y => y) (by have := pieceK_len e l 0; omega)⟩ ?_
            have ew : d1.write i (pieceK e l 0) = d1.wr i e l 0 := by unfold Dk.wr; rw [e00]
            rw [ew]
            rintro _ h6 ⟨rfl, hd6, hx6, -⟩
            have hx7 : Ext (only q) H h6 := hxj.trans hx6 (fun _ _ y => y) (fun _ _ y => y)
            unfold Dk.end'
            by_cases c7 : (d1.wr i e l 0).2 = 0
            · rw [if_pos c7]
              simp only [go_sem, reduceIte, Nat.reduceEqDiff, Nat.reduceAdd, Nat.reduceLeDiff, Nat.reducePow, Nat.reduceDiv, Nat.reduceMod, decide_true, q0, q3, q11, q12, q13, decide_eq_true c7, Bool.not_true]
              refine wCall_use ⟨h5.1, h5.2 h6 q _ hd6⟩ ?_
              rintro _ h7 ⟨rfl, hd7, hx8, -⟩
              simp only [go_sem, reduceIte, Nat.reduceEqDiff, Nat.reduceAdd, Nat.reduceLeDiff, Nat.reducePow, Nat.reduceDiv, Nat.reduceMod, decide_true]
              exact ⟨hd7, up0 (hx7.trans hx8 (fun _ _ y => y) (fun _ _ y => y))⟩
            · rw [if_neg c7]
              simp only [go_sem, reduceIte, Nat.reduceEqDiff, Nat.reduceAdd, Nat.reduceLeDiff, Nat.reducePow, Nat.reduceDiv, Nat.reduceMod, decide_true, q0, q3, q11, q12, q13, decide_eq_false c7, Bool.not_false]
              exact ⟨hd6, up0 hx7⟩
  · simp only [go_sem, reduceIte, Nat.reduceEqDiff, Nat.reduceAdd, Nat.reduceLeDiff, Nat.reducePow, Nat.reduceDiv, Nat.reduceMod, decide_true, decide_eq_false cm, Bool.not_false]
    rw [if_pos (.inl cm)]
    exact ⟨rfl, hx, Ext.refl _ _⟩

end Glb

/-
  Layer 8: the document's pieces, as they are read.
-/
namespace Glb
open Go
set_option maxRecDepth 10000
set_option maxHeartbeats 8000000

def isK (b : List Int) (e : Int) (k : Nat) : Option (Bool × List Int) := (pc b k).bind fun x => if x.1 = e then some (x.2.1, x.2.2) else none
theorem head_parts (e : Int) (k : Nat) (l : Bool) : (pieceB e k l []).take 8 = num e ∧ ((pieceB e k l []).drop 8).take 8 = num 0 ∧ (pieceB e k l []).drop 16 = num (2 * k + if l then 1 else 0) := by
  have e2 : (pieceB e k l []).drop 8 = num 0 ++ (num (2 * k + if l then 1 else 0) ++ []) := List.drop_left' (num_length e)
  refine ⟨List.take_left' (num_length e), by rw [e2]; exact List.take_left' (num_length 0), ?_⟩
  rw [show (16 : Nat) = 8 + 8 from rfl, ← List.drop_drop, e2, List.drop_left' (num_length 0), List.append_nil]
theorem take24 {b : List Int} : b.take 24 = b.take 8 ++ ((b.drop 8).take 8 ++ (b.drop 16).take 8) := by
  rw [show b.drop 16 = (b.drop 8).drop 8 by rw [List.drop_drop], ← List.take_add, ← List.take_add]
theorem head_iff {b : List Int} (hb : bytesOk b) (hl : 24 ≤ b.length) {e : Int} (he : i64ok e) {k : Nat} (hk : k ≤ 1099511627776) (l : Bool) :
    b.take 24 = pieceB e k l [] ↔ valOf (b.take 8) = e ∧ valOf ((b.drop 8).take 8) = 0 ∧ valOf ((b.drop 16).take 8) = 2 * k + if l then 1 else 0 := by
  have hm : i64ok (2 * (k : Int) + if l then 1 else 0) := by unfold i64ok; split <;> omega
  obtain ⟨p1, p2, p3⟩ := head_parts e k l
  constructor
  · intro h
    have h1 : b.take 8 = num e := by rw [← p1, ← h, List.take_take]; rfl
    have h2 : (b.drop 8).take 8 = num 0 := by
      rw [← p2, ← h, List.drop_take, List.take_take]; rfl
    have h3 : (b.drop 16).take 8 = num (2 * k + if l then 1 else 0) := by
      rw [← p3, ← h, List.drop_take]
    rw [h1, h2, h3, valOf_num he, valOf_num hm, valOf_num (by unfold i64ok; omega)]
    exact ⟨rfl, rfl, rfl⟩
  · rintro ⟨h1, h2, h3⟩
    have g1 := (num_valOf (l := b.take 8) (by simp; omega) (hb.take 8)).1
    have g2 := (num_valOf (l := (b.drop 8).take 8) (by simp; omega) ((hb.drop 8).take 8)).1
    have g3 := (num_valOf (l := (b.drop 16).take 8) (by simp; omega) ((hb.drop 16).take 8)).1
    rw [take24, ← g1, ← g2, ← g3, h1, h2, h3]
    simp [pieceB]
theorem isK_eq {b : List Int} (hb : bytesOk b) (hl : 24 ≤ b.length) {e : Int} (he : i64ok e) {k : Nat} (hk : k ≤ 1099511627776) :
    isK b e k = if b.length = 64 ∧ b.take 24 = pieceB e k false [] then some (false, b.drop 24) else if b.take 24 = pieceB e k true [] then some (true, b.drop 24) else none := by
  simp only [head_iff hb hl he hk]
  unfold isK pc
  simp only [Bool.false_eq_true, if_false, if_true, Int.add_zero, List.length_drop]
  generalize valOf (b.take 8) = ep
  generalize valOf ((b.drop 8).take 8) = nu
  generalize valOf ((b.drop 16).take 8) = mk
  have ht : 0 ≤ mk → (mk.tdiv 2 = k ↔ mk = 2 * k ∨ mk = 2 * k + 1) := fun h => by rw [Int.tdiv_eq_ediv_of_nonneg h]; omega
  by_cases c : 24 ≤ b.length ∧ nu = 0 ∧ 0 ≤ mk ∧ mk.tdiv 2 = k ∧ (mk % 2 = 1 ∨ b.length - 24 = 40)
  · rw [if_pos c]
    obtain ⟨c1, c2, c3, c4, c5⟩ := c
    rw [ht c3] at c4
    simp only [Option.bind_some]
    by_cases ce : ep = e
    · rw [if_pos ce]
      rcases c4 with c4 | c4
      · rw [if_pos ⟨by omega, ce, c2, c4⟩, decide_eq_false (by omega)]
      · rw [if_neg (fun x => by have := x.2.2.2; omega), if_pos ⟨ce, c2, c4⟩, decide_eq_true (by omega)]
    · rw [if_neg ce, if_neg (fun x => ce x.2.1), if_neg (fun x => ce x.1)]
  · rw [if_neg c]
    simp only [Option.bind_none]
    rw [if_neg, if_neg]
    · rintro ⟨x1, x2, x3⟩
      exact c ⟨hl, x2, by omega, (ht (by omega)).2 (.inr x3), .inl (by omega)⟩
    · rintro ⟨x0, x1, x2, x3⟩
      exact c ⟨hl, x2, by omega, (ht (by omega)).2 (.inl x3), .inr (by omega)⟩
theorem isK_short {b : List Int} (hl : b.length < 24) (e : Int) (k : Nat) : isK b e k = none := by
  unfold isK pc
  rw [if_neg (by omega)]; rfl

def XIsOk (P : Program) (f : FuncId) : Prop := isFn P f = true ∧ ∀ (h : AHeap) (b : List Int) (a : AV) (e : Int) (k : Nat), Rd nof [] (dBytes b) a → bytesOk b → b.length ≤ 64 → i64ok e → k ≤ 1099511627776 →
  ACalls P f [a, .int .i64 e, .int .i64 0, .int .i64 k] h fun r h' => (∃ c l ok, r = .tup [c, .bool l, .bool ok] ∧ (ok = true → ∃ p, isK b e k = some (l, p) ∧ Rd nof [] (dBytes p) c) ∧ (ok = false → isK b e k = none)) ∧ h' = h

theorem xis_ok {P : Program} {f g : FuncId} (hf : Is P f (c_gleberef08_Is g)) (hg : XPieceOk P g) : XIsOk P f := by
  refine ⟨hf.2, fun h b a e k ha hb hl he hk => fun_sound hf.1 (Nat.le_of_ble_eq_true rfl) ?_⟩
  show vc P (c_gleberef08_Is g).code ⟨[(0, a), (1, .int .i64 e), (2, .int .i64 0), (3, .int .i64 k)], [], h⟩ (atEnd (c_gleberef08_Is g).res _)
  have la := ha.bytes_len
  by_cases c0 : (b.length : Int) < 24
  · simp only [c_gleberef08_Is, go_sem, reduceIte, Nat.reduceEqDiff, Nat.reduceAdd, Nat.reduceLeDiff, Nat.reducePow, Nat.reduceDiv, Nat.reduceMod, decide_true, la, decide_eq_true c0]
    exact ⟨.nils, false, false, rfl, fun x => (by cases x), fun _ => isK_short (by omega) e k⟩
  · have c1 : ¬ 64 < (b.length : Int) := by omega
    simp only [c_gleberef08_Is, go_sem, reduceIte, Nat.reduceEqDiff, Nat.reduceAdd, Nat.reduceLeDiff, Nat.reducePow, Nat.reduceDiv, Nat.reduceMod, decide_true, la, decide_eq_false c0, decide_eq_false c1]
    have hK := isK_eq hb (by omega) he hk
    obtain ⟨c24, s24, r24⟩ := Rd.slice ha (lo := some 24) (hi := none) (mx := none) (by simp) (by simp; omega) (by simp) (by simp) (by simp) (by simp)
    simp only [Option.getD_some, Option.getD_none, Int.toNat_natCast, List.take_length] at r24
    have r24' : Rd nof [] (dBytes (b.drop 24)) c24 := by simpa [dBytes, List.map_drop] using r24
    obtain ⟨I, hI⟩ : ∃ I : Nat → Env → AHeap → Prop, ∀ m L h', I m L h' ↔ ∃ i : Nat, lk 0 L = a ∧ lk 1 L = .int .i64 e ∧ lk 2 L = .int .i64 0 ∧ lk 3 L = .int .i64 k ∧ lk 11 L = .int .i64 i ∧ h' = h ∧ i ≤ 2 ∧ (1 ≤ i → ¬ (b.length = 64 ∧ b.take 24 = pieceB e k false [])) ∧ (2 ≤ i → ¬ b.take 24 = pieceB e k true []) ∧ m = 2 - i := ⟨_, fun _ _ _ => Iff.rfl⟩
    refine vc_loop I 2 ((hI _ _ _).2 ⟨0, by simp [lk_ins, lk_cons], by simp [lk_ins, lk_cons], by simp [lk_ins, lk_cons], by simp [lk_ins, lk_cons], by simp [lk_ins], rfl, by omega, by omega, by omega, rfl⟩) ?_
    intro m L h' hh
    obtain ⟨i, q0, q1, q2, q3, q11, rfl, hi, hn0, hn1, rfl⟩ := (hI _ _ _).1 hh
    simp only [c_gleberef08_Is_l1, go_sem, reduceIte, Nat.reduceEqDiff, Nat.reduceAdd, Nat.reduceLeDiff, Nat.reducePow, Nat.reduceDiv, Nat.reduceMod, decide_true, q11]
    refine wCond_split (fun ci => ?_) (fun ci => ?_)
    · simp at ci
      have ei : IntKind.i64.wrap ((i : Int) + 1) = ((i + 1 : Nat) : Int) := by rw [wrap_i64 (by omega)]; omega
      obtain ⟨last, hlast⟩ : ∃ t, t = decide ((i : Int) = 1) := ⟨_, rfl⟩
      simp only [go_sem, reduceIte, Nat.reduceEqDiff, Nat.reduceAdd, Nat.reduceLeDiff, Nat.reducePow, Nat.reduceDiv, Nat.reduceMod, decide_true, q0, q1, q2, q3, q11]
      rw [← hlast]
      refine use1 hg.1 (hg.2 (fun _ => True) h' e k last [] .nils (nl_rd8 _) (by simp) (by omega)) ?_
      have hlh : (pieceB e k last []).length = 24 := by rw [pieceB_len]; rfl
      have hbh := pieceB_bytes bytesOk_nil e k last
      obtain ⟨hd, hhd⟩ : ∃ x, x = pieceB e k last [] := ⟨_, rfl⟩
      rw [← hhd] at hlh hbh ⊢
      have lhd := len_abytes hd
      have step : ∀ {j : Nat} (h1 : j < b.length) (h2 : j < hd.length), b.take (j + 1) = hd.take (j + 1) ↔ b.take j = hd.take j ∧ b[j] = hd[j] := fun {j} h1 h2 => by
        rw [List.take_succ_eq_append_getElem h1, List.take_succ_eq_append_getElem h2]
        constructor
        · intro x
          have := List.append_inj x (by simp; omega)
          exact ⟨this.1, by simpa using this.2⟩
        · rintro ⟨x, y⟩; rw [x, y]
      have hin : i = 0 ∨ i = 1 := by omega
      rcases hin with rfl | rfl
      · have dl : decide ((((0 : Nat) : Int)) = 1) = false := rfl
        have d64 : decide ((b.length : Int) = 64) = decide (b.length = 64) := by rw [decide_eq_decide]; omega
        obtain ⟨t0, ht0⟩ : ∃ t, t = (decide (b.length = 64) : Bool) := ⟨_, rfl⟩
        simp only [go_sem, reduceIte, Nat.reduceEqDiff, Nat.reduceAdd, Nat.reduceLeDiff, Nat.reducePow, Nat.reduceDiv, Nat.reduceMod, decide_true, q0, q1, q2, q3, q11, la, dl, d64]
        rw [← ht0]
        rw [dl] at hlast
        subst hlast
        obtain ⟨J, hJ⟩ : ∃ J : Nat → Env → AHeap → Prop, ∀ m L h, J m L h ↔ ∃ (j : Nat) (t : Bool), lk 0 L = a ∧ lk 1 L = .int .i64 e ∧ lk 2 L = .int .i64 0 ∧ lk 3 L = .int .i64 k ∧ lk 11 L = .int .i64 (0 : Nat) ∧ lk 12 L = abytes hd ∧ lk 13 L = .bool t ∧ lk 14 L = .int .i64 j ∧ h = h' ∧ (t = true ↔ t0 = true ∧ b.take j = hd.take j) ∧ j ≤ 24 ∧ m = 24 - j := ⟨_, fun _ _ _ => Iff.rfl⟩
        refine vc_loop J 24 ((hJ _ _ _).2 ⟨0, t0, by simp [lk_ins, q0], by simp [lk_ins, q1], by simp [lk_ins, q2], by simp [lk_ins, q3], by simp [lk_ins, q11], by simp [lk_ins], by simp [lk_ins, ht0], by simp [lk_ins], rfl, by simp, by omega, rfl⟩) ?_
        clear q0 q1 q2 q3 q11
        intro m L1 h1 hh
        obtain ⟨j, t, q0, q1, q2, q3, q11, q12, q13, q14, rfl, ht, hj, rfl⟩ := (hJ _ _ _).1 hh
        simp only [c_gleberef08_Is_l0, go_sem, reduceIte, Nat.reduceEqDiff, Nat.reduceAdd, Nat.reduceLeDiff, Nat.reducePow, Nat.reduceDiv, Nat.reduceMod, decide_true, q14]
        refine wCond_split (fun cj => ?_) (fun cj => ?_)
        · simp at cj
          have ej : IntKind.i64.wrap ((j : Int) + 1) = ((j + 1 : Nat) : Int) := by rw [wrap_i64 (by omega)]; omega
          obtain ⟨p1, f1, f2⟩ := (Rd.nof (h' := h1) ha).byte_at (i := j) (by omega)
          obtain ⟨p2, f3, f4⟩ := (rd_abytes nof h1 hd).byte_at (i := j) (by omega)
          have hst := step (j := j) (by omega) (by omega)
          cases t with
          | false =>
            simp only [go_sem, reduceIte, Nat.reduceEqDiff, Nat.reduceAdd, Nat.reduceLeDiff, Nat.reducePow, Nat.reduceDiv, Nat.reduceMod, decide_true, q0, q1, q2, q3, q11, q12, q13, q14, ej]
            exact ⟨_, by omega, (hJ _ _ _).2 ⟨j + 1, false, by simp [lk_ins, q0], by simp [lk_ins, q1], by simp [lk_ins, q2], by simp [lk_ins, q3], by simp [lk_ins, q11], by simp [lk_ins, q12], by simp [lk_ins], by simp [lk_ins], rfl, by rw [hst]; exact ⟨fun x => (by cases x), fun x => ht.2 ⟨x.1, x.2.1⟩⟩, by omega, rfl⟩⟩
          | true =>
            simp only [go_sem, reduceIte, Nat.reduceEqDiff, Nat.reduceAdd, Nat.reduceLeDiff, Nat.reducePow, Nat.reduceDiv, Nat.reduceMod, decide_true, q0, q1, q2, q3, q11, q12, q13, q14, ej, f1, f2, f3, f4]
            exact ⟨_, by omega, (hJ _ _ _).2 ⟨j + 1, decide (b[j]'(by omega) = hd[j]'(by omega)), by simp [lk_ins, q0], by simp [lk_ins, q1], by simp [lk_ins, q2], by simp [lk_ins, q3], by simp [lk_ins, q11], by simp [lk_ins, q12], by simp [lk_ins], by simp [lk_ins], rfl, by
              rw [hst]
              have := ht.1 rfl
              exact ⟨fun x => ⟨this.1, this.2, of_decide_eq_true x⟩, fun x => decide_eq_true x.2.2⟩, by omega, rfl⟩⟩
        · simp at cj
          obtain rfl : j = 24 := by omega
          have eh : hd.take 24 = hd := List.take_of_length_le (by omega)
          rw [eh, hhd] at ht
          cases t with
          | false =>
            simp only [go_sem, reduceIte, Nat.reduceEqDiff, Nat.reduceAdd, Nat.reduceLeDiff, Nat.reducePow, Nat.reduceDiv, Nat.reduceMod, decide_true, q0, q1, q2, q3, q11, q12, q13, q14, ei]
            refine ⟨_, by omega, (hI _ _ _).2 ⟨0 + 1, by simp [lk_ins, q0], by simp [lk_ins, q1], by simp [lk_ins, q2], by simp [lk_ins, q3], by simp [lk_ins], rfl, by omega, ?_, ?_, rfl⟩⟩
            · first
              | exact fun _ => hn0 (by omega)
              | exact fun _ x => absurd (ht.2 ⟨by rw [ht0]; exact decide_eq_true x.1, x.2⟩) (by simp)
            · first
              | exact fun x => absurd x (by omega)
              | exact fun _ x => absurd (ht.2 ⟨ht0, x⟩) (by simp)
          | true =>
            have ht' := ht.1 rfl
            simp only [go_sem, reduceIte, Nat.reduceEqDiff, Nat.reduceAdd, Nat.reduceLeDiff, Nat.reducePow, Nat.reduceDiv, Nat.reduceMod, decide_true, q0, q1, q2, q3, q11, q12, q13, q14, s24, dl]
            refine ⟨c24, _, true, rfl, fun _ => ⟨b.drop 24, ?_, r24'⟩, fun x => by cases x⟩
            first
            | (rw [hK, if_neg (hn0 (by omega)), if_pos ht'.2]; done)
            | (rw [hK, if_pos ⟨of_decide_eq_true (ht0 ▸ ht'.1), ht'.2⟩]; done)
      · have dl : decide ((((1 : Nat) : Int)) = 1) = true := rfl
        have d64 : decide ((b.length : Int) = 64) = decide (b.length = 64) := by rw [decide_eq_decide]; omega
        obtain ⟨t0, ht0⟩ : ∃ t, t = (true : Bool) := ⟨_, rfl⟩
        simp only [go_sem, reduceIte, Nat.reduceEqDiff, Nat.reduceAdd, Nat.reduceLeDiff, Nat.reducePow, Nat.reduceDiv, Nat.reduceMod, decide_true, q0, q1, q2, q3, q11, la, dl, d64]
        skip
        rw [dl] at hlast
        subst hlast
        obtain ⟨J, hJ⟩ : ∃ J : Nat → Env → AHeap → Prop, ∀ m L h, J m L h ↔ ∃ (j : Nat) (t : Bool), lk 0 L = a ∧ lk 1 L = .int .i64 e ∧ lk 2 L = .int .i64 0 ∧ lk 3 L = .int .i64 k ∧ lk 11 L = .int .i64 (1 : Nat) ∧ lk 12 L = abytes hd ∧ lk 13 L = .bool t ∧ lk 14 L = .int .i64 j ∧ h = h' ∧ (t = true ↔ t0 = true ∧ b.take j = hd.take j) ∧ j ≤ 24 ∧ m = 24 - j := ⟨_, fun _ _ _ => Iff.rfl⟩
        refine vc_loop J 24 ((hJ _ _ _).2 ⟨0, t0, by simp [lk_ins, q0], by simp [lk_ins, q1], by simp [lk_ins, q2], by simp [lk_ins, q3], by simp [lk_ins, q11], by simp [lk_ins], by simp [lk_ins, ht0], by simp [lk_ins], rfl, by simp, by omega, rfl⟩) ?_
        clear q0 q1 q2 q3 q11
        intro m L1 h1 hh
        obtain ⟨j, t, q0, q1, q2, q3, q11, q12, q13, q14, rfl, ht, hj, rfl⟩ := (hJ _ _ _).1 hh
        simp only [c_gleberef08_Is_l0, go_sem, reduceIte, Nat.reduceEqDiff, Nat.reduceAdd, Nat.reduceLeDiff, Nat.reducePow, Nat.reduceDiv, Nat.reduceMod, decide_true, q14]
        refine wCond_split (fun cj => ?_) (fun cj => ?_)
        · simp at cj
          have ej : IntKind.i64.wrap ((j : Int) + 1) = ((j + 1 : Nat) : Int) := by rw [wrap_i64 (by omega)]; omega
          obtain ⟨p1, f1, f2⟩ := (Rd.nof (h' := h1) ha).byte_at (i := j) (by omega)
          obtain ⟨p2, f3, f4⟩ := (rd_abytes nof h1 hd).byte_at (i := j) (by omega)
          have hst := step (j := j) (by omega) (by omega)
          cases t with
          | false =>
            simp only [go_sem, reduceIte, Nat.reduceEqDiff, Nat.reduceAdd, Nat.reduceLeDiff, Nat.reducePow, Nat.reduceDiv, Nat.reduceMod, decide_true, q0, q1, q2, q3, q11, q12, q13, q14, ej]
            exact ⟨_, by omega, (hJ _ _ _).2 ⟨j + 1, false, by simp [lk_ins, q0], by simp [lk_ins, q1], by simp [lk_ins, q2], by simp [lk_ins, q3], by simp [lk_ins, q11], by simp [lk_ins, q12], by simp [lk_ins], by simp [lk_ins], rfl, by rw [hst]; exact ⟨fun x => (by cases x), fun x => ht.2 ⟨x.1, x.2.1⟩⟩, by omega, rfl⟩⟩
          | true =>
            simp only [go_sem, reduceIte, Nat.reduceEqDiff, Nat.reduceAdd, Nat.reduceLeDiff, Nat.reducePow, Nat.reduceDiv, Nat.reduceMod, decide_true, q0, q1, q2, q3, q11, q12, q13, q14, ej, f1, f2, f3, f4]
            exact ⟨_, by omega, (hJ _ _ _).2 ⟨j + 1, decide (b[j]'(by omega) = hd[j]'(by omega)), by simp [lk_ins, q0], by simp [lk_ins, q1], by simp [lk_ins, q2], by simp [lk_ins, q3], by simp [lk_ins, q11], by simp [lk_ins, q12], by simp [lk_ins], by simp [lk_ins], rfl, by
              rw [hst]
              have := ht.1 rfl
              exact ⟨fun x => ⟨this.1, this.2, of_decide_eq_true x⟩, fun x => decide_eq_true x.2.2⟩, by omega, rfl⟩⟩
        · simp at cj
          obtain rfl : j = 24 := by omega
          have eh : hd.take 24 = hd := List.take_of_length_le (by omega)
          rw [eh, hhd] at ht
          cases t with
          | false =>
            simp only [go_sem, reduceIte, Nat.reduceEqDiff, Nat.reduceAdd, Nat.reduceLeDiff, Nat.reducePow, Nat.reduceDiv, Nat.reduceMod, decide_true, q0, q1, q2, q3, q11, q12, q13, q14, ei]
            refine ⟨_, by omega, (hI _ _ _).2 ⟨1 + 1, by simp [lk_ins, q0], by simp [lk_ins, q1], by simp [lk_ins, q2], by simp [lk_ins, q3], by simp [lk_ins], rfl, by omega, ?_, ?_, rfl⟩⟩
            · first
              | exact fun _ => hn0 (by omega)
              | exact fun _ x => absurd (ht.2 ⟨by rw [ht0]; exact decide_eq_true x.1, x.2⟩) (by simp)
            · first
              | exact fun x => absurd x (by omega)
              | exact fun _ x => absurd (ht.2 ⟨ht0, x⟩) (by simp)
          | true =>
            have ht' := ht.1 rfl
            simp only [go_sem, reduceIte, Nat.reduceEqDiff, Nat.reduceAdd, Nat.reduceLeDiff, Nat.reducePow, Nat.reduceDiv, Nat.reduceMod, decide_true, q0, q1, q2, q3, q11, q12, q13, q14, s24, dl]
            refine ⟨c24, _, true, rfl, fun _ => ⟨b.drop 24, ?_, r24'⟩, fun x => by cases x⟩
            first
            | (rw [hK, if_neg (hn0 (by omega)), if_pos ht'.2]; done)
            | (rw [hK, if_pos ⟨of_decide_eq_true (ht0 ▸ ht'.1), ht'.2⟩]; done)
    · simp at ci
      simp only [go_sem, reduceIte, Nat.reduceEqDiff, Nat.reduceAdd, Nat.reduceLeDiff, Nat.reducePow, Nat.reduceDiv, Nat.reduceMod, decide_true]
      have h2 : i = 2 := by omega
      subst h2
      exact ⟨.nils, false, false, rfl, fun x => (by cases x), fun _ => by rw [hK, if_neg (hn0 (by omega)), if_neg (hn1 (by omega))]⟩

end Glb

/-
  Layer 8: the document's slots.
-/
namespace Glb
open Go
set_option maxRecDepth 10000
set_option maxHeartbeats 8000000

theorem pc_epoch {b q : List Int} {k : Nat} {e : Int} {l : Bool} (h : pc b k = some (e, l, q)) : e = valOf (b.take 8) ∧ 24 ≤ b.length := by
  unfold pc at h
  split at h
  · rename_i c
    simp only [Option.some.injEq, Prod.mk.injEq] at h
    exact ⟨h.1.symm, c.1⟩
  · cases h
def XWholeOk (P : Program) (f : FuncId) : Prop := isFn P f = true ∧ ∀ (h : AHeap) (q : Nat) (x : Dk) (i : Int) (n : Nat) (s : Int), RefAt h q x → x.bts → 1 ≤ n → n ≤ 16384 → 0 ≤ i ∧ i ≤ 16384 → s = 0 ∨ s = 1 →
  ACalls P f [.ptr q 5 0 0, .int .i64 i, .int .i64 n, .int .i64 s] h fun r h' => r = .tup [abytes (whole (x.slot i) n s).1, .int .i64 (whole (x.slot i) n s).2] ∧ h' = h
def XLoadOk (P : Program) (f : FuncId) : Prop := isFn P f = true ∧ ∀ (h : AHeap) (q : Nat) (x : Dk) (a n : Int), RefAt h q x → x.bts →
  ACalls P f [.ptr q 5 0 0, .int .i64 a, .int .i64 n] h fun r h' => r = .tup [abytes (x.load a n).1, .int .i64 (x.load a n).2.1, .int .i64 (x.load a n).2.2] ∧ h' = h

theorem xwhole_ok {P : Program} {f g1 g2 g3 g4 : FuncId} (hf : Is P f (c_gleberef08_Whole g1 g2 g3 g4)) (h1 : XReadOk P g1) (h2 : ReadRR P g2) (h3 : IntRR P g3) (h4 : XIsOk P g4) : XWholeOk P f := by
  refine ⟨hf.2, fun h q x i n s hx hb hn hn2 hi hs => ACalls.freeze (K := fun r h' => (∃ a, r = .tup [a, .int .i64 (whole (x.slot i) n s).2] ∧ Own (dBytes (whole (x.slot i) n s).1) (fun m => h.length ≤ m) h' a) ∧ Ext nof h h') (fun_sound hf.1 (Nat.le_of_ble_eq_true rfl) ?_) (fun r _ ⟨⟨a, e, ho⟩, hX⟩ => ⟨hX, _, e ▸ Frz.tup2 (Frz.d (Own.fz (dBytes _) (fun _ x => x) _ ho)) (Frz.int _ _), rfl⟩)⟩
  show vc P (c_gleberef08_Whole g1 g2 g3 g4).code ⟨[(0, .ptr q 5 0 0), (1, .int .i64 i), (2, .int .i64 n), (3, .int .i64 s)], [], h⟩ (atEnd (c_gleberef08_Whole g1 g2 g3 g4).res _)
  have nul : ∀ {h' : AHeap}, Ext nof h h' → whole (x.slot i) n s = ([], 0) → (∃ a, AV.tup [.nils, .int .i64 0] = .tup [a, .int .i64 (whole (x.slot i) n s).2] ∧ Own (dBytes (whole (x.slot i) n s).1) (fun m => h.length ≤ m) h' a) ∧ Ext nof h h' := fun hX e => by rw [e]; exact ⟨⟨_, rfl, Own.nils 1⟩, hX⟩
  have gr : ∀ y : Int, abin .rem (.int .i64 y) (.int .i64 2) = some (.int .i64 (y.tmod 2)) := fun _ => rfl
  have hsl : ∀ k : Nat, x.slot i k = if (x.read (i + k)).2 = 0 then pc (x.read (i + k)).1 k else none := fun _ => rfl
  have i0 : i + (0 : Nat) = i := by simp
  simp only [c_gleberef08_Whole, go_sem, reduceIte, Nat.reduceEqDiff, Nat.reduceAdd, Nat.reduceLeDiff, Nat.reducePow, Nat.reduceDiv, Nat.reduceMod, decide_true]
  refine wCall_use ⟨h1.1, h1.2 h q x i hx⟩ ?_
  rintro _ h9 ⟨⟨a, rfl, ha⟩, rfl⟩
  have hB := Dk.read_bytes hb i
  have hL := Dk.read_len8 hx.ok i
  have hs0 := hsl 0
  rw [i0] at hs0
  generalize (x.read i).1 = b at *
  generalize (x.read i).2 = er at *
  by_cases c0 : er = 0
  · rw [if_pos c0] at hs0
    simp only [go_sem, reduceIte, Nat.reduceEqDiff, Nat.reduceAdd, Nat.reduceLeDiff, Nat.reducePow, Nat.reduceDiv, Nat.reduceMod, decide_true, decide_eq_true c0, Bool.not_true]
    refine wCall_use ⟨h2.1, h2.2 nof h9 b a (ha h9) hB (by omega)⟩ ?_
    rintro _ H ⟨rfl, hr, hX⟩
    simp only [go_sem, reduceIte, Nat.reduceEqDiff, Nat.reduceAdd, Nat.reduceLeDiff, Nat.reducePow, Nat.reduceDiv, Nat.reduceMod, decide_true]
    refine wCall_use ⟨h3.1, h3.2 _ H h9.length _ hr (by omega)⟩ ?_
    rintro _ H2 ⟨rfl, hr2, hX2⟩
    have hXX : Ext nof h9 H2 := hX.then hX2 (fun m hm hm' => by unfold only at hm'; omega)
    have hep : i64ok (rInt (some b)).1 ∧ (24 ≤ b.length → (rInt (some b)).1 = valOf (b.take 8)) := by
      by_cases c : b.length < 8
      · rw [rInt_short c]; exact ⟨by unfold i64ok; simp, fun y => by omega⟩
      · rw [rInt_some (by omega)]; exact ⟨(num_valOf (l := b.take 8) (by simp; omega) (hB.take 8)).2, fun _ => rfl⟩
    clear hr hr2
    generalize (rInt (some b)).1 = ep at *
    have hnf : ¬ fitE ep s → whole (x.slot i) n s = ([], 0) := fun hne => by
      unfold whole
      rw [hs0]
      cases hp : pc b 0 with
      | none => rfl
      | some y =>
        obtain ⟨e', l, p⟩ := y
        obtain ⟨y1, y2⟩ := pc_epoch hp
        simp only
        rw [if_neg]
        rw [y1, ← hep.2 y2]; exact hne
    have hft : fitE ep s → whole (x.slot i) n s = collect (x.slot i) ep n 0 [] := fun hfe => by
      unfold whole
      rw [hs0]
      cases hp : pc b 0 with
      | none =>
        rw [show n = (n - 1) + 1 by omega]
        simp only [collect, hs0, hp]
      | some y =>
        obtain ⟨e', l, p⟩ := y
        obtain ⟨y1, y2⟩ := pc_epoch hp
        obtain rfl : e' = ep := by rw [y1, ← hep.2 y2]
        simp only
        rw [if_pos hfe]
    simp only [go_sem, reduceIte, Nat.reduceEqDiff, Nat.reduceAdd, Nat.reduceLeDiff, Nat.reducePow, Nat.reduceDiv, Nat.reduceMod, decide_true]
    by_cases c1 : ep < 1
    · simp only [go_sem, reduceIte, Nat.reduceEqDiff, Nat.reduceAdd, Nat.reduceLeDiff, Nat.reducePow, Nat.reduceDiv, Nat.reduceMod, decide_true, decide_eq_true c1]
      exact nul hXX (hnf fun y => by have := y.1; omega)
    by_cases c2 : 1099511627776 < ep
    · simp only [go_sem, reduceIte, Nat.reduceEqDiff, Nat.reduceAdd, Nat.reduceLeDiff, Nat.reducePow, Nat.reduceDiv, Nat.reduceMod, decide_true, decide_eq_false c1, decide_eq_true c2]
      exact nul hXX (hnf fun y => by have := y.2.1; unfold maxNo at this; omega)
    have em : ep.tmod 2 = ep % 2 := Int.tmod_eq_emod_of_nonneg (by omega)
    by_cases c3 : ep % 2 = s
    · have hfe : fitE ep s := ⟨by omega, by unfold maxNo; omega, c3⟩
      have hW := hft hfe
      simp only [go_sem, reduceIte, Nat.reduceEqDiff, Nat.reduceAdd, Nat.reduceLeDiff, Nat.reducePow, Nat.reduceDiv, Nat.reduceMod, decide_true, decide_eq_false c1, decide_eq_false c2, gr, em, decide_eq_true c3, Bool.not_true]
      obtain ⟨I, hI⟩ : ∃ I : Nat → Env → AHeap → Prop, ∀ m L h', I m L h' ↔ ∃ (k : Nat) (o : AV) (out : List Int), lk 0 L = .ptr q 5 0 0 ∧ lk 1 L = .int .i64 i ∧ lk 2 L = .int .i64 n ∧ lk 12 L = .int .i64 ep ∧ lk 13 L = o ∧ lk 14 L = .int .i64 k ∧
          Own (dBytes out) (fun m => h9.length ≤ m) h' o ∧ canApp h' o ∧ Ext nof h9 h' ∧ out.length ≤ 64 * k ∧ whole (x.slot i) n s = collect (x.slot i) ep (n - k) k out ∧ k ≤ n ∧ m = n - k := ⟨_, fun _ _ _ => Iff.rfl⟩
      refine vc_loop I n ((hI _ _ _).2 ⟨0, .nils, [], by simp [lk_ins, lk_cons], by simp [lk_ins, lk_cons], by simp [lk_ins, lk_cons], by simp [lk_ins, lk_cons], by simp [lk_ins, lk_cons], by simp [lk_ins, lk_cons], Own.nils 1, trivial, hXX, by simp, hW, by omega, rfl⟩) ?_
      intro m L H hh
      obtain ⟨k, o, out, q0, q1, q2, q12, q13, q14, ho, hc, hxk, hlo, hw, hk, rfl⟩ := (hI _ _ _).1 hh
      simp only [c_gleberef08_Whole_l0, go_sem, reduceIte, Nat.reduceEqDiff, Nat.reduceAdd, Nat.reduceLeDiff, Nat.reducePow, Nat.reduceDiv, Nat.reduceMod, decide_true, q2, q14]
      refine wCond_split (fun ck => ?_) (fun ck => ?_)
      · simp at ck
        have e1 : IntKind.i64.wrap (i + k) = i + k := wrap_i64 (by omega)
        have e2 : IntKind.i64.wrap ((k : Int) + 1) = ((k + 1 : Nat) : Int) := by rw [wrap_i64 (by omega)]; omega
        have hxH : RefAt H q x := hx.up (hxk.2 _ hx.lt (fun y => y))
        simp only [go_sem, reduceIte, Nat.reduceEqDiff, Nat.reduceAdd, Nat.reduceLeDiff, Nat.reducePow, Nat.reduceDiv, Nat.reduceMod, decide_true, q0, q1, q2, q12, q13, q14, e1]
        refine wCall_use ⟨h1.1, h1.2 H q x (i + k) hxH⟩ ?_
        rintro _ h8 ⟨⟨a2, rfl, ha2⟩, rfl⟩
        have hB2 := Dk.read_bytes hb (i + k)
        have hL2 := Dk.read_len8 hx.ok (i + k)
        have hsk := hsl k
        generalize (x.read (i + k)).1 = b2 at *
        generalize (x.read (i + k)).2 = er2 at *
        simp only [go_sem, reduceIte, Nat.reduceEqDiff, Nat.reduceAdd, Nat.reduceLeDiff, Nat.reducePow, Nat.reduceDiv, Nat.reduceMod, decide_true, q0, q1, q2, q12, q13, q14]
        refine wCall_use ⟨h4.1, h4.2 h8 b2 a2 ep k (ha2 []) hB2 hL2 hep.1 (by omega)⟩ ?_
        rintro _ h7 ⟨⟨c, l, ok, rfl, hok, hno⟩, rfl⟩
        have hcol : collect (x.slot i) ep (n - k) k out = match (if er2 = 0 then isK b2 ep k else none) with | none => ([], 0) | some (l, p) => if l then (out ++ p, ep) else collect (x.slot i) ep (n - (k + 1)) (k + 1) (out ++ p) := by
          rw [show n - k = (n - (k + 1)) + 1 by omega]
          simp only [collect, hsk]
          by_cases cz : er2 = 0
          · rw [if_pos cz, if_pos cz]
            unfold isK
            cases pc b2 k with
            | none => rfl
            | some y =>
              obtain ⟨e', l', p'⟩ := y
              simp only [Option.bind_some]
              by_cases ce : e' = ep
              · rw [if_pos ce, if_pos ce]
              · rw [if_neg ce, if_neg ce]
          · rw [if_neg cz, if_neg cz]
        by_cases cz : er2 = 0
        · rw [if_pos cz] at hcol
          cases ok with
          | false =>
            rw [hno rfl] at hcol
            simp only [go_sem, reduceIte, Nat.reduceEqDiff, Nat.reduceAdd, Nat.reduceLeDiff, Nat.reducePow, Nat.reduceDiv, Nat.reduceMod, decide_true, q0, q1, q2, q12, q13, q14, decide_eq_true cz, Bool.not_true, Bool.not_false]
            exact nul hxk (hw.trans hcol)
          | true =>
            obtain ⟨p, hp, hcr⟩ := hok rfl
            rw [hp] at hcol
            simp only at hcol
            have hpl : p.length ≤ 64 := by
              unfold isK at hp
              cases hpc : pc b2 k with
              | none => rw [hpc] at hp; cases hp
              | some y =>
                rw [hpc] at hp
                simp only [Option.bind_some] at hp
                split at hp
                · cases hp
                  have := pc_len (e := y.1) (l := y.2.1) (q := y.2.2) hpc
                  omega
                · cases hp
            obtain ⟨ys, hys, hyr⟩ := (Rd.nof (h' := h7) hcr).elems
            obtain ⟨o', h', hap, ho', hc', he'⟩ := own_app (lo := h9.length) (sz := 1) (bytes := 1) ho hc (Ext.refl _ _) (own_ints1 hyr) hxk.1 (by simp; omega)
            have hap2 := aappend_of hys 1 o
            rw [hap] at hap2
            have ho2 : Own (dBytes (out ++ p)) (fun m => h9.length ≤ m) h' o' := by simpa [dBytes] using ho'
            have hx2 : Ext nof h9 h' := hxk.then he' (fun m hm hm' => by omega)
            cases l with
            | true =>
              simp only [go_sem, reduceIte, Nat.reduceEqDiff, Nat.reduceAdd, Nat.reduceLeDiff, Nat.reducePow, Nat.reduceDiv, Nat.reduceMod, decide_true, q0, q1, q2, q12, q13, q14, decide_eq_true cz, Bool.not_true, Bool.not_false, hap2]
              rw [hw.trans hcol]
              exact ⟨⟨_, rfl, ho2⟩, hx2⟩
            | false =>
              simp only [go_sem, reduceIte, Nat.reduceEqDiff, Nat.reduceAdd, Nat.reduceLeDiff, Nat.reducePow, Nat.reduceDiv, Nat.reduceMod, decide_true, q0, q1, q2, q12, q13, q14, decide_eq_true cz, Bool.not_true, Bool.not_false, hap2, e2]
              exact ⟨_, by omega, (hI _ _ _).2 ⟨k + 1, o', out ++ p, by simp [lk_ins, q0], by simp [lk_ins, q1], by simp [lk_ins, q2], by simp [lk_ins, q12], by simp [lk_ins], by simp [lk_ins], ho2, hc', hx2, by simp; omega, by rw [hw, hcol]; rfl, by omega, rfl⟩⟩
        · rw [if_neg cz] at hcol
          simp only [go_sem, reduceIte, Nat.reduceEqDiff, Nat.reduceAdd, Nat.reduceLeDiff, Nat.reducePow, Nat.reduceDiv, Nat.reduceMod, decide_true, q0, q1, q2, q12, q13, q14, decide_eq_false cz, Bool.not_true, Bool.not_false]
          exact nul hxk (hw.trans hcol)
      · simp at ck
        obtain rfl : k = n := by omega
        rw [Nat.sub_self] at hw
        simp only [go_sem, reduceIte, Nat.reduceEqDiff, Nat.reduceAdd, Nat.reduceLeDiff, Nat.reducePow, Nat.reduceDiv, Nat.reduceMod, decide_true]
        exact nul hxk hw
    · simp only [go_sem, reduceIte, Nat.reduceEqDiff, Nat.reduceAdd, Nat.reduceLeDiff, Nat.reducePow, Nat.reduceDiv, Nat.reduceMod, decide_true, decide_eq_false c1, decide_eq_false c2, gr, em, decide_eq_false c3, Bool.not_false]
      exact nul hXX (hnf fun y => c3 y.2.2)
  · rw [if_neg c0] at hs0
    simp only [go_sem, reduceIte, Nat.reduceEqDiff, Nat.reduceAdd, Nat.reduceLeDiff, Nat.reducePow, Nat.reduceDiv, Nat.reduceMod, decide_true, decide_eq_false c0, Bool.not_false]
    exact nul (Ext.refl _ _) (by unfold whole; rw [hs0])

theorem xload_ok {P : Program} {f g k : FuncId} (hf : Is P f (c_gleberef08_Load g k)) (hg : XMayOk P g) (hk : XWholeOk P k) : XLoadOk P f := by
  refine ⟨hf.2, fun h q x a n hx hb => ACalls.freeze (K := fun r h' => (∃ o, r = .tup [o, .int .i64 (x.load a n).2.1, .int .i64 (x.load a n).2.2] ∧ (o = abytes (x.load a n).1 ∨ o = .nils ∧ (x.load a n).1 = [])) ∧ h' = h) (fun_sound hf.1 (Nat.le_of_ble_eq_true rfl) ?_) ?_⟩
  · show vc P (c_gleberef08_Load g k).code ⟨[(0, .ptr q 5 0 0), (1, .int .i64 a), (2, .int .i64 n)], [], h⟩ (atEnd (c_gleberef08_Load g k).res _)
    have hn := hx.ok.n
    simp only [c_gleberef08_Load, go_sem, reduceIte, Nat.reduceEqDiff, Nat.reduceAdd, Nat.reduceLeDiff, Nat.reducePow, Nat.reduceDiv, Nat.reduceMod, decide_true]
    refine use1 hg.1 (hg.2 h q x a n hx) ?_
    by_cases cm : x.may a n
    · have hl : x.load a n = if (whole (x.slot a) n.toNat 0).2 = 0 ∧ (whole (x.slot (a + n)) n.toNat 1).2 = 0 then ([], 0, 6) else if (whole (x.slot a) n.toNat 0).2 < (whole (x.slot (a + n)) n.toNat 1).2 then ((whole (x.slot (a + n)) n.toNat 1).1, (whole (x.slot (a + n)) n.toNat 1).2, 0) else ((whole (x.slot a) n.toNat 0).1, (whole (x.slot a) n.toNat 0).2, 0) := by
        unfold Dk.load; rw [if_neg (fun y => y cm)]
      obtain ⟨m1, m2, m3⟩ := cm
      have en : ((n.toNat : Nat) : Int) = n := by omega
      simp only [go_sem, reduceIte, Nat.reduceEqDiff, Nat.reduceAdd, Nat.reduceLeDiff, Nat.reducePow, Nat.reduceDiv, Nat.reduceMod, decide_true, decide_eq_true (show x.may a n from ⟨m1, m2, m3⟩), Bool.not_true]
      have k0 := hk.2 h q x a n.toNat 0 hx hb (by omega) (by omega) (by omega) (.inl rfl)
      have k1 := hk.2 h q x (a + n) n.toNat 1 hx hb (by omega) (by omega) (by omega) (.inr rfl)
      have w0 := whole_or (g := x.slot a) (n := n.toNat) (s := 0)
      have w1 := whole_or (g := x.slot (a + n)) (n := n.toNat) (s := 1)
      have par : (whole (x.slot a) n.toNat 0).2 = (whole (x.slot (a + n)) n.toNat 1).2 → (whole (x.slot a) n.toNat 0).2 = 0 ∧ (whole (x.slot (a + n)) n.toNat 1).2 = 0 := fun e => by
        rcases w0 with y | ⟨e0, _, _, _, y1, y2⟩
        · have : (whole (x.slot a) n.toNat 0).2 = 0 := by rw [y]
          omega
        · rcases w1 with z | ⟨e1, _, _, _, z1, z2⟩
          · have : (whole (x.slot (a + n)) n.toNat 1).2 = 0 := by rw [z]
            omega
          · have := y1.2.2; have := z1.2.2; omega
      rw [en] at k0 k1
      rw [hl]
      generalize whole (x.slot a) n.toNat 0 = X at *
      generalize whole (x.slot (a + n)) n.toNat 1 = Y at *
      have e3 : IntKind.i64.wrap (a + n) = a + n := wrap_i64 (by omega)
      refine use1 hk.1 k0 ?_
      simp only [go_sem, reduceIte, Nat.reduceEqDiff, Nat.reduceAdd, Nat.reduceLeDiff, Nat.reducePow, Nat.reduceDiv, Nat.reduceMod, decide_true, e3]
      refine use1 hk.1 k1 ?_
      by_cases c1 : X.2 = 0
      · by_cases c2 : Y.2 = 0
        · simp only [go_sem, reduceIte, Nat.reduceEqDiff, Nat.reduceAdd, Nat.reduceLeDiff, Nat.reducePow, Nat.reduceDiv, Nat.reduceMod, decide_true, decide_eq_true c1, decide_eq_true c2]
          rw [if_pos ⟨c1, c2⟩]
          exact ⟨.nils, rfl, .inr ⟨rfl, rfl⟩⟩
        · by_cases c3 : X.2 < Y.2
          · have c4 : ¬ Y.2 < X.2 := by omega
            simp only [go_sem, reduceIte, Nat.reduceEqDiff, Nat.reduceAdd, Nat.reduceLeDiff, Nat.reducePow, Nat.reduceDiv, Nat.reduceMod, decide_true, decide_eq_true c1, decide_eq_false c2, decide_eq_false c4]
            rw [if_neg (fun y => c2 y.2), if_pos c3]
            exact ⟨_, rfl, .inl rfl⟩
          · have c4 : Y.2 < X.2 := by
              by_cases c5 : X.2 = Y.2
              · exact absurd (par c5).2 c2
              · omega
            simp only [go_sem, reduceIte, Nat.reduceEqDiff, Nat.reduceAdd, Nat.reduceLeDiff, Nat.reducePow, Nat.reduceDiv, Nat.reduceMod, decide_true, decide_eq_true c1, decide_eq_false c2, decide_eq_true c4]
            rw [if_neg (fun y => c2 y.2), if_neg c3]
            exact ⟨_, rfl, .inl rfl⟩
      · by_cases c3 : X.2 < Y.2
        · have c4 : ¬ Y.2 < X.2 := by omega
          simp only [go_sem, reduceIte, Nat.reduceEqDiff, Nat.reduceAdd, Nat.reduceLeDiff, Nat.reducePow, Nat.reduceDiv, Nat.reduceMod, decide_true, decide_eq_false c1, decide_eq_false c4]
          rw [if_neg (fun y => c1 y.1), if_pos c3]
          exact ⟨_, rfl, .inl rfl⟩
        · have c4 : Y.2 < X.2 := by
            by_cases c5 : X.2 = Y.2
            · exact absurd (par c5).1 c1
            · omega
          simp only [go_sem, reduceIte, Nat.reduceEqDiff, Nat.reduceAdd, Nat.reduceLeDiff, Nat.reducePow, Nat.reduceDiv, Nat.reduceMod, decide_true, decide_eq_false c1, decide_eq_true c4]
          rw [if_neg (fun y => c1 y.1), if_neg c3]
          exact ⟨_, rfl, .inl rfl⟩
    · have hl : x.load a n = ([], 0, 3) := by unfold Dk.load; rw [if_pos cm]
      simp only [go_sem, reduceIte, Nat.reduceEqDiff, Nat.reduceAdd, Nat.reduceLeDiff, Nat.reducePow, Nat.reduceDiv, Nat.reduceMod, decide_true, decide_eq_false cm, Bool.not_false]
      rw [hl]
      exact ⟨.nils, rfl, .inr ⟨rfl, rfl⟩⟩
  · rintro r h' ⟨⟨o, rfl, ho⟩, rfl⟩
    refine ⟨Ext.refl _ _, _, Frz.tup3 ?_ (Frz.int _ _) (Frz.int _ _), rfl⟩
    rcases ho with rfl | ⟨rfl, e⟩
    · exact Frz.upto (upto_av _ _)
    · rw [e]; exact Frz.d (Own.fz (dBytes []) (fun _ x => x) _ (Own.nils (F := fun m => h'.length ≤ m) 1))

end Glb

/-
  Layer 8: what the law of any calls asks.
-/
namespace Glb
open Go
set_option maxRecDepth 10000
set_option maxHeartbeats 16000000

structure Op8 where
  kind : Int
  at' : Int
  n : Int
  epoch : Int
  data : List Int
  list : List Int
  deriving Inhabited
def Op8.c (o : Op8) : List D := [.int .i64 o.kind, .int .i64 o.at', .int .i64 o.n, .int .i64 o.epoch, dBytes o.data, dInts o.list]
def Op8.v (o : Op8) : List AV := D.avL o.c
theorem Op8.v_eq (o : Op8) : o.v = [.int .i64 o.kind, .int .i64 o.at', .int .i64 o.n, .int .i64 o.epoch, abytes o.data, aints o.list] := by simp only [Op8.v, Op8.c, D.avL, D.av]; rfl
def dOps8 (l : List Op8) : D := .sl 6 (l.map Op8.c)
def aops8 (l : List Op8) : AV := (dOps8 l).av
theorem len_aops8 (l : List Op8) : alen (aops8 l) = some (.int .i64 l.length) := by
  have : Rd nof [] (dOps8 l) (aops8 l) := rd_av _ _ _
  simpa using this.len
def Op8.few (o : Op8) : Prop := o.data.length ≤ 4096 ∧ o.list.length ≤ 1024
def Op8.R (o : Op8) : Prop := (-9223372036854775808 ≤ o.n ∧ o.n ≤ 9223372036854775807) ∧ bytesOk o.data
def Dk.op8 (d : Dk) (o : Op8) : Dk := if o.kind = 0 then (d.save o.at' o.n o.epoch o.data).1 else if o.kind = 1 then d.crash o.list else if o.kind = 2 then d.arm o.n else if o.kind = 3 then (d.write o.at' o.data).1.flush.1 else d
theorem Dk.op8_bts {d : Dk} (h : d.bts) {o : Op8} (ho : bytesOk o.data) : (d.op8 o).bts := by
  unfold Dk.op8
  split
  · exact Dk.save_bts h ho _ _ _
  · split
    · exact Dk.crash_bts h _
    · split
      · exact Dk.arm_bts h _
      · split
        · exact Dk.flush_bts (Dk.write_bts h _ ho)
        · exact h

def Long8Ok (P : Program) (f : FuncId) : Prop := isFn P f = true ∧ ∀ (h : AHeap) (l : List Op8),
  ACalls P f [aops8 l] h fun r h' => (∃ b, r = .bool b ∧ (b = false → l.length ≤ 100 ∧ ∀ o ∈ l, o.few)) ∧ h' = h
theorem long8_ok {P : Program} {f : FuncId} (hf : Is P f c_glebelaw08_long) : Long8Ok P f := by
  refine ⟨hf.2, fun h l => fun_sound hf.1 (Nat.le_of_ble_eq_true rfl) ?_⟩
  show vc P c_glebelaw08_long.code ⟨[(0, aops8 l)], [], h⟩ (atEnd c_glebelaw08_long.res _)
  by_cases c0 : 100 < (l.length : Int)
  · simp only [c_glebelaw08_long, go_sem, reduceIte, Nat.reduceEqDiff, Nat.reduceAdd, Nat.reduceLeDiff, Nat.reducePow, Nat.reduceDiv, Nat.reduceMod, decide_true, len_aops8, decide_eq_true c0]
    exact ⟨true, rfl, fun x => by cases x⟩
  · simp only [c_glebelaw08_long, go_sem, reduceIte, Nat.reduceEqDiff, Nat.reduceAdd, Nat.reduceLeDiff, Nat.reducePow, Nat.reduceDiv, Nat.reduceMod, decide_true, len_aops8, decide_eq_false c0]
    obtain ⟨I, hI⟩ : ∃ I : Nat → Env → AHeap → Prop, ∀ m E h', I m E h' ↔ ∃ (i : Nat), lk 0 E = aops8 l ∧ lk 3 E = .int .i64 i ∧ h' = h ∧ (∀ j (hj : j < l.length), j < i → l[j].few) ∧ i ≤ l.length ∧ m = l.length - i := ⟨_, fun _ _ _ => Iff.rfl⟩
    refine vc_loop I l.length ((hI _ _ _).2 ⟨0, by simp [lk_ins, lk_cons], by simp [lk_ins], rfl, by omega, by omega, by omega⟩) ?_
    intro m E h' hh
    obtain ⟨i, k0, k3, rfl, hp, hi, rfl⟩ := (hI _ _ _).1 hh
    simp only [c_glebelaw08_long_l0, go_sem, reduceIte, Nat.reduceEqDiff, Nat.reduceAdd, Nat.reduceLeDiff, Nat.reducePow, Nat.reduceDiv, Nat.reduceMod, decide_true, k0, k3, len_aops8]
    refine wCond_split (fun ci => ?_) (fun ci => ?_)
    · simp at ci
      obtain ⟨p, hp1, hp2⟩ := index_av 6 Op8.c l .i64 ci
      change aindex 6 (aops8 l) _ = some p at hp1
      have e2 : IntKind.i64.wrap ((i : Int) + 1) = ((i + 1 : Nat) : Int) := by rw [wrap_i64 (by omega)]; omega
      have hf4 : l[i].few → ∀ j (hj : j < l.length), j < i + 1 → l[j].few := fun hfew j hj hji => by
        by_cases c : j = i
        · subst c; exact hfew
        · exact hp j hj (by omega)
      change ∀ h, pcells h p = some l[i].v at hp2
      have l4 : aload h' false 1 (poff 4 p) = some (abytes l[i].data) := by rw [aload_off (hp2 h'), Op8.v_eq]; rfl
      have l5 : aload h' false 1 (poff 5 p) = some (aints l[i].list) := by rw [aload_off (hp2 h'), Op8.v_eq]; rfl
      by_cases c1 : 4096 < (l[i].data.length : Int)
      · simp only [go_sem, reduceIte, Nat.reduceEqDiff, Nat.reduceAdd, Nat.reduceLeDiff, Nat.reducePow, Nat.reduceDiv, Nat.reduceMod, decide_true, k0, k3, hp1, afield_p (hp2 h'), l4, decide_eq_true c1]
        exact ⟨true, rfl, fun x => by cases x⟩
      · by_cases c2 : 1024 < (l[i].list.length : Int)
        · simp only [go_sem, reduceIte, Nat.reduceEqDiff, Nat.reduceAdd, Nat.reduceLeDiff, Nat.reducePow, Nat.reduceDiv, Nat.reduceMod, decide_true, k0, k3, hp1, afield_p (hp2 h'), l4, l5, decide_eq_false c1, decide_eq_true c2]
          exact ⟨true, rfl, fun x => by cases x⟩
        · simp only [go_sem, reduceIte, Nat.reduceEqDiff, Nat.reduceAdd, Nat.reduceLeDiff, Nat.reducePow, Nat.reduceDiv, Nat.reduceMod, decide_true, k0, k3, hp1, afield_p (hp2 h'), l4, l5, decide_eq_false c1, decide_eq_false c2, e2]
          exact ⟨_, by omega, (hI _ _ _).2 ⟨i + 1, by simp [lk_ins, k0], by simp [lk_ins], rfl, hf4 ⟨by omega, by omega⟩, ci, rfl⟩⟩
    · simp at ci
      simp only [go_sem, reduceIte, Nat.reduceEqDiff, Nat.reduceAdd, Nat.reduceLeDiff, Nat.reducePow, Nat.reduceDiv, Nat.reduceMod, decide_true, k0, k3]
      refine ⟨false, rfl, fun _ => ⟨by omega, fun x hx => ?_⟩⟩
      obtain ⟨j, hj, rfl⟩ := List.getElem_of_mem hx
      exact hp j hj (by omega)

def Loads8Ok (P : Program) (f : FuncId) : Prop := isFn P f = true ∧ ∀ (F : Nat → Prop) (h : AHeap) (p q : Nat) (d : Dk) (a n : Int), DiskAt F h p d → RefAt h q d → d.bts → (∀ m, F m → m < h.length) → (d.load a n).1.length ≤ 2^40 →
  ACalls P f [.ptr p 6 0 0, .ptr q 5 0 0, .int .i64 a, .int .i64 n] h fun r h' => r = .bool true ∧ h' = h
def Both8Ok (P : Program) (f : FuncId) : Prop := isFn P f = true ∧ ∀ (F : Nat → Prop) (h : AHeap) (p q : Nat) (d : Dk) (o : Op8), DiskAt F h p d → RefAt h q d → (∀ m, F m → m < h.length) → ¬ F q → o.few → o.R →
  ACalls P f [.ptr p 6 0 0, .ptr q 5 0 0, .agg o.v] h fun r h' => r = .bool true ∧ DiskAt F h' p (d.op8 o) ∧ RefAt h' q (d.op8 o) ∧ Ext (fun m => F m ∨ m = q) h h'

theorem loads8_ok {P : Program} {f fl xl fs fp : FuncId} (hf : Is P f (c_glebelaw08_loads fl xl fs fp)) (hl : LoadOk P fl) (hx : XLoadOk P xl) (hs : SameOk P fs .u8) (hp : SpoilOk P fp (.sl 1 [.int .u8])) : Loads8Ok P f := by
  refine ⟨hf.2, fun F h p q d a n da qa hb hF hlen => ACalls.freeze (K := fun r h' => r = .bool true ∧ Ext nof h h') (fun_sound hf.1 (Nat.le_of_ble_eq_true rfl) ?_) (fun r _ ⟨e, hx⟩ => ⟨hx, r, by rw [e]; exact Frz.bool _, e⟩)⟩
  show vc P (c_glebelaw08_loads fl xl fs fp).code ⟨[(0, .ptr p 6 0 0), (1, .ptr q 5 0 0), (2, .int .i64 a), (3, .int .i64 n)], [], h⟩ (atEnd (c_glebelaw08_loads fl xl fs fp).res _)
  simp only [c_glebelaw08_loads, go_sem, reduceIte, Nat.reduceEqDiff, Nat.reduceAdd, Nat.reduceLeDiff, Nat.reducePow, Nat.reduceDiv, Nat.reduceMod, decide_true]
  refine wCall_use ⟨hl.1, hl.2 F h p d a n da hb⟩ ?_
  rintro _ h1 ⟨⟨o1, rfl, w1⟩, x1⟩
  simp only [go_sem, reduceIte, Nat.reduceEqDiff, Nat.reduceAdd, Nat.reduceLeDiff, Nat.reducePow, Nat.reduceDiv, Nat.reduceMod, decide_true]
  refine use1 hl.p.1 (hl.p.2 F h1 p d a n (da.up x1) hb) ?_
  simp only [go_sem, reduceIte, Nat.reduceEqDiff, Nat.reduceAdd, Nat.reduceLeDiff, Nat.reducePow, Nat.reduceDiv, Nat.reduceMod, decide_true]
  refine use1 hx.1 (hx.2 h1 q d a n (qa.up (x1.2 _ qa.lt (fun y => y))) hb) ?_
  have ne : ∀ z : Int, (!decide (z = z)) = false := fun z => by simp
  generalize d.load a n = L at *
  obtain ⟨l, i, e⟩ := L
  simp only at w1 hlen
  simp only [go_sem, reduceIte, Nat.reduceEqDiff, Nat.reduceAdd, Nat.reduceLeDiff, Nat.reducePow, Nat.reduceDiv, Nat.reduceMod, decide_true, ne]
  refine use1 hs.1 (hs.2 (fun _ => True) h1 l l _ _ (Own.rd _ (fun _ _ => trivial) _ w1) (rd_abytes _ _ _) hlen) ?_
  simp only [go_sem, reduceIte, Nat.reduceEqDiff, Nat.reduceAdd, Nat.reduceLeDiff, Nat.reducePow, Nat.reduceDiv, Nat.reduceMod, decide_true]
  refine wCall_use ⟨hp.1, hp.2 _ h1 o1 (ownK_ty (by simpa using hlen) (Own.lt _ _ w1))⟩ ?_
  rintro _ h2 ⟨x2, -⟩
  simp only [go_sem, reduceIte, Nat.reduceEqDiff, Nat.reduceAdd, Nat.reduceLeDiff, Nat.reducePow, Nat.reduceDiv, Nat.reduceMod, decide_true]
  refine use1 hs.1 (hs.2 (fun _ => True) h2 l l _ _ (rd_abytes _ _ _) (rd_abytes _ _ _) hlen) ?_
  simp only [go_sem, reduceIte, Nat.reduceEqDiff, Nat.reduceAdd, Nat.reduceLeDiff, Nat.reducePow, Nat.reduceDiv, Nat.reduceMod, decide_true]
  exact x1.then x2 (fun m hm hm' => by omega)

theorem both8_ok {P : Program} {f lb fs xs kb sb fc xc fa xa fw xw ff xf : FuncId} (hf : Is P f (c_glebelaw08_both lb fs xs kb sb fc xc fa xa fw xw ff xf)) (hlb : LentBytesO P lb) (hs : SaveOk P fs) (hxs : XSaveOk P xs) (hkb : KeptBOk P kb) (hsb : SpoilOk P sb (.sl 1 [.int .u8]))
    (hc : CrashDOk P fc) (hxc : XCrashOk P xc) (ha : ArmOk P fa) (hxa : XArmOk P xa) (hw : WriteOk P fw) (hxw : XWriteOk P xw) (hff : FlushDOk P ff) (hxf : XFlushOk P xf) : Both8Ok P f := by
  refine ⟨hf.2, fun F h p q d o da qa hF hq hfew hR => fun_sound hf.1 (Nat.le_of_ble_eq_true rfl) ?_⟩
  show vc P (c_glebelaw08_both lb fs xs kb sb fc xc fa xa fw xw ff xf).code ⟨[(0, .ptr p 6 0 0), (1, .ptr q 5 0 0), (2, .agg o.v)], [], h⟩ (atEnd (c_glebelaw08_both lb fs xs kb sb fc xc fa xa fw xw ff xf).res _)
  obtain ⟨f1, f2⟩ := hfew
  have q0 := qa.lt
  rw [Op8.v_eq]
  simp only [c_glebelaw08_both, go_sem, reduceIte, Nat.reduceEqDiff, Nat.reduceAdd, Nat.reduceLeDiff, Nat.reducePow, Nat.reduceDiv, Nat.reduceMod, decide_true]
  obtain ⟨row, hrow⟩ : ∃ row, row = some (some (ABlk.arr 6 [[.int .i64 o.kind, .int .i64 o.at', .int .i64 o.n, .int .i64 o.epoch, abytes o.data, aints o.list]] false)) := ⟨_, rfl⟩
  have B := bx10 h (some (.arr 6 [[.int .i64 o.kind, .int .i64 o.at', .int .i64 o.n, .int .i64 o.epoch, abytes o.data, aints o.list]] false))
  have X := Ext.b1 (h := h) (some (.arr 6 [[.int .i64 o.kind, .int .i64 o.at', .int .i64 o.n, .int .i64 o.epoch, abytes o.data, aints o.list]] false))
  have hL : (h ++ [some (ABlk.arr 6 [[.int .i64 o.kind, .int .i64 o.at', .int .i64 o.n, .int .i64 o.epoch, abytes o.data, aints o.list]] false)]).length = h.length + 1 := by simp
  generalize h ++ [some (.arr 6 [[.int .i64 o.kind, .int .i64 o.at', .int .i64 o.n, .int .i64 o.epoch, abytes o.data, aints o.list]] false)] = H at *
  obtain ⟨n0, hn0⟩ : ∃ n, h.length = n := ⟨_, rfl⟩
  rw [hn0] at B hL ⊢
  have da1 := da.up X
  have qa1 := qa.off X (fun x => x)
  have hFH : ∀ m, F m → m < n0 := fun m hm => by have := hF m hm; omega
  have nF0 : ¬ F n0 := fun x => by have := hFH _ x; omega
  have nq : n0 ≠ q := by omega
  have ne : ∀ z : Int, (!decide (z = z)) = false := fun z => by simp
  have two : ∀ {h1 h2 h3 : AHeap}, Ext nof h h1 → Ext F h1 h2 → Ext (only q) h2 h3 → Ext (fun m => F m ∨ m = q) h h3 := fun {h1 h2 h3} e1 e2 e3 => by
    refine ⟨by have := e1.1; have := e2.1; have := e3.1; omega, fun m hm hn => ?_⟩
    have := e1.1; have := e2.1
    rw [e3.2 m (by omega) (fun x => hn (.inr x)), e2.2 m (by omega) (fun x => hn (.inl x)), e1.2 m hm (fun x => x)]
  unfold Dk.op8
  by_cases c0 : o.kind = 0
  · rw [if_pos c0]
    simp only [go_sem, reduceIte, Nat.reduceEqDiff, Nat.reduceAdd, Nat.reduceLeDiff, Nat.reducePow, Nat.reduceDiv, Nat.reduceMod, decide_true, decide_eq_true c0, B]
    refine wCall_use ⟨hlb.1, hlb.2 o.data H (by omega)⟩ ?_
    rintro b h1 ⟨ob, x1⟩
    have B1 := x1.get B
    have rb : Rd (fun m => H.length ≤ m) h1 (dBytes (lentB o.data)) b := Own.rd _ (fun _ x => x) _ ob
    have ob' := Own.lt _ _ ob
    obtain ⟨c, hsl, hcr⟩ := Rd.slice rb (lo := none) (hi := some (o.data.length : Int)) (mx := none) (by simp) (by simp) (by simp [lentB]; omega) (by simp) (by simp [lentB]; omega) (by simp)
    have hc2 : Rd (fun m => H.length ≤ m) h1 (dBytes o.data) c := by
      have : (lentB o.data).take o.data.length = o.data := by simp [lentB]
      simpa [dBytes, ← List.map_take, this] using hcr
    simp only [go_sem, reduceIte, Nat.reduceEqDiff, Nat.reduceAdd, Nat.reduceLeDiff, Nat.reducePow, Nat.reduceDiv, Nat.reduceMod, decide_true, B1, aslc, hsl, len_abytes]
    refine wCall_use ⟨hs.1, hs.2 F (fun m => H.length ≤ m) h1 p d o.at' o.n o.epoch o.data c (da1.up x1) hc2 (fun m hm hm' => by have := hFH m hm'; omega) (fun m hm => by have := hFH m hm; have := x1.1; omega) (by omega)⟩ ?_
    rintro _ h2 ⟨rfl, d2, x2⟩
    have B2 : h2[n0]? = some (some (.arr 6 [[.int .i64 o.kind, .int .i64 o.at', .int .i64 o.n, .int .i64 o.epoch, abytes o.data, aints o.list]] false)) := by
      rw [x2.2 n0 (List.getElem?_eq_some_iff.1 B1).1 nF0]; exact B1
    have qa2 : RefAt h2 q d := (qa1.off x1 (fun x => x)).off x2 hq
    simp only [go_sem, reduceIte, Nat.reduceEqDiff, Nat.reduceAdd, Nat.reduceLeDiff, Nat.reducePow, Nat.reduceDiv, Nat.reduceMod, decide_true, B1, B2, aslc, hsl]
    refine wCall_use ⟨hxs.1, hxs.2 h2 q d o.at' o.n o.epoch o.data (abytes o.data) qa2 (rd_abytes _ _ _) (by omega)⟩ ?_
    rintro _ h3 ⟨rfl, q3, x3⟩
    have B3 : h3[n0]? = some (some (.arr 6 [[.int .i64 o.kind, .int .i64 o.at', .int .i64 o.n, .int .i64 o.epoch, abytes o.data, aints o.list]] false)) := by
      rw [x3.2 n0 (List.getElem?_eq_some_iff.1 B2).1 nq]; exact B2
    have ob3 : Own (dBytes (lentB o.data)) (fun m => H.length ≤ m ∧ m < h1.length) h3 b := by
      refine Own.mono _ (fun _ x => x) (fun m hm y hy => ?_) _ ob'
      have lm : m < h2.length := by have := x2.1; omega
      rw [x3.2 m lm (fun e => by subst e; omega), x2.2 m hm.2 (fun x => by have := hFH m x; omega)]; exact hy
    simp only [go_sem, reduceIte, Nat.reduceEqDiff, Nat.reduceAdd, Nat.reduceLeDiff, Nat.reducePow, Nat.reduceDiv, Nat.reduceMod, decide_true, B3, ne]
    refine use1 hkb.1 (hkb.2 (fun _ => True) h3 o.data b _ (Own.rd _ (fun _ _ => trivial) _ ob3) (rd_abytes _ _ _) (by omega)) ?_
    simp only [go_sem, reduceIte, Nat.reduceEqDiff, Nat.reduceAdd, Nat.reduceLeDiff, Nat.reducePow, Nat.reduceDiv, Nat.reduceMod, decide_true]
    refine wCall_use ⟨hsb.1, hsb.2 _ h3 b (ownK_ty (by simp [lentB]; omega) ob3)⟩ ?_
    rintro _ h4 ⟨x4, -⟩
    simp only [go_sem, reduceIte, Nat.reduceEqDiff, Nat.reduceAdd, Nat.reduceLeDiff, Nat.reducePow, Nat.reduceDiv, Nat.reduceMod, decide_true]
    refine ⟨(d2.off x3 fun m _ hm e => hq (e ▸ hm)).off x4 fun m _ hm hm' => ?_, q3.off x4 fun hm' => ?_, ?_⟩
    · have := hFH m hm; omega
    · omega
    · refine ⟨by have := X.1; have := x1.1; have := x2.1; have := x3.1; have := x4.1; omega, fun m hm hn => ?_⟩
      have n1 : ¬ F m := fun x => hn (.inl x)
      have n2 : m ≠ q := fun x => hn (.inr x)
      have := X.1; have := x1.1; have := x2.1; have := x3.1
      rw [x4.2 m (by omega) (fun x => by omega), x3.2 m (by omega) n2, x2.2 m (by omega) n1, x1.2 m (by omega) (fun x => x), X.2 m hm (fun x => x)]
  · rw [if_neg c0]
    have lB := (List.getElem?_eq_some_iff.1 B).1
    by_cases c1 : o.kind = 1
    · rw [if_pos c1]
      simp only [go_sem, reduceIte, Nat.reduceEqDiff, Nat.reduceAdd, Nat.reduceLeDiff, Nat.reducePow, Nat.reduceDiv, Nat.reduceMod, decide_true, decide_eq_false c0, decide_eq_true c1, B]
      refine wCall_use ⟨hc.1, hc.2 F nof H p d o.list _ da1 (rd_aints _ _ _) (fun _ x => x.elim)⟩ ?_
      rintro _ h2 ⟨d2, x2⟩
      have B2 : h2[n0]? = some (some (.arr 6 [[.int .i64 o.kind, .int .i64 o.at', .int .i64 o.n, .int .i64 o.epoch, abytes o.data, aints o.list]] false)) := by rw [x2.2 n0 lB nF0]; exact B
      simp only [go_sem, reduceIte, Nat.reduceEqDiff, Nat.reduceAdd, Nat.reduceLeDiff, Nat.reducePow, Nat.reduceDiv, Nat.reduceMod, decide_true, B2]
      refine wCall_use ⟨hxc.1, hxc.2 nof h2 q d o.list _ (qa1.off x2 hq) (rd_aints _ _ _) (fun x => x) (by omega)⟩ ?_
      rintro _ h3 ⟨q3, x3, l3⟩
      simp only [go_sem, reduceIte, Nat.reduceEqDiff, Nat.reduceAdd, Nat.reduceLeDiff, Nat.reducePow, Nat.reduceDiv, Nat.reduceMod, decide_true]
      exact ⟨d2.off x3 fun m _ hm e => hq (e ▸ hm), q3, two X x2 x3⟩
    · rw [if_neg c1]
      by_cases c2 : o.kind = 2
      · rw [if_pos c2]
        simp only [go_sem, reduceIte, Nat.reduceEqDiff, Nat.reduceAdd, Nat.reduceLeDiff, Nat.reducePow, Nat.reduceDiv, Nat.reduceMod, decide_true, decide_eq_false c0, decide_eq_false c1, decide_eq_true c2, B]
        refine wCall_use ⟨ha.1, ha.2 F H p d o.n da1 hR.1⟩ ?_
        rintro _ h2 ⟨d2, x2⟩
        have B2 : h2[n0]? = some (some (.arr 6 [[.int .i64 o.kind, .int .i64 o.at', .int .i64 o.n, .int .i64 o.epoch, abytes o.data, aints o.list]] false)) := by rw [x2.2 n0 lB nF0]; exact B
        simp only [go_sem, reduceIte, Nat.reduceEqDiff, Nat.reduceAdd, Nat.reduceLeDiff, Nat.reducePow, Nat.reduceDiv, Nat.reduceMod, decide_true, B2]
        refine wCall_use ⟨hxa.1, hxa.2 h2 q d o.n (qa1.off x2 hq) hR.1.2⟩ ?_
        rintro _ h3 ⟨q3, x3, l3⟩
        simp only [go_sem, reduceIte, Nat.reduceEqDiff, Nat.reduceAdd, Nat.reduceLeDiff, Nat.reducePow, Nat.reduceDiv, Nat.reduceMod, decide_true]
        exact ⟨d2.off x3 fun m _ hm e => hq (e ▸ hm), q3, two X x2 x3⟩
      · rw [if_neg c2]
        by_cases c3 : o.kind = 3
        · rw [if_pos c3]
          simp only [go_sem, reduceIte, Nat.reduceEqDiff, Nat.reduceAdd, Nat.reduceLeDiff, Nat.reducePow, Nat.reduceDiv, Nat.reduceMod, decide_true, decide_eq_false c0, decide_eq_false c1, decide_eq_false c2, decide_eq_true c3, B]
          refine wCall_use ⟨hw.1, hw.2 F nof H p d o.at' o.data _ da1 (rd_abytes _ _ _) (fun _ x => x.elim) (by omega)⟩ ?_
          rintro _ h2 ⟨rfl, d2, x2⟩
          have B2 : h2[n0]? = some (some (.arr 6 [[.int .i64 o.kind, .int .i64 o.at', .int .i64 o.n, .int .i64 o.epoch, abytes o.data, aints o.list]] false)) := by rw [x2.2 n0 lB nF0]; exact B
          simp only [go_sem, reduceIte, Nat.reduceEqDiff, Nat.reduceAdd, Nat.reduceLeDiff, Nat.reducePow, Nat.reduceDiv, Nat.reduceMod, decide_true, B, B2]
          refine wCall_use ⟨hxw.1, hxw.2 nof h2 q d o.at' o.data _ (qa1.off x2 hq) (rd_abytes _ _ _) (fun x => x) (by omega)⟩ ?_
          rintro _ h3 ⟨rfl, q3, x3, l3⟩
          have d3 := d2.off x3 fun m _ hm e => hq (e ▸ hm)
          have B3 : h3[n0]? = some (some (.arr 6 [[.int .i64 o.kind, .int .i64 o.at', .int .i64 o.n, .int .i64 o.epoch, abytes o.data, aints o.list]] false)) := by
            rw [x3.2 n0 (List.getElem?_eq_some_iff.1 B2).1 nq]; exact B2
          simp only [go_sem, reduceIte, Nat.reduceEqDiff, Nat.reduceAdd, Nat.reduceLeDiff, Nat.reducePow, Nat.reduceDiv, Nat.reduceMod, decide_true, B, B2, B3, ne]
          generalize d.write o.at' o.data = dw at *
          refine wCall_use ⟨hff.1, hff.2 F h3 p dw.1 d3⟩ ?_
          rintro _ h4 ⟨rfl, d4, x4⟩
          simp only [go_sem, reduceIte, Nat.reduceEqDiff, Nat.reduceAdd, Nat.reduceLeDiff, Nat.reducePow, Nat.reduceDiv, Nat.reduceMod, decide_true]
          refine wCall_use ⟨hxf.1, hxf.2 h4 q dw.1 (q3.off x4 hq)⟩ ?_
          rintro _ h5 ⟨rfl, q5, x5, l5⟩
          simp only [go_sem, reduceIte, Nat.reduceEqDiff, Nat.reduceAdd, Nat.reduceLeDiff, Nat.reducePow, Nat.reduceDiv, Nat.reduceMod, decide_true]
          refine ⟨d4.off x5 fun m _ hm e => hq (e ▸ hm), q5, ?_⟩
          have t1 := two X x2 x3
          refine ⟨by have := t1.1; have := x4.1; have := x5.1; omega, fun m hm hn => ?_⟩
          have := t1.1; have := x4.1
          rw [x5.2 m (by omega) (fun x => hn (.inr x)), x4.2 m (by omega) (fun x => hn (.inl x)), t1.2 m hm hn]
        · rw [if_neg c3]
          simp only [go_sem, reduceIte, Nat.reduceEqDiff, Nat.reduceAdd, Nat.reduceLeDiff, Nat.reducePow, Nat.reduceDiv, Nat.reduceMod, decide_true, decide_eq_false c0, decide_eq_false c1, decide_eq_false c2, decide_eq_false c3, B]
          exact ⟨da1, qa1, X.weak fun m _ x => x.elim⟩

end Glb

/-
  Layer 8: the law of any calls.
-/
namespace Glb
open Go
set_option maxRecDepth 10000
set_option maxHeartbeats 16000000

theorem collect_len {g : Nat → Option (Int × Bool × List Int)} (hg : ∀ k e l q, g k = some (e, l, q) → q.length ≤ 64) (e : Int) : ∀ (m k : Nat) (out : List Int), (collect g e m k out).1.length ≤ out.length + 64 * m
  | 0, k, out => by simp [collect]
  | m + 1, k, out => by
    simp only [collect]
    split
    · simp
    · rename_i e' l q hq
      have h1 := hg k _ _ _ hq
      split
      · split
        · simp; omega
        · have := collect_len hg e m (k + 1) (out ++ q)
          simp at this; omega
      · simp
theorem Dk.slot_len {d : Dk} (h : d.ok) (i : Int) : ∀ k e l q, d.slot i k = some (e, l, q) → q.length ≤ 64 := by
  intro k e l q hq
  unfold Dk.slot at hq
  split at hq
  · have := pc_len hq; have := Dk.read_len8 h (i + k); omega
  · cases hq
theorem whole_len {d : Dk} (h : d.ok) (i : Int) (n : Nat) (s : Int) : (whole (d.slot i) n s).1.length ≤ 64 * n := by
  unfold whole
  split
  · simp
  · split
    · have := collect_len (Dk.slot_len h i) (by assumption) n 0 []
      simpa using this
    · simp
theorem Dk.load_len {d : Dk} (h : d.ok) (a n : Int) : (d.load a n).1.length ≤ 2^40 := by
  by_cases hm : d.may a n
  · rw [load_wh hm]
    have w0 : (d.wh a n 0).1.length ≤ 64 * n.toNat := whole_len h _ _ _
    have w1 : (d.wh a n 1).1.length ≤ 64 * n.toNat := whole_len h _ _ _
    obtain ⟨m1, m2, m3⟩ := hm
    have := h.n
    split
    · simp
    · split
      · show (d.wh a n 1).1.length ≤ 2^40; omega
      · show (d.wh a n 0).1.length ≤ 2^40; omega
  · unfold Dk.load; rw [if_pos hm]; simp

theorem ops8_at {l : List Op8} {i : Nat} (hi : i < l.length) : ∃ p, aindex 6 (aops8 l) (.int .i64 i) = some p ∧ (∀ h, aload h true 6 p = some (.agg l[i].v)) ∧ (∀ o, afield o p = some (poff o p)) ∧
    (∀ h, aload h false 1 (poff 1 p) = some (.int .i64 l[i].at')) ∧ (∀ h, aload h false 1 (poff 2 p) = some (.int .i64 l[i].n)) := by
  obtain ⟨p, hp1, hp2⟩ := index_av 6 Op8.c l .i64 hi
  change aindex 6 (aops8 l) _ = some p at hp1
  change ∀ h, pcells h p = some l[i].v at hp2
  refine ⟨p, hp1, fun h => ?_, fun o => afield_p (hp2 []) o, fun h => ?_, fun h => ?_⟩
  · rw [aload_p (hp2 h), take_agg, if_pos (by rw [Op8.v_eq]; simp), List.take_of_length_le (by rw [Op8.v_eq]; simp)]
  · rw [aload_off (hp2 h), Op8.v_eq]; rfl
  · rw [aload_off (hp2 h), Op8.v_eq]; rfl

theorem runs8_ok {P : Program} {f fn xn fl fw fb fd fo fa : FuncId} (hf : Is P f (c_glebelaw08_CheckRuns fn xn fl fw fb fd fo fa)) (hn : NewDOk P fn) (hx : XNewOk P xn) (hl : Long8Ok P fl) (hw : YesOk P fw) (hb : Both8Ok P fb) (hd : Loads8Ok P fd) (ho : LooksOk P fo) (hall : All4Ok P fa)
    (n : Int) (l : List Op8) (hR : ∀ o ∈ l, o.R) (h : AHeap) : ACalls P f [.int .i64 n, aops8 l] h fun r _ => r = .bool true := by
  refine fun_sound hf.1 (Nat.le_of_ble_eq_true rfl) ?_
  show vc P (c_glebelaw08_CheckRuns fn xn fl fw fb fd fo fa).code ⟨[(0, .int .i64 n), (1, aops8 l)], [], h⟩ (atEnd (c_glebelaw08_CheckRuns fn xn fl fw fb fd fo fa).res _)
  simp only [c_glebelaw08_CheckRuns, go_sem, reduceIte, Nat.reduceEqDiff, Nat.reduceAdd, Nat.reduceLeDiff, Nat.reducePow, Nat.reduceDiv, Nat.reduceMod, decide_true]
  refine wCall_use ⟨hn.1, hn.2 h n⟩ ?_
  rintro r h1 ⟨a1, a2, x1⟩
  by_cases c : 1 ≤ n ∧ n ≤ 16384
  · obtain ⟨p, rfl, da⟩ := a1 c
    simp only [go_sem, reduceIte, Nat.reduceEqDiff, Nat.reduceAdd, Nat.reduceLeDiff, Nat.reducePow, Nat.reduceDiv, Nat.reduceMod, decide_true]
    refine wCall_use ⟨hx.1, hx.2 h1 n⟩ ?_
    rintro r h2 ⟨b1, b2, x2⟩
    obtain ⟨rfl, qa, lh⟩ := b1 c
    have da2 := da.up x2
    obtain ⟨F, da2, hF, hq⟩ : ∃ F : Nat → Prop, DiskAt F h2 p (Dk.new n) ∧ (∀ m, F m → m < h1.length) ∧ ¬ F h1.length := ⟨_, da2, fun m x => x.2, fun x => by have := x.2; omega⟩
    clear da
    simp only [go_sem, reduceIte, Nat.reduceEqDiff, Nat.reduceAdd, Nat.reduceLeDiff, Nat.reducePow, Nat.reduceDiv, Nat.reduceMod, decide_true]
    refine wCall_use ⟨hl.1, hl.2 h2 l⟩ ?_
    rintro _ h3 ⟨⟨b, rfl, hfew⟩, rfl⟩
    cases b with
    | true =>
      simp only [go_sem, reduceIte, Nat.reduceEqDiff, Nat.reduceAdd, Nat.reduceLeDiff, Nat.reducePow, Nat.reduceDiv, Nat.reduceMod, decide_true]
      refine use1 hw.1 (hw.2 _) ?_
      simp only [go_sem, reduceIte, Nat.reduceEqDiff, Nat.reduceAdd, Nat.reduceLeDiff, Nat.reducePow, Nat.reduceDiv, Nat.reduceMod, decide_true]
    | false =>
      obtain ⟨h100, hfew⟩ := hfew rfl
      have d00 : decide ((0 : Int) = 0) = true := rfl
      by_cases c1 : 1024 < n
      · simp only [go_sem, reduceIte, Nat.reduceEqDiff, Nat.reduceAdd, Nat.reduceLeDiff, Nat.reducePow, Nat.reduceDiv, Nat.reduceMod, decide_true, d00, Bool.not_true, decide_eq_true c1]
        refine use1 hw.1 (hw.2 _) ?_
        simp only [go_sem, reduceIte, Nat.reduceEqDiff, Nat.reduceAdd, Nat.reduceLeDiff, Nat.reducePow, Nat.reduceDiv, Nat.reduceMod, decide_true]
      simp only [go_sem, reduceIte, Nat.reduceEqDiff, Nat.reduceAdd, Nat.reduceLeDiff, Nat.reducePow, Nat.reduceDiv, Nat.reduceMod, decide_true, d00, Bool.not_true, decide_eq_false c1, rev_peq, pnil_ptr, show (false != false) = false from rfl]
      obtain ⟨q, hqq⟩ : ∃ q, h1.length = q := ⟨_, rfl⟩
      rw [hqq] at qa hq hF lh ⊢
      obtain ⟨I, hI⟩ : ∃ I : Nat → Env → AHeap → Prop, ∀ m E h', I m E h' ↔ ∃ (i : Nat) (d : Dk), lk 1 E = aops8 l ∧ lk 5 E = .ptr p 6 0 0 ∧ lk 7 E = .ptr q 5 0 0 ∧ lk 9 E = .int .i64 i ∧ DiskAt F h' p d ∧ RefAt h' q d ∧ d.bts ∧ q < h'.length ∧ i ≤ l.length ∧ m = l.length - i := ⟨_, fun _ _ _ => Iff.rfl⟩
      refine vc_loop I l.length ((hI _ _ _).2 ⟨0, Dk.new n, by simp [lk_ins, lk_cons], by simp [lk_ins, lk_cons], by simp [lk_ins, lk_cons], by simp [lk_ins], da2, qa, Dk.new_bts n, by omega, by omega, by omega⟩) ?_
      clear da2 qa lh
      intro m E H hh
      obtain ⟨i, d, k1, k5, k7, k9, da, qa, hbt, lq, hi, rfl⟩ := (hI _ _ _).1 hh
      simp only [c_glebelaw08_CheckRuns_l0, go_sem, reduceIte, Nat.reduceEqDiff, Nat.reduceAdd, Nat.reduceLeDiff, Nat.reducePow, Nat.reduceDiv, Nat.reduceMod, decide_true, k1, k5, k7, k9, len_aops8]
      refine wCond_split (fun ci => ?_) (fun ci => ?_)
      · simp at ci
        obtain ⟨pp, z1, z2, z3, z4, z5⟩ := ops8_at ci
        have ew : IntKind.i64.wrap (↑i + 1) = (i : Int) + 1 := wrap_i64 (by omega)
        have hm := List.getElem_mem ci
        have hfo := hfew _ hm
        have hRo := hR _ hm
        generalize l[i] = o at *
        simp only [go_sem, reduceIte, Nat.reduceEqDiff, Nat.reduceAdd, Nat.reduceLeDiff, Nat.reducePow, Nat.reduceDiv, Nat.reduceMod, decide_true, k1, k5, k7, k9, z1, z2]
        refine wCall_use ⟨hb.1, hb.2 F H p q d o da qa (fun m hm => by have := hF m hm; omega) hq hfo hRo⟩ ?_
        rintro _ H2 ⟨rfl, da2, qa2, x2⟩
        have hF2 : ∀ m, F m → m < H2.length := fun m hm => by have := hF m hm; have := x2.1; omega
        have hb2 := Dk.op8_bts hbt hRo.2
        simp only [go_sem, reduceIte, Nat.reduceEqDiff, Nat.reduceAdd, Nat.reduceLeDiff, Nat.reducePow, Nat.reduceDiv, Nat.reduceMod, decide_true, k1, k5, k7, k9, z1, z2, z3, z4, z5]
        refine use1 hd.1 (hd.2 F H2 p q _ o.at' o.n da2 qa2 hb2 hF2 (Dk.load_len da2.ok _ _)) ?_
        simp only [go_sem, reduceIte, Nat.reduceEqDiff, Nat.reduceAdd, Nat.reduceLeDiff, Nat.reducePow, Nat.reduceDiv, Nat.reduceMod, decide_true, k1, k5, k7, k9, z1, z2, z3, z4, z5]
        refine use1 ho.1 (ho.2 F H2 p q _ _ da2 qa2 hF2) ?_
        simp only [go_sem, reduceIte, Nat.reduceEqDiff, Nat.reduceAdd, Nat.reduceLeDiff, Nat.reducePow, Nat.reduceDiv, Nat.reduceMod, decide_true, k1, k5, k7, k9, ew]
        exact ⟨_, by omega, (hI _ _ _).2 ⟨i + 1, _, by simp [lk_ins, k1], by simp [lk_ins, k5], by simp [lk_ins, k7], by simp [lk_ins], da2, qa2, hb2, by have := x2.1; omega, ci, rfl⟩⟩
      · simp only [go_sem, reduceIte, Nat.reduceEqDiff, Nat.reduceAdd, Nat.reduceLeDiff, Nat.reducePow, Nat.reduceDiv, Nat.reduceMod, decide_true, k5, k7]
        refine use1 hall.1 (hall.2 F H p q d da qa (fun m hm => by have := hF m hm; omega)) ?_
        simp only [go_sem, reduceIte, Nat.reduceEqDiff, Nat.reduceAdd, Nat.reduceLeDiff, Nat.reducePow, Nat.reduceDiv, Nat.reduceMod, decide_true]
        refine use1 hw.1 (hw.2 _) ?_
        simp only [go_sem, reduceIte, Nat.reduceEqDiff, Nat.reduceAdd, Nat.reduceLeDiff, Nat.reducePow, Nat.reduceDiv, Nat.reduceMod, decide_true]
  · obtain rfl := a2 c
    simp only [go_sem, reduceIte, Nat.reduceEqDiff, Nat.reduceAdd, Nat.reduceLeDiff, Nat.reducePow, Nat.reduceDiv, Nat.reduceMod, decide_true]
    refine wCall_use ⟨hx.1, hx.2 h1 n⟩ ?_
    rintro r h2 ⟨b1, b2, x2⟩
    obtain rfl := b2 c
    simp only [go_sem, reduceIte, Nat.reduceEqDiff, Nat.reduceAdd, Nat.reduceLeDiff, Nat.reducePow, Nat.reduceDiv, Nat.reduceMod, decide_true]
    refine wCall_use ⟨hl.1, hl.2 h2 l⟩ ?_
    rintro _ h3 ⟨⟨b, rfl, hfew⟩, rfl⟩
    have d30 : decide ((3 : Int) = 0) = false := rfl
    cases b with
    | true =>
      simp only [go_sem, reduceIte, Nat.reduceEqDiff, Nat.reduceAdd, Nat.reduceLeDiff, Nat.reducePow, Nat.reduceDiv, Nat.reduceMod, decide_true]
      refine use1 hw.1 (hw.2 _) ?_
      simp only [go_sem, reduceIte, Nat.reduceEqDiff, Nat.reduceAdd, Nat.reduceLeDiff, Nat.reducePow, Nat.reduceDiv, Nat.reduceMod, decide_true]
    | false =>
      simp only [go_sem, reduceIte, Nat.reduceEqDiff, Nat.reduceAdd, Nat.reduceLeDiff, Nat.reducePow, Nat.reduceDiv, Nat.reduceMod, decide_true, d30, Bool.not_false]
      refine use1 hw.1 (hw.2 _) ?_
      simp only [go_sem, reduceIte, Nat.reduceEqDiff, Nat.reduceAdd, Nat.reduceLeDiff, Nat.reducePow, Nat.reduceDiv, Nat.reduceMod, decide_true]

end Glb
