/-
  A library of its own: its parts, one behind the other.
-/
import Derived.Test.YthbhbgnngmfpiaaGlbChkC
import Derived.Test.YthbhbgnngmfpiaaGlbChkB
set_option linter.unusedSimpArgs false
set_option linter.unusedVariables false
/-
  Layer 8: cuts of some checkpoints.
-/
namespace Glb
open Go
set_option maxRecDepth 10000
set_option maxHeartbeats 32000000

def Runs8P (P : Program) (f : FuncId) : Prop := isFn P f = true ∧ ∀ (n : Int) (l : List Op8) (h : AHeap), (∀ o ∈ l, o.R) → ACalls P f [.int .i64 n, aops8 l] h fun r _ => r = .bool true
def Lasts8P (P : Program) (f : FuncId) : Prop := isFn P f = true ∧ ∀ (n : Int) (l : List (List Int)) (cuts : List Int) (how : List (List Int)) (h : AHeap), (∀ x ∈ l, bytesOk x) → ACalls P f [.int .i64 n, arows l, aints cuts, airows how] h fun r _ => r = .bool true
def Apart8P (P : Program) (f : FuncId) : Prop := isFn P f = true ∧ ∀ (e : Int) (x : List Int) (l : List (List Int)) (ats : List Int) (h : AHeap), bytesOk x → (∀ x ∈ l, bytesOk x) → ACalls P f [.int .i64 e, abytes x, arows l, aints ats] h fun r _ => r = .bool true

/-- a list that lies in a row -/
theorem rd_rowL {h : AHeap} {n sz len : Nat} {es : List (List AV)} {ds : List (List D)} {g : Bool} (hb : h[n]? = some (some (.arr sz es g))) (hl : es.length = len) (hr : RdLL (fun _ => True) h ds es) : Rd (fun _ => True) h (.sl sz ds) (.ref n sz 0 len (some len)) := by
  subst hl
  exact ⟨es, .inr (.inr ⟨n, 0, _, _, _, g, rfl, trivial, hb, by omega, fun c hc => by cases hc; omega, by rw [List.drop_zero, List.take_of_length_le (Nat.le_refl _)]⟩), hr⟩

def rows8 : List (List Int) := [rowB 1, rowB 100, rowB 30, [], rowB 120, rowB 41]
theorem rows8_bytes : ∀ x ∈ rows8, bytesOk x := by
  intro x hx
  simp only [rows8, List.mem_cons, List.not_mem_nil, or_false] at hx
  rcases hx with rfl | rfl | rfl | rfl | rfl | rfl
  · exact rowB_bytes _
  · exact rowB_bytes _
  · exact rowB_bytes _
  · exact bytesOk_nil
  · exact rowB_bytes _
  · exact rowB_bytes _
def rowsV : List (List AV) := [[abytes (rowB 1)], [abytes (rowB 100)], [abytes (rowB 30)], [.nils], [abytes (rowB 120)], [abytes (rowB 41)]]
theorem rowsV_rd (h : AHeap) : RdLL (fun _ => True) h (rows8.map fun b => [dBytes b]) rowsV :=
 ⟨_, _, rfl, ⟨_, _, rfl, rd_abytes _ _ _, rfl⟩, _, _, rfl, ⟨_, _, rfl, rd_abytes _ _ _, rfl⟩, _, _, rfl, ⟨_, _, rfl, rd_abytes _ _ _, rfl⟩, _, _, rfl, ⟨_, _, rfl, nl_rd8 h, rfl⟩, _, _, rfl, ⟨_, _, rfl, rd_abytes _ _ _, rfl⟩, _, _, rfl, ⟨_, _, rfl, rd_abytes _ _ _, rfl⟩, rfl⟩

theorem cuts8_ok {P : Program} {f fr fl fa : FuncId} (hf : Is P f (c_glebelaw08_knownCuts fr fl fa)) (hr : RowOk P fr) (hl : Lasts8P P fl) (ha : Apart8P P fa) : YesOk P f := by
  refine ⟨hf.2, fun h => ACalls.freeze (K := fun r h' => r = .bool true ∧ Ext nof h h') (fun_sound hf.1 (Nat.le_of_ble_eq_true rfl) ?_) (fun r _ ⟨e, hx⟩ => ⟨hx, r, by rw [e]; exact Frz.bool _, e⟩)⟩
  show vc P (c_glebelaw08_knownCuts fr fl fa).code ⟨[], [], h⟩ (atEnd (c_glebelaw08_knownCuts fr fl fa).res _)
  have hrr : ∀ (n : Nat) (h : AHeap), n ≤ 1000 → ACalls P fr [.int .i64 (n : Nat)] h fun r h' => r = abytes (rowB n) ∧ h' = h := fun n h hn => hr.2 h n (by omega)
  simp only [c_glebelaw08_knownCuts, go_sem, reduceIte, Nat.reduceEqDiff, Nat.reduceAdd, Nat.reduceLeDiff, Nat.reducePow, Nat.reduceDiv, Nat.reduceMod, decide_true]
  refine use1 hr.1 (hrr 1 _ (by omega)) ?_
  simp only [go_sem, reduceIte, Nat.reduceEqDiff, Nat.reduceAdd, Nat.reduceLeDiff, Nat.reducePow, Nat.reduceDiv, Nat.reduceMod, decide_true]
  refine use1 hr.1 (hrr 100 _ (by omega)) ?_
  simp only [go_sem, reduceIte, Nat.reduceEqDiff, Nat.reduceAdd, Nat.reduceLeDiff, Nat.reducePow, Nat.reduceDiv, Nat.reduceMod, decide_true]
  refine use1 hr.1 (hrr 30 _ (by omega)) ?_
  simp only [go_sem, reduceIte, Nat.reduceEqDiff, Nat.reduceAdd, Nat.reduceLeDiff, Nat.reducePow, Nat.reduceDiv, Nat.reduceMod, decide_true]
  refine use1 hr.1 (hrr 120 _ (by omega)) ?_
  simp only [go_sem, reduceIte, Nat.reduceEqDiff, Nat.reduceAdd, Nat.reduceLeDiff, Nat.reducePow, Nat.reduceDiv, Nat.reduceMod, decide_true]
  refine use1 hr.1 (hrr 41 _ (by omega)) ?_
  have sb : ∀ l, (abytes l).scalar = true := fun l => scalar_abytes l
  have cb : ∀ l, (abytes l).cells? = some [abytes l] := fun l => cells_of (sb l)
  simp only [go_sem, reduceIte, Nat.reduceEqDiff, Nat.reduceAdd, Nat.reduceLeDiff, Nat.reducePow, Nat.reduceDiv, Nat.reduceMod, decide_true, sb, cb]
  have B := bx10 h (some (.arr 1 rowsV false))
  have X := Ext.b1 (h := h) (some (.arr 1 rowsV false))
  change vc P (c_glebelaw08_knownCuts_l1 fr fl fa).loop ⟨ins 2 (.int .i64 0) (ins 1 (.ref h.length 1 0 6 (some 6)) (ins 0 (.bool false) [])), [], h ++ [some (.arr 1 rowsV false)]⟩ _
  generalize h ++ [some (.arr 1 rowsV false)] = H at *
  obtain ⟨n1, hn1⟩ : ∃ n, n = h.length := ⟨_, rfl⟩
  rw [← hn1] at B ⊢
  obtain ⟨I, hI⟩ : ∃ I : Nat → Env → AHeap → Prop, ∀ m L h', I m L h' ↔ ∃ c : Nat, lk 1 L = .ref n1 1 0 6 (some 6) ∧ lk 2 L = .int .i64 c ∧ h'[n1]? = some (some (.arr 1 rowsV false)) ∧ Ext nof h h' ∧ c ≤ 7 ∧ m = 7 - c := ⟨_, fun _ _ _ => Iff.rfl⟩
  refine vc_loop I 7 ((hI _ _ _).2 ⟨0, by simp [lk_ins, lk_cons], by simp [lk_ins, lk_cons], B, X, by omega, by omega⟩) ?_
  clear B X
  intro m L H3 hh
  obtain ⟨c, k1, k2, B, X, hc, rfl⟩ := (hI _ _ _).1 hh
  simp only [c_glebelaw08_knownCuts_l1, go_sem, reduceIte, Nat.reduceEqDiff, Nat.reduceAdd, Nat.reduceLeDiff, Nat.reducePow, Nat.reduceDiv, Nat.reduceMod, decide_true, k1, k2]
  refine wCond_split (fun ci => ?_) (fun ci => ?_)
  · simp at ci
    have e1 : IntKind.i64.wrap ((c : Int) + 1) = ((c + 1 : Nat) : Int) := by rw [wrap_i64 (by omega)]; omega
    simp only [go_sem, reduceIte, Nat.reduceEqDiff, Nat.reduceAdd, Nat.reduceLeDiff, Nat.reducePow, Nat.reduceDiv, Nat.reduceMod, decide_true, k1, k2]
    obtain ⟨J, hJ⟩ : ∃ J : Nat → Env → AHeap → Prop, ∀ m L h', J m L h' ↔ ∃ w : Nat, lk 1 L = .ref n1 1 0 6 (some 6) ∧ lk 2 L = .int .i64 c ∧ lk 3 L = .int .i64 w ∧ h'[n1]? = some (some (.arr 1 rowsV false)) ∧ Ext nof h h' ∧ w ≤ 27 ∧ m = 27 - w := ⟨_, fun _ _ _ => Iff.rfl⟩
    refine vc_loop J 27 ((hJ _ _ _).2 ⟨0, by simp [lk_ins, k1], by simp [lk_ins, k2], by simp [lk_ins], B, X, by omega, by omega⟩) ?_
    clear k1 k2 B X
    intro m L H4 hh
    obtain ⟨w, k1, k2, k3, B, X, hw, rfl⟩ := (hJ _ _ _).1 hh
    have r3 : ∀ x : Int, abin .rem (.int .i64 x) (.int .i64 3) = some (.int .i64 (x.tmod 3)) := fun _ => rfl
    have r7 : ∀ x : Int, abin .rem (.int .i64 x) (.int .i64 7) = some (.int .i64 (x.tmod 7)) := fun _ => rfl
    have d3 : ∀ x : Int, abin .quo (.int .i64 x) (.int .i64 3) = some (.int .i64 (IntKind.i64.wrap (x.tdiv 3))) := fun _ => rfl
    have d9 : ∀ x : Int, abin .quo (.int .i64 x) (.int .i64 9) = some (.int .i64 (IntKind.i64.wrap (x.tdiv 9))) := fun _ => rfl
    simp only [c_glebelaw08_knownCuts_l0, go_sem, reduceIte, Nat.reduceEqDiff, Nat.reduceAdd, Nat.reduceLeDiff, Nat.reducePow, Nat.reduceDiv, Nat.reduceMod, decide_true, k1, k2, k3]
    refine wCond_split (fun ck => ?_) (fun ck => ?_)
    · simp at ck
      have e2 : IntKind.i64.wrap ((w : Int) + 1) = ((w + 1 : Nat) : Int) := by rw [wrap_i64 (by omega)]; omega
      simp only [go_sem, reduceIte, Nat.reduceEqDiff, Nat.reduceAdd, Nat.reduceLeDiff, Nat.reducePow, Nat.reduceDiv, Nat.reduceMod, decide_true, k1, k2, k3, r3, d3, d9]
      generalize (w : Int).tmod 3 = a1
      generalize (IntKind.i64.wrap ((w : Int).tdiv 3)).tmod 3 = a2
      generalize IntKind.i64.wrap ((w : Int).tdiv 9) = a3
      have lt1 : n1 < H4.length := (List.getElem?_eq_some_iff.1 B).1
      have rdH : ∀ (G : AHeap) (n : Nat), G[H4.length]? = some (some (.arr 1 [[.int .i64 a1], [.int .i64 a2], [.int .i64 a3]] false)) → G[n]? = some (some (.arr 1 [[.ref H4.length 1 0 3 (some 3)], [.ref H4.length 1 0 3 (some 3)], [.ref H4.length 1 0 3 (some 3)], [.ref H4.length 1 0 3 (some 3)], [.ref H4.length 1 0 3 (some 3)], [.ref H4.length 1 0 3 (some 3)]] false)) →
          Rd (fun _ => True) G (dIRows [[a1, a2, a3], [a1, a2, a3], [a1, a2, a3], [a1, a2, a3], [a1, a2, a3], [a1, a2, a3]]) (.ref n 1 0 6 (some 6)) := fun G n g1 g2 => by
        have r1 : Rd (fun _ => True) G (dInts [a1, a2, a3]) (.ref H4.length 1 0 3 (some 3)) := rd_lit (k := .i64) (xs := [a1, a2, a3]) g1 rfl
        exact rd_rowL g2 rfl ⟨_, _, rfl, ⟨_, _, rfl, r1, rfl⟩, _, _, rfl, ⟨_, _, rfl, r1, rfl⟩, _, _, rfl, ⟨_, _, rfl, r1, rfl⟩, _, _, rfl, ⟨_, _, rfl, r1, rfl⟩, _, _, rfl, ⟨_, _, rfl, r1, rfl⟩, _, _, rfl, ⟨_, _, rfl, r1, rfl⟩, rfl⟩
      have rdR : ∀ (G : AHeap), G[n1]? = some (some (.arr 1 rowsV false)) → Rd (fun _ => True) G (dRows rows8) (.ref n1 1 0 6 (some 6)) := fun G g1 => rd_rowL g1 rfl (rowsV_rd G)
      have X5 : ∀ x y z : Option ABlk, Ext nof H4 (H4 ++ [x] ++ [y] ++ [z]) := fun x y z => Ext.b3 x y z
      refine use1 hl.1 (law_gen (hl.2 2 rows8 [5, c, 5, c, c, 2] [[a1, a2, a3], [a1, a2, a3], [a1, a2, a3], [a1, a2, a3], [a1, a2, a3], [a1, a2, a3]] [] rows8_bytes)
        (AsL.int _ _ (AsL.d (rdR _ ((X5 _ _ _).get B)) (AsL.d (rd_lit (k := .i64) (xs := [5, c, 5, c, c, 2]) (bx31 H4 _ _ _) rfl) (AsL.d (rdH _ _ (bx30 H4 _ _ _) (bx32 H4 _ _ _)) AsL.nil))))) ?_
      have B5 := (X5 (some (.arr 1 [[.int .i64 a1], [.int .i64 a2], [.int .i64 a3]] false)) (some (.arr 1 [[.int .i64 5], [.int .i64 c], [.int .i64 5], [.int .i64 c], [.int .i64 c], [.int .i64 2]] false)) (some (.arr 1 [[.ref H4.length 1 0 3 (some 3)], [.ref H4.length 1 0 3 (some 3)], [.ref H4.length 1 0 3 (some 3)], [.ref H4.length 1 0 3 (some 3)], [.ref H4.length 1 0 3 (some 3)], [.ref H4.length 1 0 3 (some 3)]] false))).get B
      have B6 := bx30 H4 (some (.arr 1 [[.int .i64 a1], [.int .i64 a2], [.int .i64 a3]] false)) (some (.arr 1 [[.int .i64 5], [.int .i64 c], [.int .i64 5], [.int .i64 c], [.int .i64 c], [.int .i64 2]] false)) (some (.arr 1 [[.ref H4.length 1 0 3 (some 3)], [.ref H4.length 1 0 3 (some 3)], [.ref H4.length 1 0 3 (some 3)], [.ref H4.length 1 0 3 (some 3)], [.ref H4.length 1 0 3 (some 3)], [.ref H4.length 1 0 3 (some 3)]] false))
      have X6 := X.tr (X5 (some (.arr 1 [[.int .i64 a1], [.int .i64 a2], [.int .i64 a3]] false)) (some (.arr 1 [[.int .i64 5], [.int .i64 c], [.int .i64 5], [.int .i64 c], [.int .i64 c], [.int .i64 2]] false)) (some (.arr 1 [[.ref H4.length 1 0 3 (some 3)], [.ref H4.length 1 0 3 (some 3)], [.ref H4.length 1 0 3 (some 3)], [.ref H4.length 1 0 3 (some 3)], [.ref H4.length 1 0 3 (some 3)], [.ref H4.length 1 0 3 (some 3)]] false)))
      generalize H4 ++ [some (ABlk.arr 1 [[.int .i64 a1], [.int .i64 a2], [.int .i64 a3]] false)] ++ [some (ABlk.arr 1 [[.int .i64 5], [.int .i64 c], [.int .i64 5], [.int .i64 c], [.int .i64 c], [.int .i64 2]] false)] ++ [some (ABlk.arr 1 [[.ref H4.length 1 0 3 (some 3)], [.ref H4.length 1 0 3 (some 3)], [.ref H4.length 1 0 3 (some 3)], [.ref H4.length 1 0 3 (some 3)], [.ref H4.length 1 0 3 (some 3)], [.ref H4.length 1 0 3 (some 3)]] false)] = H5 at *
      simp only [go_sem, reduceIte, Nat.reduceEqDiff, Nat.reduceAdd, Nat.reduceLeDiff, Nat.reducePow, Nat.reduceDiv, Nat.reduceMod, decide_true, k1, k2, k3, r7]
      generalize (w : Int).tmod 7 = a7
      refine use1 hl.1 (law_gen (hl.2 2 rows8 [6, 6, c, c, a7, c] [[a1, a2, a3], [a1, a2, a3], [a1, a2, a3], [a1, a2, a3], [a1, a2, a3], [a1, a2, a3]] [] rows8_bytes)
        (AsL.int _ _ (AsL.d (rdR _ ((Ext.b2 _ _).get B5)) (AsL.d (rd_lit (k := .i64) (xs := [6, 6, c, c, a7, c]) (bx20 H5 _ _) rfl) (AsL.d (rdH _ _ ((Ext.b2 _ _).get B6) (bx21 H5 _ _)) AsL.nil))))) ?_
      simp only [go_sem, reduceIte, Nat.reduceEqDiff, Nat.reduceAdd, Nat.reduceLeDiff, Nat.reducePow, Nat.reduceDiv, Nat.reduceMod, decide_true, k1, k2, k3, e2]
      exact ⟨_, by omega, (hJ _ _ _).2 ⟨w + 1, by simp [lk_ins, k1], by simp [lk_ins, k2], by simp [lk_ins], (Ext.b2 _ _).get B5, X6.tr (Ext.b2 _ _), by omega, rfl⟩⟩
    · simp only [go_sem, reduceIte, Nat.reduceEqDiff, Nat.reduceAdd, Nat.reduceLeDiff, Nat.reducePow, Nat.reduceDiv, Nat.reduceMod, decide_true, k1, k2, k3, e1]
      exact ⟨_, by omega, (hI _ _ _).2 ⟨c + 1, by simp [lk_ins, k1], by simp [lk_ins], B, X, by omega, rfl⟩⟩
  · simp only [go_sem, reduceIte, Nat.reduceEqDiff, Nat.reduceAdd, Nat.reduceLeDiff, Nat.reducePow, Nat.reduceDiv, Nat.reduceMod, decide_true, k1, k2]
    refine use1 hr.1 (hrr 300 _ (by omega)) ?_
    simp only [go_sem, reduceIte, Nat.reduceEqDiff, Nat.reduceAdd, Nat.reduceLeDiff, Nat.reducePow, Nat.reduceDiv, Nat.reduceMod, decide_true, k1, k2]
    refine use1 ha.1 (law_gen (ha.2 7 (rowB 300) rows8 [0, 49, 50, 193, 3, 4] [] (rowB_bytes _) rows8_bytes)
      (AsL.int _ _ (AsL.d (rd_abytes (fun _ => True) _ _) (AsL.d (rd_rowL ((Ext.b1 _).get B) rfl (rowsV_rd _)) (AsL.d (rd_lit (k := .i64) (xs := [0, 49, 50, 193, 3, 4]) (bx10 H3 _) rfl) AsL.nil))))) ?_
    simp only [go_sem, reduceIte, Nat.reduceEqDiff, Nat.reduceAdd, Nat.reduceLeDiff, Nat.reducePow, Nat.reduceDiv, Nat.reduceMod, decide_true]
    exact X.tr (Ext.b1 _)

end Glb

/-
  Layer 8: each byte of a checkpoint turned.
-/
namespace Glb
open Go
set_option maxRecDepth 10000
set_option maxHeartbeats 32000000

theorem row8_rd {h : AHeap} {k a n e : Int} {data list : List Int} {x y : AV} (hx : Rd (fun _ => True) h (dBytes data) x) (hy : Rd (fun _ => True) h (dInts list) y) : RdL (fun _ => True) h (Op8.c ⟨k, a, n, e, data, list⟩) [.int .i64 k, .int .i64 a, .int .i64 n, .int .i64 e, x, y] :=
 ⟨_, _, rfl, rfl, _, _, rfl, rfl, _, _, rfl, rfl, _, _, rfl, rfl, _, _, rfl, hx, _, _, rfl, hy, rfl⟩

theorem turned8_ok {P : Program} {f fn fr fs fd fc fl : FuncId} (hf : Is P f (c_glebelaw08_knownTurned fn fr fs fd fc fl)) (hn : NewDOk P fn) (hr : RowOk P fr) (hs : SaveOk P fs) (hd : ReadDP P fd) (hc : CopyOk P fc .u8) (hl : Runs8P P fl) : YesOk P f := by
  refine ⟨hf.2, fun h => ACalls.freeze (K := fun r h' => r = .bool true ∧ Ext nof h h') (fun_sound hf.1 (Nat.le_of_ble_eq_true rfl) ?_) (fun r _ ⟨e, hx⟩ => ⟨hx, r, by rw [e]; exact Frz.bool _, e⟩)⟩
  show vc P (c_glebelaw08_knownTurned fn fr fs fd fc fl).code ⟨[], [], h⟩ (atEnd (c_glebelaw08_knownTurned fn fr fs fd fc fl).res _)
  simp only [c_glebelaw08_knownTurned, go_sem, reduceIte, Nat.reduceEqDiff, Nat.reduceAdd, Nat.reduceLeDiff, Nat.reducePow, Nat.reduceDiv, Nat.reduceMod, decide_true]
  refine wCall_use ⟨hn.1, hn.2 h 10⟩ ?_
  rintro r H ⟨e1, -, X⟩
  obtain ⟨p, rfl, a⟩ := e1 (by omega)
  obtain ⟨F, a, hF, hF2⟩ : ∃ F : Nat → Prop, DiskAt F H p (Dk.new 10) ∧ (∀ m, F m → m < H.length) ∧ (∀ m, m < h.length → ¬ F m) := ⟨_, a, fun m x => x.2, fun m x y => by have := y.1; omega⟩
  simp only [go_sem, reduceIte, Nat.reduceEqDiff, Nat.reduceAdd, Nat.reduceLeDiff, Nat.reducePow, Nat.reduceDiv, Nat.reduceMod, decide_true]
  refine use1 hr.1 (hr.2 H 50 (by omega)) ?_
  simp only [go_sem, reduceIte, Nat.reduceEqDiff, Nat.reduceAdd, Nat.reduceLeDiff, Nat.reducePow, Nat.reduceDiv, Nat.reduceMod, decide_true]
  refine wCall_use ⟨hs.1, hs.2 F nof H p (Dk.new 10) 1 3 5 (rowB 50) _ a (rd_abytes _ _ _) (fun m x => x.elim) hF (by simp [rowB_length])⟩ ?_
  rintro _ H1 ⟨rfl, a1, x1⟩
  have hb := Dk.save_bts (Dk.new_bts 10) (rowB_bytes 50) 1 3 5
  have E1 : Ext nof h H1 := X.then x1 hF2
  generalize ((Dk.new 10).save 1 3 5 (rowB 50)).1 = d at *
  have hok := a1.ok
  simp only [go_sem, reduceIte, Nat.reduceEqDiff, Nat.reduceAdd, Nat.reduceLeDiff, Nat.reducePow, Nat.reduceDiv, Nat.reduceMod, decide_true]
  obtain ⟨I, hI⟩ : ∃ I : Nat → Env → AHeap → Prop, ∀ m L h', I m L h' ↔ ∃ i : Nat, lk 1 L = .ptr p 6 0 0 ∧ lk 3 L = .int .i64 (i + 4 : Nat) ∧ DiskAt F h' p d ∧ Ext nof h h' ∧ H1.length ≤ h'.length ∧ i ≤ 2 ∧ m = 2 - i := ⟨_, fun _ _ _ => Iff.rfl⟩
  refine vc_loop I 2 ((hI _ _ _).2 ⟨0, by simp [lk_ins, lk_cons], by simp [lk_ins, lk_cons], a1, E1, Nat.le_refl _, by omega, by omega⟩) ?_
  clear a1 E1 a
  intro m L H3 hh
  obtain ⟨i, k1, k3, da, X3, hl3, hi, rfl⟩ := (hI _ _ _).1 hh
  simp only [c_glebelaw08_knownTurned_l1, go_sem, reduceIte, Nat.reduceEqDiff, Nat.reduceAdd, Nat.reduceLeDiff, Nat.reducePow, Nat.reduceDiv, Nat.reduceMod, decide_true, k3]
  refine wCond_split (fun ci => ?_) (fun ci => ?_)
  · simp at ci
    have e1 : IntKind.i64.wrap (((i + 4 : Nat) : Int) + 1) = ((i + 1 + 4 : Nat) : Int) := by rw [wrap_i64 (by omega)]; omega
    simp only [go_sem, reduceIte, Nat.reduceEqDiff, Nat.reduceAdd, Nat.reduceLeDiff, Nat.reducePow, Nat.reduceDiv, Nat.reduceMod, decide_true, k1, k3]
    refine use1 hd.1 (hd.2 F H3 p d _ da) ?_
    have hB := Dk.read_bytes hb ((i + 4 : Nat) : Int)
    have hL := Dk.read_len8 hok ((i + 4 : Nat) : Int)
    generalize (d.read ((i + 4 : Nat) : Int)).1 = b at *
    generalize (d.read ((i + 4 : Nat) : Int)).2 = er at *
    simp only [go_sem, reduceIte, Nat.reduceEqDiff, Nat.reduceAdd, Nat.reduceLeDiff, Nat.reducePow, Nat.reduceDiv, Nat.reduceMod, decide_true, k1, k3]
    obtain ⟨J, hJ⟩ : ∃ J : Nat → Env → AHeap → Prop, ∀ m L h', J m L h' ↔ ∃ k : Nat, lk 1 L = .ptr p 6 0 0 ∧ lk 3 L = .int .i64 (i + 4 : Nat) ∧ lk 4 L = abytes b ∧ lk 6 L = .int .i64 k ∧ DiskAt F h' p d ∧ Ext nof h h' ∧ H1.length ≤ h'.length ∧ k ≤ b.length ∧ m = b.length - k := ⟨_, fun _ _ _ => Iff.rfl⟩
    refine vc_loop J b.length ((hJ _ _ _).2 ⟨0, by simp [lk_ins, k1], by simp [lk_ins, k3], by simp [lk_ins], by simp [lk_ins], da, X3, hl3, by omega, by omega⟩) ?_
    clear k1 k3 da X3
    intro m L H4 hh
    obtain ⟨k, k1, k3, k4, k6, da, X4, hl40, hk, rfl⟩ := (hJ _ _ _).1 hh
    simp only [c_glebelaw08_knownTurned_l0, go_sem, reduceIte, Nat.reduceEqDiff, Nat.reduceAdd, Nat.reduceLeDiff, Nat.reducePow, Nat.reduceDiv, Nat.reduceMod, decide_true, k4, k6, len_abytes]
    refine wCond_split (fun ck => ?_) (fun ck => ?_)
    · simp at ck
      have e2 : IntKind.i64.wrap ((k : Int) + 1) = ((k + 1 : Nat) : Int) := by rw [wrap_i64 (by omega)]; omega
      simp only [go_sem, reduceIte, Nat.reduceEqDiff, Nat.reduceAdd, Nat.reduceLeDiff, Nat.reducePow, Nat.reduceDiv, Nat.reduceMod, decide_true, k1, k3, k4, k6]
      refine wCall_use ⟨hc.1, hc.2 (fun _ => True) H4 b _ (rd_abytes _ _ _) (by omega)⟩ ?_
      rintro c H5 ⟨hco, -, x5⟩
      have X5 := X4.tr x5
      have da5 := da.up x5
      have hcs0 := hco.scalar
      obtain ⟨n, off, row, gg, cs', len, cap, rfl, hn, hix, hrow, hcs', hit, hput⟩ := own_item (j := k) (d0 := [.int .u8 b[k]]) hco (by simp [ck])
      obtain ⟨_, _, rfl, rfl, rfl⟩ := hit
      have hpc : pcells H5 (.ptr n 1 (off + k) 0) = some [.int .u8 b[k]] := by simp [pcells, hrow, hcs']
      obtain ⟨v, hv⟩ : ∃ v, v = xorv .u8 b[k] 1 := ⟨_, rfl⟩
      have hvb : 0 ≤ v ∧ v < 256 := by
        rw [hv]; unfold xorv
        generalize (BitVec.ofInt IntKind.u8.bits b[k] ^^^ BitVec.ofInt IntKind.u8.bits 1).toNat = z
        simp [IntKind.wrap, IntKind.bits, IntKind.signed]; omega
      have hst := astore_elem (x := .int .u8 v) hrow hcs' rfl rfl rfl rfl
      simp only [go_sem, reduceIte, Nat.reduceEqDiff, Nat.reduceAdd, Nat.reduceLeDiff, Nat.reducePow, Nat.reduceDiv, Nat.reduceMod, decide_true, k1, k3, k4, k6, hix, aload_p hpc, ← hv, hst]
      have oc : Own (dBytes (b.set k v)) (fun m => H4.length ≤ m) (H5.set n (some (.arr 1 (row.set (off + k) [.int .u8 v]) gg))) (.ref n 1 off len cap) := by
        have := hput (fun m => H4.length ≤ m) H5 [.int .u8 v] [.int .u8 v] (fun _ x => x) (fun _ _ _ x => x) rfl ⟨_, _, rfl, rfl, rfl⟩
        rw [← List.map_set (f := fun n => [D.int .u8 n])] at this
        exact this
      have xs : Ext (fun m => H4.length ≤ m) H5 (H5.set n (some (.arr 1 (row.set (off + k) [.int .u8 v]) gg))) := Ext.set _ (fun _ => hn)
      have hl4 : h.length ≤ H4.length := X4.1
      have hF4 : ∀ m, F m → m < H4.length := fun m hm => by have := hF m hm; have := x1.1; omega
      have da6 : DiskAt F (H5.set n (some (.arr 1 (row.set (off + k) [.int .u8 v]) gg))) p d := da5.mono (fun _ x => x) (xs.keepOff (F' := F) fun m _ hm hm' => by have := hF4 m hm; omega)
      have X6 : Ext nof h (H5.set n (some (.arr 1 (row.set (off + k) [.int .u8 v]) gg))) := X5.then xs (fun m hm hm' => by omega)
      generalize H5.set n (some (.arr 1 (row.set (off + k) [.int .u8 v]) gg)) = H6 at *
      obtain ⟨cr, hcr⟩ : ∃ x, x = AV.ref n 1 off len cap := ⟨_, rfl⟩
      rw [← hcr] at oc ⊢
      obtain ⟨c2, s2, r2⟩ := Rd.slice (rd_abytes nof [] b) (lo := none) (hi := some (k : Int)) (mx := none) (by simp) (by simp) (by simp; omega) (by simp) (by simp; omega) (by simp)
      have r2' : Rd nof [] (dBytes (b.take k)) c2 := by simpa [dBytes, List.map_take] using r2
      have hl6 : H1.length ≤ H6.length := by have := x5.1; have := xs.1; omega
      have sc2 := r2'.scalar
      have cc2 := cells_of sc2
      have scr := oc.scalar
      have ccr := cells_of scr
      simp only [go_sem, reduceIte, Nat.reduceEqDiff, Nat.reduceAdd, Nat.reduceLeDiff, Nat.reducePow, Nat.reduceDiv, Nat.reduceMod, decide_true, k1, k3, k4, k6, s2, sc2, cc2, scr, ccr, loose_cons]
      refine use1 hr.1 (hr.2 _ 50 (by omega)) ?_
      have sb : ∀ l, (abytes l).scalar = true := fun l => scalar_abytes l
      have cb : ∀ l, (abytes l).cells? = some [abytes l] := fun l => cells_of (sb l)
      simp only [go_sem, reduceIte, Nat.reduceEqDiff, Nat.reduceAdd, Nat.reduceLeDiff, Nat.reducePow, Nat.reduceDiv, Nat.reduceMod, decide_true, k1, k3, k4, k6, s2, sc2, cc2, scr, ccr, sb, cb, loose_cons]
      refine ⟨by simp, ?_⟩
      have X7 : Ext nof H6 (H6 ++ [some (ABlk.arr 1 [[.int .u8 9]] false)] ++ [some (ABlk.arr 6 [[.int .i64 0, .int .i64 1, .int .i64 3, .int .i64 4, .ref H6.length 1 0 1 (some 1), .nils], [.int .i64 0, .int .i64 1, .int .i64 3, .int .i64 5, abytes (rowB 50), .nils], [.int .i64 3, .int .i64 (i + 4 : Nat), .int .i64 0, .int .i64 0, cr, .nils], [.int .i64 9, .int .i64 1, .int .i64 3, .int .i64 0, .nils, .nils], [.int .i64 3, .int .i64 (i + 4 : Nat), .int .i64 0, .int .i64 0, c2, .nils], [.int .i64 9, .int .i64 1, .int .i64 3, .int .i64 0, .nils, .nils]] false)]) := Ext.b2 _ _
      have b0 : (H6 ++ [some (ABlk.arr 1 [[.int .u8 9]] false)] ++ [some (ABlk.arr 6 [[.int .i64 0, .int .i64 1, .int .i64 3, .int .i64 4, .ref H6.length 1 0 1 (some 1), .nils], [.int .i64 0, .int .i64 1, .int .i64 3, .int .i64 5, abytes (rowB 50), .nils], [.int .i64 3, .int .i64 (i + 4 : Nat), .int .i64 0, .int .i64 0, cr, .nils], [.int .i64 9, .int .i64 1, .int .i64 3, .int .i64 0, .nils, .nils], [.int .i64 3, .int .i64 (i + 4 : Nat), .int .i64 0, .int .i64 0, c2, .nils], [.int .i64 9, .int .i64 1, .int .i64 3, .int .i64 0, .nils, .nils]] false)])[H6.length]? = some (some (.arr 1 [[.int .u8 9]] false)) := bx20 H6 _ _
      have b1 : (H6 ++ [some (ABlk.arr 1 [[.int .u8 9]] false)] ++ [some (ABlk.arr 6 [[.int .i64 0, .int .i64 1, .int .i64 3, .int .i64 4, .ref H6.length 1 0 1 (some 1), .nils], [.int .i64 0, .int .i64 1, .int .i64 3, .int .i64 5, abytes (rowB 50), .nils], [.int .i64 3, .int .i64 (i + 4 : Nat), .int .i64 0, .int .i64 0, cr, .nils], [.int .i64 9, .int .i64 1, .int .i64 3, .int .i64 0, .nils, .nils], [.int .i64 3, .int .i64 (i + 4 : Nat), .int .i64 0, .int .i64 0, c2, .nils], [.int .i64 9, .int .i64 1, .int .i64 3, .int .i64 0, .nils, .nils]] false)])[H6.length + 1]? = some (some (.arr 6 [[.int .i64 0, .int .i64 1, .int .i64 3, .int .i64 4, .ref H6.length 1 0 1 (some 1), .nils], [.int .i64 0, .int .i64 1, .int .i64 3, .int .i64 5, abytes (rowB 50), .nils], [.int .i64 3, .int .i64 (i + 4 : Nat), .int .i64 0, .int .i64 0, cr, .nils], [.int .i64 9, .int .i64 1, .int .i64 3, .int .i64 0, .nils, .nils], [.int .i64 3, .int .i64 (i + 4 : Nat), .int .i64 0, .int .i64 0, c2, .nils], [.int .i64 9, .int .i64 1, .int .i64 3, .int .i64 0, .nils, .nils]] false)) := bx21 H6 _ _
      generalize (H6 ++ [some (ABlk.arr 1 [[.int .u8 9]] false)] ++ [some (ABlk.arr 6 [[.int .i64 0, .int .i64 1, .int .i64 3, .int .i64 4, .ref H6.length 1 0 1 (some 1), .nils], [.int .i64 0, .int .i64 1, .int .i64 3, .int .i64 5, abytes (rowB 50), .nils], [.int .i64 3, .int .i64 (i + 4 : Nat), .int .i64 0, .int .i64 0, cr, .nils], [.int .i64 9, .int .i64 1, .int .i64 3, .int .i64 0, .nils, .nils], [.int .i64 3, .int .i64 (i + 4 : Nat), .int .i64 0, .int .i64 0, c2, .nils], [.int .i64 9, .int .i64 1, .int .i64 3, .int .i64 0, .nils, .nils]] false)]) = H7 at *
      have nl := nl_rd8 H7
      have rc : Rd (fun _ => True) H7 (dBytes (b.set k v)) cr := (Rd.any (Own.rd (F := fun m => H4.length ≤ m) _ (fun _ x => x) _ oc)).up X7
      have rd : Rd (fun _ => True) H7 (dOps8 [⟨0, 1, 3, 4, [9], []⟩, ⟨0, 1, 3, 5, rowB 50, []⟩, ⟨3, (i + 4 : Nat), 0, 0, b.set k v, []⟩, ⟨9, 1, 3, 0, [], []⟩, ⟨3, (i + 4 : Nat), 0, 0, b.take k, []⟩, ⟨9, 1, 3, 0, [], []⟩]) (.ref (H6.length + 1) 6 0 6 (some 6)) :=
        rd_rowL b1 rfl ⟨_, _, rfl, row8_rd (rd_lit (k := .u8) (xs := [9]) b0 rfl) nl, _, _, rfl, row8_rd (rd_abytes _ _ _) nl, _, _, rfl, row8_rd rc nl, _, _, rfl, row8_rd nl nl, _, _, rfl, row8_rd (Rd.any (Rd.nof (h' := H7) r2')) nl, _, _, rfl, row8_rd nl nl, rfl⟩
      refine use1 hl.1 (law_gen (hl.2 10 _ [] ?_) (AsL.int _ _ (AsL.d rd AsL.nil))) ?_
      · have e : ∀ {k a n e : Int} {d q : List Int}, (-9223372036854775808 ≤ n ∧ n ≤ 9223372036854775807) → bytesOk d → (⟨k, a, n, e, d, q⟩ : Op8).R := fun h h' => ⟨h, h'⟩
        simp only [List.forall_mem_cons]
        refine ⟨e (by omega) (by intro x hx; simp at hx; omega), e (by omega) (rowB_bytes _), e (by omega) (fun x hx => ?_), e (by omega) bytesOk_nil, e (by omega) (hB.take k), e (by omega) bytesOk_nil, fun o ho => by cases ho⟩
        rcases List.mem_or_eq_of_mem_set hx with hx | rfl
        · exact hB x hx
        · exact hvb
      simp only [go_sem, reduceIte, Nat.reduceEqDiff, Nat.reduceAdd, Nat.reduceLeDiff, Nat.reducePow, Nat.reduceDiv, Nat.reduceMod, decide_true, k1, k3, k4, k6, e2]
      exact ⟨_, by omega, (hJ _ _ _).2 ⟨k + 1, by simp [lk_ins, k1], by simp [lk_ins, k3], by simp [lk_ins, k4], by simp [lk_ins], da6.up X7, X6.tr X7, by have := X7.1; omega, by omega, rfl⟩⟩
    · simp only [go_sem, reduceIte, Nat.reduceEqDiff, Nat.reduceAdd, Nat.reduceLeDiff, Nat.reducePow, Nat.reduceDiv, Nat.reduceMod, decide_true, k1, k3, e1]
      exact ⟨_, by omega, (hI _ _ _).2 ⟨i + 1, by simp [lk_ins, k1], by simp [lk_ins], da, X4, hl40, by omega, rfl⟩⟩
  · simp only [go_sem, reduceIte, Nat.reduceEqDiff, Nat.reduceAdd, Nat.reduceLeDiff, Nat.reducePow, Nat.reduceDiv, Nat.reduceMod, decide_true]
    exact X3

end Glb

/-
  Layer 8: CheckKnown.
-/
namespace Glb
open Go
set_option maxRecDepth 10000
set_option maxHeartbeats 32000000

def ns08 : List Int := [-9223372036854775808, -1, 0, 1, 2, 3, 4, 5, 9, 10, 11, 1099511627775, 1099511627776, 1099511627777, 4611686018427387904, 9223372036854775807]
theorem ns08_R : ∀ x ∈ ns08, -9223372036854775808 ≤ x ∧ x ≤ 9223372036854775807 := by decide

theorem cknown_ok {P : Program} {f fr fl ft fc fw : FuncId} (hf : Is P f (c_glebelaw08_CheckKnown fr fl ft fc fw)) (hr : RowOk P fr) (hl : Runs8P P fl) (ht : YesOk P ft) (hc : YesOk P fc) (hw : YesOk P fw) (h : AHeap) :
    ACalls P f [] h fun r _ => r = .bool true := by
  refine fun_sound hf.1 (Nat.le_of_ble_eq_true rfl) ?_
  show vc P (c_glebelaw08_CheckKnown fr fl ft fc fw).code ⟨[], [], h⟩ (atEnd (c_glebelaw08_CheckKnown fr fl ft fc fw).res _)
  simp only [c_glebelaw08_CheckKnown, go_sem, reduceIte, Nat.reduceEqDiff, Nat.reduceAdd, Nat.reduceLeDiff, Nat.reducePow, Nat.reduceDiv, Nat.reduceMod, decide_true]
  have B1 := bx10 h (some (.arr 1 (ns08.map fun n => [AV.int .i64 n]) false))
  have eN : ns08.map (fun n => [AV.int .i64 n]) = [[.int .i64 (-9223372036854775808)], [.int .i64 (-1)], [.int .i64 0], [.int .i64 1], [.int .i64 2], [.int .i64 3], [.int .i64 4], [.int .i64 5], [.int .i64 9], [.int .i64 10], [.int .i64 11], [.int .i64 1099511627775], [.int .i64 1099511627776], [.int .i64 1099511627777], [.int .i64 4611686018427387904], [.int .i64 9223372036854775807]] := rfl
  rw [← eN]
  obtain ⟨n1, hn1⟩ : ∃ n, h.length = n := ⟨_, rfl⟩
  rw [hn1] at B1 ⊢
  generalize h ++ [some (ABlk.arr 1 (ns08.map fun n => [AV.int .i64 n]) false)] = H at *
  clear eN
  obtain ⟨I, hI⟩ : ∃ I : Nat → Env → AHeap → Prop, ∀ m L h', I m L h' ↔ ∃ i : Nat, lk 1 L = .ref n1 1 0 16 (some 16) ∧ lk 2 L = .int .i64 i ∧ h'[n1]? = some (some (.arr 1 (ns08.map fun n => [AV.int .i64 n]) false)) ∧ i ≤ 16 ∧ m = 16 - i := ⟨_, fun _ _ _ => Iff.rfl⟩
  refine vc_loop I 16 ((hI _ _ _).2 ⟨0, by simp [lk_ins, lk_cons], by simp [lk_ins, lk_cons], B1, by omega, by omega⟩) ?_
  clear B1
  intro m L H3 hh
  obtain ⟨i, k1, k2, B1, hi, rfl⟩ := (hI _ _ _).1 hh
  have la10 : ∀ n, alen (.ref n 1 0 16 (some 16)) = some (.int .i64 16) := fun _ => rfl
  simp only [c_glebelaw08_CheckKnown_l1, go_sem, reduceIte, Nat.reduceEqDiff, Nat.reduceAdd, Nat.reduceLeDiff, Nat.reducePow, Nat.reduceDiv, Nat.reduceMod, decide_true, k1, k2, la10]
  refine wCond_split (fun ci => ?_) (fun ci => ?_)
  · simp at ci
    have ci : i < 16 := by omega
    have xi := ix_lit n1 16 i (some 16) .i64 ci
    simp only [go_sem, reduceIte, Nat.reduceEqDiff, Nat.reduceAdd, Nat.reduceLeDiff, Nat.reducePow, Nat.reduceDiv, Nat.reduceMod, decide_true, k1, k2]
    obtain ⟨J, hJ⟩ : ∃ J : Nat → Env → AHeap → Prop, ∀ m L h', J m L h' ↔ ∃ k : Nat, lk 1 L = .ref n1 1 0 16 (some 16) ∧ lk 2 L = .int .i64 i ∧ lk 3 L = .int .i64 k ∧ h'[n1]? = some (some (.arr 1 (ns08.map fun n => [AV.int .i64 n]) false)) ∧ k ≤ 16 ∧ m = 16 - k := ⟨_, fun _ _ _ => Iff.rfl⟩
    refine vc_loop J 16 ((hJ _ _ _).2 ⟨0, by simp [lk_ins, k1], by simp [lk_ins, k2], by simp [lk_ins], B1, by omega, by omega⟩) ?_
    clear k1 k2 B1
    intro m L H4 hh
    obtain ⟨k, k1, k2, k3, B1, hk', rfl⟩ := (hJ _ _ _).1 hh
    simp only [c_glebelaw08_CheckKnown_l0, go_sem, reduceIte, Nat.reduceEqDiff, Nat.reduceAdd, Nat.reduceLeDiff, Nat.reducePow, Nat.reduceDiv, Nat.reduceMod, decide_true, k1, k2, k3, la10]
    refine wCond_split (fun ck => ?_) (fun ck => ?_)
    · simp at ck
      have ck : k < 16 := by omega
      have xk := ix_lit n1 16 k (some 16) .i64 ck
      have ltn := (List.getElem?_eq_some_iff.1 B1).1
      have ews : IntKind.i64.wrap (↑k + 1) = (k : Int) + 1 := wrap_i64 (by omega)
      have ri : (ns08.map fun n => [AV.int .i64 n])[i]? = some [.int .i64 (ns08[i]'ci)] := by rw [List.getElem?_map, List.getElem?_eq_getElem ci]; rfl
      have rk : (ns08.map fun n => [AV.int .i64 n])[k]? = some [.int .i64 (ns08[k]'ck)] := by rw [List.getElem?_map, List.getElem?_eq_getElem ck]; rfl
      have ra := ns08_R _ (List.getElem_mem ci)
      have rb := ns08_R _ (List.getElem_mem ck)
      generalize ns08[i]'ci = a at *
      generalize ns08[k]'ck = b at *
      have hb1 : ∀ x y z, (H4 ++ [x] ++ [y] ++ [z])[n1]? = some (some (.arr 1 (ns08.map fun n => [AV.int .i64 n]) false)) := fun x y z => (Ext.b3 x y z).get B1
      have nri : notRes H4.length 3 (.ptr n1 1 i 0) = true := notRes_lt ltn
      have nrk : notRes H4.length 3 (.ptr n1 1 k 0) = true := notRes_lt ltn
      have sb : ∀ l, (abytes l).scalar = true := fun l => scalar_abytes l
      have cb : ∀ l, (abytes l).cells? = some [abytes l] := fun l => cells_of (sb l)
      simp only [go_sem, reduceIte, Nat.reduceEqDiff, Nat.reduceAdd, Nat.reduceLeDiff, Nat.reducePow, Nat.reduceDiv, Nat.reduceMod, decide_true, k1, k2, k3, xi, xk, hb1, ri, rk, nri, nrk, loose_cons]
      refine use1 hr.1 (hr.2 _ 40 (by omega)) ?_
      simp only [go_sem, reduceIte, Nat.reduceEqDiff, Nat.reduceAdd, Nat.reduceLeDiff, Nat.reducePow, Nat.reduceDiv, Nat.reduceMod, decide_true, k1, k2, k3, xi, xk, hb1, ri, rk, nri, nrk, sb, cb, loose_cons]
      refine ⟨by simp, ?_⟩
      refine use1 hr.1 (hr.2 _ 41 (by omega)) ?_
      simp only [go_sem, reduceIte, Nat.reduceEqDiff, Nat.reduceAdd, Nat.reduceLeDiff, Nat.reducePow, Nat.reduceDiv, Nat.reduceMod, decide_true, k1, k2, k3, xi, xk, hb1, ri, rk, nri, nrk, sb, cb, loose_cons]
      refine ⟨by simp, ?_⟩
      refine use1 hr.1 (hr.2 _ 80 (by omega)) ?_
      simp only [go_sem, reduceIte, Nat.reduceEqDiff, Nat.reduceAdd, Nat.reduceLeDiff, Nat.reducePow, Nat.reduceDiv, Nat.reduceMod, decide_true, k1, k2, k3, xi, xk, hb1, ri, rk, nri, nrk, sb, cb, loose_cons]
      refine ⟨by simp, ?_⟩
      have b0 : (H4 ++ [some (ABlk.arr 1 [[.int .u8 7]] false)] ++ [some (ABlk.arr 1 [[.int .i64 1], [.int .i64 b]] false)] ++ [some (ABlk.arr 6 [[.int .i64 0, .int .i64 a, .int .i64 b, .int .i64 1, .ref H4.length 1 0 1 (some 1), .nils], [.int .i64 0, .int .i64 1, .int .i64 3, .int .i64 a, abytes (rowB 40), .nils], [.int .i64 0, .int .i64 1, .int .i64 3, .int .i64 b, abytes (rowB 41), .nils], [.int .i64 0, .int .i64 1, .int .i64 3, .int .i64 2, .nils, .nils], [.int .i64 2, .int .i64 a, .int .i64 b, .int .i64 0, .nils, .nils], [.int .i64 0, .int .i64 1, .int .i64 3, .int .i64 3, abytes (rowB 80), .nils], [.int .i64 1, .int .i64 1, .int .i64 3, .int .i64 0, .nils, .ref (H4.length + 1) 1 0 2 (some 2)]] false)])[H4.length]? = some (some (.arr 1 [[.int .u8 7]] false)) := bx30 H4 _ _ _
      have b1 : (H4 ++ [some (ABlk.arr 1 [[.int .u8 7]] false)] ++ [some (ABlk.arr 1 [[.int .i64 1], [.int .i64 b]] false)] ++ [some (ABlk.arr 6 [[.int .i64 0, .int .i64 a, .int .i64 b, .int .i64 1, .ref H4.length 1 0 1 (some 1), .nils], [.int .i64 0, .int .i64 1, .int .i64 3, .int .i64 a, abytes (rowB 40), .nils], [.int .i64 0, .int .i64 1, .int .i64 3, .int .i64 b, abytes (rowB 41), .nils], [.int .i64 0, .int .i64 1, .int .i64 3, .int .i64 2, .nils, .nils], [.int .i64 2, .int .i64 a, .int .i64 b, .int .i64 0, .nils, .nils], [.int .i64 0, .int .i64 1, .int .i64 3, .int .i64 3, abytes (rowB 80), .nils], [.int .i64 1, .int .i64 1, .int .i64 3, .int .i64 0, .nils, .ref (H4.length + 1) 1 0 2 (some 2)]] false)])[H4.length + 1]? = some (some (.arr 1 [[.int .i64 1], [.int .i64 b]] false)) := bx31 H4 _ _ _
      have b2 : (H4 ++ [some (ABlk.arr 1 [[.int .u8 7]] false)] ++ [some (ABlk.arr 1 [[.int .i64 1], [.int .i64 b]] false)] ++ [some (ABlk.arr 6 [[.int .i64 0, .int .i64 a, .int .i64 b, .int .i64 1, .ref H4.length 1 0 1 (some 1), .nils], [.int .i64 0, .int .i64 1, .int .i64 3, .int .i64 a, abytes (rowB 40), .nils], [.int .i64 0, .int .i64 1, .int .i64 3, .int .i64 b, abytes (rowB 41), .nils], [.int .i64 0, .int .i64 1, .int .i64 3, .int .i64 2, .nils, .nils], [.int .i64 2, .int .i64 a, .int .i64 b, .int .i64 0, .nils, .nils], [.int .i64 0, .int .i64 1, .int .i64 3, .int .i64 3, abytes (rowB 80), .nils], [.int .i64 1, .int .i64 1, .int .i64 3, .int .i64 0, .nils, .ref (H4.length + 1) 1 0 2 (some 2)]] false)])[H4.length + 1 + 1]? = some (some (.arr 6 [[.int .i64 0, .int .i64 a, .int .i64 b, .int .i64 1, .ref H4.length 1 0 1 (some 1), .nils], [.int .i64 0, .int .i64 1, .int .i64 3, .int .i64 a, abytes (rowB 40), .nils], [.int .i64 0, .int .i64 1, .int .i64 3, .int .i64 b, abytes (rowB 41), .nils], [.int .i64 0, .int .i64 1, .int .i64 3, .int .i64 2, .nils, .nils], [.int .i64 2, .int .i64 a, .int .i64 b, .int .i64 0, .nils, .nils], [.int .i64 0, .int .i64 1, .int .i64 3, .int .i64 3, abytes (rowB 80), .nils], [.int .i64 1, .int .i64 1, .int .i64 3, .int .i64 0, .nils, .ref (H4.length + 1) 1 0 2 (some 2)]] false)) := bx32 H4 _ _ _
      have B5 : (H4 ++ [some (ABlk.arr 1 [[.int .u8 7]] false)] ++ [some (ABlk.arr 1 [[.int .i64 1], [.int .i64 b]] false)] ++ [some (ABlk.arr 6 [[.int .i64 0, .int .i64 a, .int .i64 b, .int .i64 1, .ref H4.length 1 0 1 (some 1), .nils], [.int .i64 0, .int .i64 1, .int .i64 3, .int .i64 a, abytes (rowB 40), .nils], [.int .i64 0, .int .i64 1, .int .i64 3, .int .i64 b, abytes (rowB 41), .nils], [.int .i64 0, .int .i64 1, .int .i64 3, .int .i64 2, .nils, .nils], [.int .i64 2, .int .i64 a, .int .i64 b, .int .i64 0, .nils, .nils], [.int .i64 0, .int .i64 1, .int .i64 3, .int .i64 3, abytes (rowB 80), .nils], [.int .i64 1, .int .i64 1, .int .i64 3, .int .i64 0, .nils, .ref (H4.length + 1) 1 0 2 (some 2)]] false)])[n1]? = some (some (.arr 1 (ns08.map fun n => [AV.int .i64 n]) false)) := hb1 _ _ _
      trace_state
      generalize (H4 ++ [some (ABlk.arr 1 [[.int .u8 7]] false)] ++ [some (ABlk.arr 1 [[.int .i64 1], [.int .i64 b]] false)] ++ [some (ABlk.arr 6 [[.int .i64 0, .int .i64 a, .int .i64 b, .int .i64 1, .ref H4.length 1 0 1 (some 1), .nils], [.int .i64 0, .int .i64 1, .int .i64 3, .int .i64 a, abytes (rowB 40), .nils], [.int .i64 0, .int .i64 1, .int .i64 3, .int .i64 b, abytes (rowB 41), .nils], [.int .i64 0, .int .i64 1, .int .i64 3, .int .i64 2, .nils, .nils], [.int .i64 2, .int .i64 a, .int .i64 b, .int .i64 0, .nils, .nils], [.int .i64 0, .int .i64 1, .int .i64 3, .int .i64 3, abytes (rowB 80), .nils], [.int .i64 1, .int .i64 1, .int .i64 3, .int .i64 0, .nils, .ref (H4.length + 1) 1 0 2 (some 2)]] false)]) = H7 at *
      have nl := nl_rd8 H7
      have rd : Rd (fun _ => True) H7 (dOps8 [⟨0, a, b, 1, [7], []⟩, ⟨0, 1, 3, a, rowB 40, []⟩, ⟨0, 1, 3, b, rowB 41, []⟩, ⟨0, 1, 3, 2, [], []⟩, ⟨2, a, b, 0, [], []⟩, ⟨0, 1, 3, 3, rowB 80, []⟩, ⟨1, 1, 3, 0, [], [1, b]⟩]) (.ref (H4.length + 1 + 1) 6 0 7 (some 7)) :=
        rd_rowL b2 rfl ⟨_, _, rfl, row8_rd (rd_lit (k := .u8) (xs := [7]) b0 rfl) nl, _, _, rfl, row8_rd (rd_abytes _ _ _) nl, _, _, rfl, row8_rd (rd_abytes _ _ _) nl, _, _, rfl, row8_rd nl nl, _, _, rfl, row8_rd nl nl, _, _, rfl, row8_rd (rd_abytes _ _ _) nl, _, _, rfl, row8_rd nl (rd_lit (k := .i64) (xs := [1, b]) b1 rfl), rfl⟩
      refine use1 hl.1 (law_gen (hl.2 10 _ [] ?_) (AsL.int _ _ (AsL.d rd AsL.nil))) ?_
      · have e : ∀ {k a n e : Int} {d q : List Int}, (-9223372036854775808 ≤ n ∧ n ≤ 9223372036854775807) → bytesOk d → (⟨k, a, n, e, d, q⟩ : Op8).R := fun h h' => ⟨h, h'⟩
        simp only [List.forall_mem_cons]
        exact ⟨e rb (by intro x hx; simp at hx; omega), e (by omega) (rowB_bytes _), e (by omega) (rowB_bytes _), e (by omega) bytesOk_nil, e rb bytesOk_nil, e (by omega) (rowB_bytes _), e (by omega) bytesOk_nil, fun o ho => by cases ho⟩
      simp only [go_sem, reduceIte, Nat.reduceEqDiff, Nat.reduceAdd, Nat.reduceLeDiff, Nat.reducePow, Nat.reduceDiv, Nat.reduceMod, decide_true, k1, k2, k3, ews]
      exact ⟨_, by omega, (hJ _ _ _).2 ⟨k + 1, by simp [lk_ins, k1], by simp [lk_ins, k2], by simp [lk_ins], B5, by omega, rfl⟩⟩
    · have ew : IntKind.i64.wrap (↑i + 1) = (i : Int) + 1 := wrap_i64 (by omega)
      simp only [go_sem, reduceIte, Nat.reduceEqDiff, Nat.reduceAdd, Nat.reduceLeDiff, Nat.reducePow, Nat.reduceDiv, Nat.reduceMod, decide_true, k1, k2, k3, ew]
      exact ⟨_, by omega, (hI _ _ _).2 ⟨i + 1, by simp [lk_ins, k1], by simp [lk_ins], B1, ci, rfl⟩⟩
  · simp only [go_sem, reduceIte, Nat.reduceEqDiff, Nat.reduceAdd, Nat.reduceLeDiff, Nat.reducePow, Nat.reduceDiv, Nat.reduceMod, decide_true, k1, k2]
    refine use1 ht.1 (ht.2 _) ?_
    simp only [go_sem, reduceIte, Nat.reduceEqDiff, Nat.reduceAdd, Nat.reduceLeDiff, Nat.reducePow, Nat.reduceDiv, Nat.reduceMod, decide_true]
    refine use1 hc.1 (hc.2 _) ?_
    simp only [go_sem, reduceIte, Nat.reduceEqDiff, Nat.reduceAdd, Nat.reduceLeDiff, Nat.reducePow, Nat.reduceDiv, Nat.reduceMod, decide_true]
    refine use1 hw.1 (hw.2 _) ?_
    simp only [go_sem, reduceIte, Nat.reduceEqDiff, Nat.reduceAdd, Nat.reduceLeDiff, Nat.reducePow, Nat.reduceDiv, Nat.reduceMod, decide_true]

end Glb
