/-
  A library of its own: its parts, one behind the other.
-/
import Derived.Test.YtifkpnagloijkaaGlbSecC
set_option linter.unusedSimpArgs false
set_option linter.unusedVariables false
/-
  Layer 4: Row, SameRows, shown and in.
-/
namespace Glb
open Go
set_option maxRecDepth 10000
set_option maxHeartbeats 8000000

def rowB (n : Nat) : List Int := (List.range n).map fun (i : Nat) => IntKind.u8.wrap ((i : Int) * 7 + 1)
theorem rowB_length (n : Nat) : (rowB n).length = n := by simp [rowB]
def RowOk (P : Program) (f : FuncId) : Prop := isFn P f = true ∧ ∀ (h : AHeap) (n : Nat), n ≤ 2^40 → ACalls P f [.int .i64 n] h fun r h' => r = abytes (rowB n) ∧ h' = h

theorem amax0 {n : Int} (hn : 0 ≤ n) : amnmx true [.int .i64 0, .int .i64 n] = some (.int .i64 n) := by
  simp only [amnmx, amnmx.aux]
  by_cases c : n = 0
  · subst c; rfl
  · simp [show (0:Int) < n by omega]

theorem row_ok {P : Program} {f : FuncId} (hf : Is P f c_glebekit_Row) : RowOk P f := by
  refine ⟨hf.2, fun h n hn => ACalls.freeze (K := fun r h' => Own (dBytes (rowB n)) (fun m => h.length ≤ m) h' r ∧ Ext nof h h') (fun_sound hf.1 (Nat.le_of_ble_eq_true rfl) ?_) (fun _ _ hk => ⟨hk.2, _, Frz.d (Own.fz (dBytes _) (fun _ x => x) _ hk.1), rfl⟩)⟩
  show vc P c_glebekit_Row.code ⟨[(0, .int .i64 n)], [], h⟩ (atEnd c_glebekit_Row.res _)
  have hm := amks_int (h := h) (sz := 1) (bytes := 1) (zero := [.int .u8 0]) (k := .i64) (k' := .i64) (l := ((n : Nat) : Int)) (c := ((n : Nat) : Int)) (by omega) (by omega) (by omega)
  simp only [Int.toNat_natCast] at hm
  simp only [c_glebekit_Row, go_sem, reduceIte, Nat.reduceEqDiff, Nat.reduceAdd, Nat.reduceLeDiff, Nat.reducePow, Nat.reduceDiv, Nat.reduceMod, decide_true, rev_mnmx, List.map_cons, List.map_nil, amax0 (Int.natCast_nonneg n), hev_mks, hm]
  obtain ⟨I, hI⟩ : ∃ I : Nat → Env → AHeap → Prop, ∀ m E h', I m E h' ↔ ∃ (i : Nat) (row : List (List AV)), lk 3 E = .ref h.length 1 0 n (some n) ∧ lk 4 E = .int .i64 i ∧ h' = h ++ [some (.arr 1 row false)] ∧ row.length = n ∧
    (∀ j, j < n → ∃ v, row[j]? = some [.int .u8 v]) ∧ (∀ j, j < i → row[j]? = some [.int .u8 (IntKind.u8.wrap ((j : Int) * 7 + 1))]) ∧ i ≤ n ∧ m = n - i := ⟨_, fun _ _ _ => Iff.rfl⟩
  refine vc_loop I n ((hI _ _ _).2 ⟨0, _, by simp [lk_ins, lk_cons], by simp [lk_ins], rfl, by simp, fun j hj => ⟨0, by simp [hj]⟩, fun j hj => by omega, by omega, by omega⟩) ?_
  intro m E h' hh
  obtain ⟨i, row, k3, k4, rfl, hr, hv, hd, hi, rfl⟩ := (hI _ _ _).1 hh
  have la3 : alen (.ref h.length 1 0 n (some n)) = some (.int .i64 n) := rfl
  simp only [c_glebekit_Row_l0, go_sem, reduceIte, Nat.reduceEqDiff, Nat.reduceAdd, Nat.reduceLeDiff, Nat.reducePow, Nat.reduceDiv, Nat.reduceMod, decide_true, k3, k4, la3]
  refine wCond_split (fun ci => ?_) (fun ci => ?_)
  · simp at ci
    have ci' : i < n := by omega
    obtain ⟨v, hvi⟩ := hv i ci'
    have e2 : IntKind.i64.wrap (↑i + 1) = (i : Int) + 1 := wrap_i64 (by omega)
    have e7 : IntKind.i64.wrap ((i : Int) * 7) = (i : Int) * 7 := wrap_i64 (by omega)
    have e8 : IntKind.i64.wrap ((i : Int) * 7 + 1) = (i : Int) * 7 + 1 := wrap_i64 (by omega)
    have hix : aindex 1 (.ref h.length 1 0 n (some n)) (.int .i64 i) = some (.ptr h.length 1 i 0) := by simp only [aindex]; rw [if_pos ⟨trivial, by omega, by omega⟩]; simp
    have st : ∀ (u : Int), astore (h ++ [some (.arr 1 row false)]) 1 (.ptr h.length 1 i 0) (.int .u8 u) = some (h ++ [some (.arr 1 (row.set i [.int .u8 u]) false)]) := fun u => by
      have := astore_elem (x := .int .u8 u) (bx10 h (some (.arr 1 row false))) hvi rfl rfl rfl rfl
      rw [this, sx10]
    simp only [go_sem, reduceIte, Nat.reduceEqDiff, Nat.reduceAdd, Nat.reduceLeDiff, Nat.reducePow, Nat.reduceDiv, Nat.reduceMod, decide_true, k3, k4, hix, e7, e8, e2, st]
    refine ⟨_, by omega, (hI _ _ _).2 ⟨i + 1, _, by simp [lk_ins, k3], by simp [lk_ins], rfl, by simpa using hr, fun j hj => ?_, fun j hj => ?_, by omega, rfl⟩⟩
    · by_cases e : j = i
      · subst e; exact ⟨_, List.getElem?_set_self (by omega)⟩
      · rw [List.getElem?_set_ne (fun x => e x.symm)]; exact hv j hj
    · by_cases e : j = i
      · subst e; exact List.getElem?_set_self (by omega)
      · rw [List.getElem?_set_ne (fun x => e x.symm)]; exact hd j (by omega)
  · simp at ci
    obtain rfl : i = n := by omega
    have hrow : row = (rowB i).map fun n => [.int .u8 n] := by
      apply List.ext_getElem?
      intro j
      rcases Nat.lt_or_ge j i with hj | hj
      · rw [hd j hj]; simp [rowB, hj]
      · rw [List.getElem?_eq_none (by omega), List.getElem?_eq_none (by simp [rowB_length]; omega)]
    subst hrow
    simp only [go_sem, reduceIte, Nat.reduceEqDiff, Nat.reduceAdd, Nat.reduceLeDiff, Nat.reducePow, Nat.reduceDiv, Nat.reduceMod, decide_true, k3]
    refine ⟨?_, Ext.b1 _⟩
    simp only [dBytes, Own, List.length_map, rowB_length]
    exact .inr (.inr ⟨_, 0, _, _, false, rfl, Nat.le_refl _, bx10 _ _, by simp [rowB_length], (fun c hc => by cases hc; omega), by rw [List.drop_zero, List.take_of_length_le (by simp [rowB_length])]; exact ownLL_ints .u8 _ _ _⟩)

def dRows (l : List (List Int)) : D := .sl 1 (l.map fun b => [dBytes b])
def arows (l : List (List Int)) : AV := (dRows l).av
theorem rd_arows (F : Nat → Prop) (h : AHeap) (l : List (List Int)) : Rd F h (dRows l) (arows l) := rd_av _ _ _
theorem len_arows (l : List (List Int)) : alen (arows l) = some (.int .i64 l.length) := by simpa using (rd_arows nof [] l).len
theorem rows_at {l : List (List Int)} {i : Nat} (hi : i < l.length) : ∃ p, aindex 1 (arows l) (.int .i64 i) = some p ∧ ∀ h, aload h false 1 p = some (abytes l[i]) := by
  obtain ⟨p, hp1, hp2⟩ := index_av 1 (fun b => [dBytes b]) l .i64 hi
  exact ⟨p, hp1, fun h => by rw [aload_p (hp2 h)]; rfl⟩

def SameRowsOk (P : Program) (f : FuncId) : Prop := isFn P f = true ∧ ∀ (h : AHeap) (x y : List (List Int)), x.length ≤ 2^40 → (∀ b ∈ x, b.length ≤ 2^40) →
  ACalls P f [arows x, arows y] h fun r h' => r = .bool (decide (x = y)) ∧ h' = h

theorem samerows_ok {P : Program} {f g : FuncId} (hf : Is P f (c_glebekit_SameRows g)) (hg : SameOk P g .u8) : SameRowsOk P f := by
  refine ⟨hf.2, fun h x y hx hxb => fun_sound hf.1 (Nat.le_of_ble_eq_true rfl) ?_⟩
  show vc P (c_glebekit_SameRows g).code ⟨[(0, arows x), (1, arows y)], [], h⟩ (atEnd (c_glebekit_SameRows g).res _)
  by_cases c : x.length = y.length
  · have c' : (x.length : Int) = (y.length : Int) := by omega
    simp only [c_glebekit_SameRows, go_sem, reduceIte, Nat.reduceEqDiff, Nat.reduceAdd, Nat.reduceLeDiff, Nat.reducePow, Nat.reduceDiv, Nat.reduceMod, decide_true, len_arows, decide_eq_true c']
    obtain ⟨I, hI⟩ : ∃ I : Nat → Env → AHeap → Prop, ∀ m E h', I m E h' ↔ ∃ (i : Nat), lk 0 E = arows x ∧ lk 1 E = arows y ∧ lk 5 E = .int .i64 i ∧ h' = h ∧ x.take i = y.take i ∧ i ≤ x.length ∧ m = x.length - i := ⟨_, fun _ _ _ => Iff.rfl⟩
    refine vc_loop I x.length ((hI _ _ _).2 ⟨0, by simp [lk_ins, lk_cons], by simp [lk_ins, lk_cons], by simp [lk_ins], rfl, by simp, by omega, by omega⟩) ?_
    intro m E h2 hh
    obtain ⟨i, k0, k1, k5, rfl, ht, hi, rfl⟩ := (hI _ _ _).1 hh
    simp only [c_glebekit_SameRows_l0, go_sem, reduceIte, Nat.reduceEqDiff, Nat.reduceAdd, Nat.reduceLeDiff, Nat.reducePow, Nat.reduceDiv, Nat.reduceMod, decide_true, k0, k1, k5, len_arows]
    refine wCond_split (fun ci => ?_) (fun ci => ?_)
    · simp at ci
      have ci2 : i < y.length := by omega
      obtain ⟨p, p1, p2⟩ := rows_at ci
      obtain ⟨q, q1, q2⟩ := rows_at ci2
      have ew : IntKind.i64.wrap (↑i + 1) = (i : Int) + 1 := wrap_i64 (by omega)
      simp only [go_sem, reduceIte, Nat.reduceEqDiff, Nat.reduceAdd, Nat.reduceLeDiff, Nat.reducePow, Nat.reduceDiv, Nat.reduceMod, decide_true, k0, k1, k5, p1, p2, q1, q2]
      refine use1 hg.1 (hg.2 nof h2 _ _ _ _ (rd_abytes _ _ x[i]) (rd_abytes _ _ y[i]) (hxb _ (List.getElem_mem ci))) ?_
      by_cases e : x[i] = y[i]
      · simp only [go_sem, reduceIte, Nat.reduceEqDiff, Nat.reduceAdd, Nat.reduceLeDiff, Nat.reducePow, Nat.reduceDiv, Nat.reduceMod, decide_true, decide_eq_true e, k0, k1, k5, p1, p2, q1, q2, ew]
        refine ⟨_, by omega, (hI _ _ _).2 ⟨i + 1, by simp [lk_ins, k0], by simp [lk_ins, k1], by simp [lk_ins], rfl, ?_, ci, rfl⟩⟩
        rw [List.take_succ_eq_append_getElem ci, List.take_succ_eq_append_getElem ci2, ht, e]
      · have ne : ¬ x = y := by rintro rfl; exact e rfl
        simp only [go_sem, reduceIte, Nat.reduceEqDiff, Nat.reduceAdd, Nat.reduceLeDiff, Nat.reducePow, Nat.reduceDiv, Nat.reduceMod, decide_true, decide_eq_false e, decide_eq_false ne, p1, p2, q1, q2]
    · simp at ci
      obtain rfl : i = x.length := by omega
      have e : x = y := by rw [List.take_length, c, List.take_length] at ht; exact ht
      simp only [go_sem, reduceIte, Nat.reduceEqDiff, Nat.reduceAdd, Nat.reduceLeDiff, Nat.reducePow, Nat.reduceDiv, Nat.reduceMod, decide_true, decide_eq_true e]
  · have c' : ¬ (x.length : Int) = (y.length : Int) := by omega
    have ne : ¬ x = y := by rintro rfl; exact c rfl
    simp only [c_glebekit_SameRows, go_sem, reduceIte, Nat.reduceEqDiff, Nat.reduceAdd, Nat.reduceLeDiff, Nat.reducePow, Nat.reduceDiv, Nat.reduceMod, decide_true, len_arows, decide_eq_false c', decide_eq_false ne, Bool.not_false]

end Glb

/-
  Layer 4: shown, in, and the laws of reading, in plain lists.
-/
namespace Glb
open Go
set_option maxRecDepth 10000
set_option maxHeartbeats 8000000

def Dk.cell (d : Dk) (i : Int) : List Int := if (d.read i).2 = 0 then (d.read i).1 else rowB 65
def Dk.shown (d : Dk) : List (List Int) := (List.range (min d.n.toNat 64)).map fun (i : Nat) => d.cell (i : Int)

def ShownOk (P : Program) (f : FuncId) : Prop := isFn P f = true ∧ ∀ (F : Nat → Prop) (h : AHeap) (p : Nat) (d : Dk), DiskAt F h p d → ACalls P f [.ptr p 6 0 0] h fun r h' => r = arows d.shown ∧ h' = h
def InOk4 (P : Program) (f : FuncId) : Prop := isFn P f = true ∧ ∀ (h : AHeap) (l : List Int) (n : Int), l.length ≤ 2^40 → ACalls P f [aints l, .int .i64 n] h fun r h' => r = .bool (decide (n ∈ l)) ∧ h' = h

theorem in4_ok {P : Program} {f : FuncId} (hf : Is P f c_glebelaw04_in) : InOk4 P f := by
  refine ⟨hf.2, fun h l n hl => fun_sound hf.1 (Nat.le_of_ble_eq_true rfl) ?_⟩
  show vc P c_glebelaw04_in.code ⟨[(0, aints l), (1, .int .i64 n)], [], h⟩ (atEnd c_glebelaw04_in.res _)
  simp only [c_glebelaw04_in, go_sem, reduceIte, Nat.reduceEqDiff, Nat.reduceAdd, Nat.reduceLeDiff, Nat.reducePow, Nat.reduceDiv, Nat.reduceMod, decide_true]
  obtain ⟨I, hI⟩ : ∃ I : Nat → Env → AHeap → Prop, ∀ m E h', I m E h' ↔ ∃ (i : Nat), lk 0 E = aints l ∧ lk 1 E = .int .i64 n ∧ lk 5 E = .int .i64 i ∧ h' = h ∧ (∀ j (hj : j < l.length), j < i → l[j] ≠ n) ∧ i ≤ l.length ∧ m = l.length - i := ⟨_, fun _ _ _ => Iff.rfl⟩
  refine vc_loop I l.length ((hI _ _ _).2 ⟨0, by simp [lk_ins, lk_cons], by simp [lk_ins, lk_cons], by simp [lk_ins], rfl, fun j _ hj => by omega, by omega, by omega⟩) ?_
  intro m E h2 hh
  obtain ⟨i, k0, k1, k5, rfl, hn, hi, rfl⟩ := (hI _ _ _).1 hh
  simp only [c_glebelaw04_in_l0, go_sem, reduceIte, Nat.reduceEqDiff, Nat.reduceAdd, Nat.reduceLeDiff, Nat.reducePow, Nat.reduceDiv, Nat.reduceMod, decide_true, k0, k1, k5]
  refine wCond_split (fun ci => ?_) (fun ci => ?_)
  · simp at ci
    obtain ⟨p, p1, p2⟩ := (rd_aints nof h2 l).int_at ci
    have ew : IntKind.i64.wrap (↑i + 1) = (i : Int) + 1 := wrap_i64 (by omega)
    by_cases c : l[i] = n
    · have hm : n ∈ l := by rw [← c]; exact List.getElem_mem ci
      simp only [go_sem, reduceIte, Nat.reduceEqDiff, Nat.reduceAdd, Nat.reduceLeDiff, Nat.reducePow, Nat.reduceDiv, Nat.reduceMod, decide_true, k0, k1, k5, p1, p2, decide_eq_true c, decide_eq_true hm]
    · simp only [go_sem, reduceIte, Nat.reduceEqDiff, Nat.reduceAdd, Nat.reduceLeDiff, Nat.reducePow, Nat.reduceDiv, Nat.reduceMod, decide_true, k0, k1, k5, p1, p2, decide_eq_false c, ew]
      refine ⟨_, by omega, (hI _ _ _).2 ⟨i + 1, by simp [lk_ins, k0], by simp [lk_ins, k1], by simp [lk_ins], rfl, fun j hj hji => ?_, ci, rfl⟩⟩
      by_cases e : j = i
      · subst e; exact c
      · exact hn j hj (by omega)
  · simp at ci
    obtain rfl : i = l.length := by omega
    have hm : ¬ n ∈ l := fun hm => by obtain ⟨j, hj, e⟩ := List.getElem_of_mem hm; exact hn j hj hj e
    simp only [go_sem, reduceIte, Nat.reduceEqDiff, Nat.reduceAdd, Nat.reduceLeDiff, Nat.reducePow, Nat.reduceDiv, Nat.reduceMod, decide_true, decide_eq_false hm]

theorem shown_ok {P : Program} {f g1 g2 g3 : FuncId} (hf : Is P f (c_glebelaw04_shown g1 g2 g3)) (h1 : DLenOk P g1) (h2 : ReadDP P g2) (h3 : RowOk P g3) : ShownOk P f := by
  refine ⟨hf.2, fun F h p d da => ACalls.freeze (K := fun r h' => OwnO h.length h' 1 r (D.avLL (d.shown.map fun b => [dBytes b])) ∧ Ext nof h h') (fun_sound hf.1 (Nat.le_of_ble_eq_true rfl) ?_) (fun _ _ hk => ⟨hk.2, _, Frz.d (OwnO.fz hk.1 (Nat.le_refl _)), rfl⟩)⟩
  show vc P (c_glebelaw04_shown g1 g2 g3).code ⟨[(0, .ptr p 6 0 0)], [], h⟩ (atEnd (c_glebelaw04_shown g1 g2 g3).res _)
  have dn := da.ok.n
  have sl : d.shown.length = min d.n.toNat 64 := by simp [Dk.shown]
  simp only [c_glebelaw04_shown, go_sem, reduceIte, Nat.reduceEqDiff, Nat.reduceAdd, Nat.reduceLeDiff, Nat.reducePow, Nat.reduceDiv, Nat.reduceMod, decide_true]
  obtain ⟨I, hI⟩ : ∃ I : Nat → Env → AHeap → Prop, ∀ m E h', I m E h' ↔ ∃ (i : Nat) (o : AV), lk 0 E = .ptr p 6 0 0 ∧ lk 3 E = o ∧ lk 4 E = .int .i64 i ∧ OwnO h.length h' 1 o (D.avLL ((d.shown.take i).map fun b => [dBytes b])) ∧ Ext nof h h' ∧ i ≤ d.shown.length ∧ m = d.shown.length - i := ⟨_, fun _ _ _ => Iff.rfl⟩
  refine vc_loop I d.shown.length ((hI _ _ _).2 ⟨0, .nils, by simp [lk_ins, lk_cons], by simp [lk_ins, lk_cons], by simp [lk_ins], .inl ⟨rfl, by simp [D.avLL]⟩, Ext.refl _ _, by omega, by omega⟩) ?_
  intro m E h2' hh
  obtain ⟨i, o, k0, k3, k4, hO, hE, hi, rfl⟩ := (hI _ _ _).1 hh
  have da2 := da.up hE
  simp only [c_glebelaw04_shown_l0, go_sem, reduceIte, Nat.reduceEqDiff, Nat.reduceAdd, Nat.reduceLeDiff, Nat.reducePow, Nat.reduceDiv, Nat.reduceMod, decide_true, k0, k3, k4]
  refine use1 h1.1 (h1.2 F h2' p d da2) ?_
  by_cases ci : i < d.shown.length
  · have c1 : (i : Int) < d.n := by omega
    have c2 : (i : Int) < 64 := by omega
    have ew : IntKind.i64.wrap (↑i + 1) = (i : Int) + 1 := wrap_i64 (by omega)
    have ec : d.shown[i] = d.cell i := by simp [Dk.shown]
    have tk : D.avLL ((d.shown.take (i + 1)).map fun b => [dBytes b]) = D.avLL ((d.shown.take i).map fun b => [dBytes b]) ++ [[abytes (d.cell i)]] := by
      rw [List.take_succ_eq_append_getElem ci, ec, avLL_map, avLL_map]; simp only [List.map_append, List.map_cons, List.map_nil]; rfl
    have sc : (abytes (d.cell i)).scalar = true := scalar_abytes _
    obtain ⟨o2, h3', s1, s2, s3⟩ := acc_app (bytes := 24) (h := h2' ++ [some (.arr 1 [[abytes (d.cell i)]] false)]) (ys := [[abytes (d.cell i)]]) hO (Ext.b1 _) hE.1 (by simp [avLL_length]; omega)
    have s1' := s1
    rw [← aappend_of (aelems_new h2' 1 [[abytes (d.cell i)]] false (some 1) (len := 1) rfl)] at s1'
    have fin : ∃ m', m' < d.shown.length - i ∧ ∀ E, lk 0 E = .ptr p 6 0 0 → lk 3 E = o2 → lk 4 E = .int .i64 ((i : Int) + 1) → I m' E h3' :=
      ⟨_, by omega, fun E q0 q3 q4 => (hI _ _ _).2 ⟨i + 1, o2, q0, q3, q4, by rw [tk]; exact s2, (hE.tr (Ext.b1 _)).then s3 (fun m hm hm' => by omega), ci, rfl⟩⟩
    obtain ⟨m', f1, f2⟩ := fin
    simp only [go_sem, reduceIte, Nat.reduceEqDiff, Nat.reduceAdd, Nat.reduceLeDiff, Nat.reducePow, Nat.reduceDiv, Nat.reduceMod, decide_true, k0, k3, k4, decide_eq_true c1, decide_eq_true c2]
    refine use1 h2.1 (h2.2 F h2' p d i da2) ?_
    by_cases c3 : (d.read i).2 = 0
    · have e0 : d.cell i = (d.read i).1 := if_pos c3
      rw [e0] at s1'
      simp only [go_sem, reduceIte, Nat.reduceEqDiff, Nat.reduceAdd, Nat.reduceLeDiff, Nat.reducePow, Nat.reduceDiv, Nat.reduceMod, decide_true, k0, k3, k4, decide_eq_true c3, s1', ew]
      exact ⟨m', f1, f2 _ (by simp [lk_ins, k0]) (by simp [lk_ins]) (by simp [lk_ins])⟩
    · have e0 : d.cell i = rowB 65 := if_neg c3
      rw [e0] at s1'
      simp only [go_sem, reduceIte, Nat.reduceEqDiff, Nat.reduceAdd, Nat.reduceLeDiff, Nat.reducePow, Nat.reduceDiv, Nat.reduceMod, decide_true, k0, k3, k4, decide_eq_false c3, Bool.not_false]
      refine use1 h3.1 (h3.2 h2' 65 (by omega)) ?_
      simp only [go_sem, reduceIte, Nat.reduceEqDiff, Nat.reduceAdd, Nat.reduceLeDiff, Nat.reducePow, Nat.reduceDiv, Nat.reduceMod, decide_true, k0, k3, k4, s1', ew]
      exact ⟨m', f1, f2 _ (by simp [lk_ins, k0]) (by simp [lk_ins]) (by simp [lk_ins])⟩
  · obtain rfl : i = d.shown.length := by omega
    rw [List.take_length] at hO
    by_cases c1 : (d.shown.length : Int) < d.n
    · have c2 : ¬ (d.shown.length : Int) < 64 := by omega
      simp only [go_sem, reduceIte, Nat.reduceEqDiff, Nat.reduceAdd, Nat.reduceLeDiff, Nat.reducePow, Nat.reduceDiv, Nat.reduceMod, decide_true, k0, k3, k4, decide_eq_true c1, decide_eq_false c2]
      exact ⟨hO, hE⟩
    · simp only [go_sem, reduceIte, Nat.reduceEqDiff, Nat.reduceAdd, Nat.reduceLeDiff, Nat.reducePow, Nat.reduceDiv, Nat.reduceMod, decide_true, k0, k3, k4, decide_eq_false c1]
      exact ⟨hO, hE⟩

/-! the plain laws -/

theorem Dk.read_eq {d e : Dk} (hn : e.n = d.n) (h1 : ∀ i, sfind e.cache i = sfind d.cache i) (h2 : ∀ i, sfind e.lasts i = sfind d.lasts i) (i : Int) : e.read i = d.read i := by
  unfold Dk.read; rw [hn, h1, h2]
theorem Dk.shown_eq {d e : Dk} (hn : e.n = d.n) (h : ∀ i, e.read i = d.read i) : e.shown = d.shown := by
  unfold Dk.shown; rw [hn]; congr 1; funext i; unfold Dk.cell; rw [h]
theorem Dk.flush_n (d : Dk) : d.flush.1.n = d.n := by unfold Dk.flush; split; rfl; split; exact Dk.spend_n d; exact Dk.spend_n d
theorem Dk.crash_clean {d : Dk} (h : d.cache = []) (how : List Int) : (d.crash how).shown = d.shown := by
  refine Dk.shown_eq rfl fun i => Dk.read_eq (d := d) (e := d.crash how) rfl (fun i => ?_) (fun i => ?_) i
  · rw [h]; rfl
  · show sfind (crashed d.cache how d.lasts) i = _
    rw [h]; rfl

end Glb

/-
  Layer 4: the laws SectorFlushed and SectorFails.
-/
namespace Glb
open Go
set_option maxRecDepth 10000
set_option maxHeartbeats 8000000

end Glb

/-
  Layer 4: the law SectorFails.
-/
namespace Glb
open Go
set_option maxRecDepth 10000
set_option maxHeartbeats 8000000

theorem Dk.shown_small {d : Dk} (h : d.ok) : d.shown.length ≤ 2^40 ∧ ∀ b ∈ d.shown, b.length ≤ 2^40 := by
  refine ⟨by simp [Dk.shown]; omega, ?_⟩
  intro b hb
  simp only [Dk.shown, List.mem_map] at hb
  obtain ⟨i, -, rfl⟩ := hb
  unfold Dk.cell
  split
  · have := Dk.read_len h i; omega
  · rw [rowB_length]; omega

end Glb

/-
  Layer 4: the law SectorCrashed.
-/
namespace Glb
open Go
set_option maxRecDepth 10000
set_option maxHeartbeats 16000000

def cwant (x : Option Int) (c : Sec) (o : Option Sec) : Option Sec :=
  match x with
  | none => o
  | some v => if v = 0 then o else if v = 1 then some c else some ⟨c.no, [], true⟩
theorem sfind_cstep {l : List Sec} (hl : rises l) (x : Option Int) (c : Sec) (k : Int) : sfind (cstep x c l) k = if k = c.no then cwant x c (sfind l k) else sfind l k := by
  cases x with
  | none => simp [cstep, cwant]
  | some v =>
    simp only [cstep, cwant]
    by_cases h0 : v = 0
    · simp [h0]
    · by_cases h1 : v = 1
      · simp only [if_neg h0, if_pos h1]; rw [sfind_sput hl]
      · simp only [if_neg h0, if_neg h1]; rw [sfind_sput hl]
theorem rises_cstep {l : List Sec} (hl : rises l) (x : Option Int) (c : Sec) : rises (cstep x c l) := by
  cases x with
  | none => exact hl
  | some v => simp only [cstep]; split; exact hl; split <;> exact rises_sput hl _

theorem crashed_not {c l : List Sec} {how : List Int} (hl : rises l) {k : Int} (hk : ∀ s ∈ c, s.no ≠ k) : sfind (crashed c how l) k = sfind l k := by
  induction c generalizing l how with
  | nil => rfl
  | cons y r ih =>
    simp only [crashed]
    rw [ih (rises_cstep hl _ _) fun s hs => hk s (List.mem_cons_of_mem _ hs), sfind_cstep hl, if_neg]
    exact fun x => hk y (by simp) x.symm
theorem crashed_in {c l : List Sec} {how : List Int} (hc : rises c) (hl : rises l) {j : Nat} (hj : j < c.length) : sfind (crashed c how l) c[j].no = cwant how[j]? c[j] (sfind l c[j].no) := by
  induction c generalizing l how j with
  | nil => simp at hj
  | cons y r ih =>
    have hc' := hc
    unfold rises at hc
    rw [List.pairwise_cons] at hc
    simp only [crashed]
    cases j with
    | zero =>
      simp only [List.getElem_cons_zero]
      rw [crashed_not (rises_cstep hl _ _) fun s hs => by have := hc.1 s hs; omega, sfind_cstep hl, if_pos rfl, List.head?_eq_getElem?]
    | succ j =>
      simp only [List.getElem_cons_succ]
      have hj' : j < r.length := by simpa using hj
      rw [ih hc.2 (rises_cstep hl _ _) hj', sfind_cstep hl, if_neg (by have := hc.1 _ (List.getElem_mem hj'); omega)]
      simp

theorem crash_read (d : Dk) (how : List Int) {i : Int} (hi : 0 ≤ i ∧ i < d.n) : (d.crash how).read i = readL (sfind (crashed d.cache how d.lasts) i) := by
  unfold Dk.read
  rw [if_neg (by show ¬ (i < 0 ∨ d.n ≤ i); omega)]
  rfl
theorem crash_cell_not {d : Dk} (h : d.ok) (how : List Int) {i : Int} (hi : 0 ≤ i ∧ i < d.n) (hn : i ∉ d.dirty) : (d.crash how).cell i = d.cell i := by
  have hk : ∀ s ∈ d.cache, s.no ≠ i := fun s hs e => hn (by rw [← e]; exact List.mem_map.2 ⟨s, hs, rfl⟩)
  have e1 := crash_read d how hi
  rw [crashed_not h.lasts.1 hk] at e1
  have e2 : d.read i = readL (sfind d.lasts i) := by
    unfold Dk.read
    rw [if_neg (by omega), sfind_none.2 hk]
  unfold Dk.cell
  rw [e1, e2]
theorem crash_cell_in {d : Dk} (h : d.ok) (how : List Int) {j : Nat} (hj : j < d.cache.length) : (d.crash how).cell d.cache[j].no =
    match how[j]? with | none => (d.crash []).cell d.cache[j].no | some v => if v = 0 then (d.crash []).cell d.cache[j].no else if v = 1 then d.cell d.cache[j].no else rowB 65 := by
  have hm := List.getElem_mem hj
  have hr := h.cache.2 _ hm
  have hi : 0 ≤ d.cache[j].no ∧ d.cache[j].no < d.n := ⟨hr.1, hr.2.1⟩
  have e1 := crash_read d how hi
  have e2 := crash_read d [] hi
  rw [crashed_in h.cache.1 h.lasts.1 hj] at e1 e2
  have e3 : d.read d.cache[j].no = (d.cache[j].b, 0) := by
    unfold Dk.read
    rw [if_neg (by omega), sfind_mem h.cache.1 hm]
  simp only [List.getElem?_nil, cwant] at e2
  unfold Dk.cell
  rw [e1, e2, e3]
  cases how[j]? with
  | none => rfl
  | some v =>
    simp only [cwant]
    by_cases h0 : v = 0
    · simp only [if_pos h0]
    · by_cases h1 : v = 1
      · simp only [if_neg h0, if_pos h1, readL, hr.2.2.2]; rfl
      · simp only [if_neg h0, if_neg h1, readL]; rfl

theorem crashed_ok {P : Program} {f fw fl fp fn fe fr fs fd fc fo fi fb fq : FuncId} (hf : Is P f (c_glebelaw04_SectorCrashed fw fl fp fn fe fr fs fd fc fo fi fb fq)) (hw : YesOk P fw) (hl : Long4Ok P fl) (hp : PickOk P fp) (hn : NewDOk P fn) (he : DLenOk P fe) (hr : Run4Ok P fr) (hs : ShownOk P fs)
    (hd : DirtyP P fd) (hc : CrashDOk P fc) (ho : RowOk P fo) (hi : InOk4 P fi) (hb : SameOk P fb .u8) (hq : SameRowsOk P fq) (n : Int) (l : List Op4) (how more : List Int) (hR : ∀ o ∈ l, o.R) (h : AHeap) :
    ACalls P f [.int .i64 n, aops l, aints how, aints more] h fun r _ => r = .bool true := by
  refine fun_sound hf.1 (Nat.le_of_ble_eq_true rfl) ?_
  show vc P (c_glebelaw04_SectorCrashed fw fl fp fn fe fr fs fd fc fo fi fb fq).code ⟨[(0, .int .i64 n), (1, aops l), (2, aints how), (3, aints more)], [], h⟩ (atEnd (c_glebelaw04_SectorCrashed fw fl fp fn fe fr fs fd fc fo fi fb fq).res _)
  simp only [c_glebelaw04_SectorCrashed, go_sem, reduceIte, Nat.reduceEqDiff, Nat.reduceAdd, Nat.reduceLeDiff, Nat.reducePow, Nat.reduceDiv, Nat.reduceMod, decide_true]
  refine use1 hw.1 (hw.2 h) ?_
  simp only [go_sem, reduceIte, Nat.reduceEqDiff, Nat.reduceAdd, Nat.reduceLeDiff, Nat.reducePow, Nat.reduceDiv, Nat.reduceMod, decide_true]
  refine wCall_use ⟨hl.1, hl.2 h l⟩ ?_
  rintro _ h ⟨⟨b, rfl, hfew⟩, rfl⟩
  cases b with
  | true => simp only [go_sem, reduceIte, Nat.reduceEqDiff, Nat.reduceAdd, Nat.reduceLeDiff, Nat.reducePow, Nat.reduceDiv, Nat.reduceMod, decide_true]
  | false =>
    obtain ⟨h200, hfew⟩ := hfew rfl
    by_cases ch : 1024 < (how.length : Int)
    · simp only [go_sem, reduceIte, Nat.reduceEqDiff, Nat.reduceAdd, Nat.reduceLeDiff, Nat.reducePow, Nat.reduceDiv, Nat.reduceMod, decide_true, decide_eq_true ch]
    · simp only [go_sem, reduceIte, Nat.reduceEqDiff, Nat.reduceAdd, Nat.reduceLeDiff, Nat.reducePow, Nat.reduceDiv, Nat.reduceMod, decide_true, decide_eq_false ch]
      have ch' : how.length ≤ 1024 := by omega
      clear ch
      refine use1 hp.1 (hp.2 n 64 (by omega) h) ?_
      have pr := pick_lt (k := n) (n := 64) (by omega)
      generalize pick n 64 = k at *
      have ek : IntKind.i64.wrap (1 + k) = 1 + k := wrap_i64 (by omega)
      simp only [go_sem, reduceIte, Nat.reduceEqDiff, Nat.reduceAdd, Nat.reduceLeDiff, Nat.reducePow, Nat.reduceDiv, Nat.reduceMod, decide_true, ek]
      refine wCall_use ⟨hn.1, hn.2 h (1 + k)⟩ ?_
      rintro r h1 ⟨a1, -, x1⟩
      obtain ⟨p, rfl, da⟩ := a1 (by omega)
      obtain ⟨F, da, hF⟩ : ∃ F : Nat → Prop, DiskAt F h1 p (Dk.new (1 + k)) ∧ (∀ m, F m → m < h1.length) := ⟨_, da, fun m x => x.2⟩
      simp only [go_sem, reduceIte, Nat.reduceEqDiff, Nat.reduceAdd, Nat.reduceLeDiff, Nat.reducePow, Nat.reduceDiv, Nat.reduceMod, decide_true]
      refine use1 he.1 (he.2 F h1 p _ da) ?_
      rw [show (Dk.new (1 + k)).n = 1 + k from rfl]
      simp only [go_sem, reduceIte, Nat.reduceEqDiff, Nat.reduceAdd, Nat.reduceLeDiff, Nat.reducePow, Nat.reduceDiv, Nat.reduceMod, decide_true]
      refine wCall_use ⟨hn.1, hn.2 h1 (1 + k)⟩ ?_
      rintro r h2 ⟨a1, -, x2⟩
      obtain ⟨q, rfl, dc⟩ := a1 (by omega)
      obtain ⟨G, dc, hG, hGF⟩ : ∃ G : Nat → Prop, DiskAt G h2 q (Dk.new (1 + k)) ∧ (∀ m, G m → m < h2.length) ∧ (∀ m, G m → ¬ F m) := ⟨_, dc, fun m x => x.2, fun m x y => by have := hF m y; have := x.1; omega⟩
      have da := da.up x2
      have l12 := x2.1
      simp only [go_sem, reduceIte, Nat.reduceEqDiff, Nat.reduceAdd, Nat.reduceLeDiff, Nat.reducePow, Nat.reduceDiv, Nat.reduceMod, decide_true]
      obtain ⟨I, hI⟩ : ∃ I : Nat → Env → AHeap → Prop, ∀ m E h', I m E h' ↔ ∃ (i : Nat) (d : Dk), lk 1 E = aops l ∧ lk 2 E = aints how ∧ lk 3 E = aints more ∧ lk 9 E = .ptr p 6 0 0 ∧ lk 11 E = .ptr q 6 0 0 ∧ lk 13 E = .int .i64 i ∧ DiskAt F h' p d ∧ DiskAt G h' q d ∧ d.n = 1 + k ∧ h2.length ≤ h'.length ∧ i ≤ l.length ∧ m = l.length - i := ⟨_, fun _ _ _ => Iff.rfl⟩
      refine vc_loop I l.length ((hI _ _ _).2 ⟨0, _, by simp [lk_ins, lk_cons], by simp [lk_ins, lk_cons], by simp [lk_ins, lk_cons], by simp [lk_ins, lk_cons], by simp [lk_ins, lk_cons], by simp [lk_ins], da, dc, rfl, by omega, by omega, by omega⟩) ?_
      clear da dc
      intro m E H hh'
      obtain ⟨i, d, k1, k2, k3, k9, k11, k13, da, dc, en, lq, hi', rfl⟩ := (hI _ _ _).1 hh'
      have hFH : ∀ m, F m → m < H.length := fun m hm => by have := hF m hm; omega
      have hGH : ∀ m, G m → m < H.length := fun m hm => by have := hG m hm; omega
      simp only [c_glebelaw04_SectorCrashed_l0, go_sem, reduceIte, Nat.reduceEqDiff, Nat.reduceAdd, Nat.reduceLeDiff, Nat.reducePow, Nat.reduceDiv, Nat.reduceMod, decide_true, k1, k2, k3, k9, k11, k13, len_aops]
      refine wCond_split (fun ci => ?_) (fun ci => ?_)
      · simp at ci
        obtain ⟨pp, z1, z2, z3, z4, z5, -⟩ := ops_at ci
        have ew : IntKind.i64.wrap (↑i + 1) = (i : Int) + 1 := wrap_i64 (by omega)
        have hm := List.getElem_mem ci
        simp only [go_sem, reduceIte, Nat.reduceEqDiff, Nat.reduceAdd, Nat.reduceLeDiff, Nat.reducePow, Nat.reduceDiv, Nat.reduceMod, decide_true, k1, k9, k11, k13, z1, z2]
        refine wCall_use ⟨hr.1, hr.2 F H p d l[i] da (hfew _ hm) (hR _ hm) hFH⟩ ?_
        rintro _ H2 ⟨rfl, da2, x2'⟩
        have dc2 := dc.off x2' fun m _ hg hf => hGF m hg hf
        have lH := x2'.1
        simp only [go_sem, reduceIte, Nat.reduceEqDiff, Nat.reduceAdd, Nat.reduceLeDiff, Nat.reducePow, Nat.reduceDiv, Nat.reduceMod, decide_true, k1, k9, k11, k13, z1, z2]
        refine wCall_use ⟨hr.1, hr.2 G H2 q d l[i] dc2 (hfew _ hm) (hR _ hm) (fun m hm => by have := hGH m hm; omega)⟩ ?_
        rintro _ H3 ⟨rfl, dc3, x3⟩
        have da3 := da2.off x3 fun m _ hf hg => hGF m hg hf
        have en2 : (d.op l[i]).1.n = 1 + k := by
          rw [← en]; unfold Dk.op
          split
          · unfold Dk.write; split; rfl; split; rfl; split; rfl; split <;> exact Dk.spend_n d
          · split
            · exact Dk.flush_n d
            · split; rfl; split <;> rfl
        simp only [go_sem, reduceIte, Nat.reduceEqDiff, Nat.reduceAdd, Nat.reduceLeDiff, Nat.reducePow, Nat.reduceDiv, Nat.reduceMod, decide_true, k1, k9, k11, k13, ew]
        exact ⟨_, by omega, (hI _ _ _).2 ⟨i + 1, _, by simp [lk_ins, k1], by simp [lk_ins, k2], by simp [lk_ins, k3], by simp [lk_ins, k9], by simp [lk_ins, k11], by simp [lk_ins], da3, dc3, en2, by have := x3.1; omega, ci, rfl⟩⟩
      · clear hh' ci
        have ok := da.ok
        have clen := ok.clen
        simp only [go_sem, reduceIte, Nat.reduceEqDiff, Nat.reduceAdd, Nat.reduceLeDiff, Nat.reducePow, Nat.reduceDiv, Nat.reduceMod, decide_true, k9]
        refine use1 hs.1 (hs.2 F H p d da) ?_
        simp only [go_sem, reduceIte, Nat.reduceEqDiff, Nat.reduceAdd, Nat.reduceLeDiff, Nat.reducePow, Nat.reduceDiv, Nat.reduceMod, decide_true, k9]
        refine use1 hd.1 (hd.2 F H p d da) ?_
        simp only [go_sem, reduceIte, Nat.reduceEqDiff, Nat.reduceAdd, Nat.reduceLeDiff, Nat.reducePow, Nat.reduceDiv, Nat.reduceMod, decide_true, k11]
        refine wCall_use ⟨hc.1, hc.2 G nof H q d [] .nils dc (by simp only [dInts, Rd]; exact ⟨[], .inl ⟨rfl, rfl⟩, by simp only [List.map_nil, RdLL]⟩) (fun _ x => x.elim)⟩ ?_
        rintro _ H2 ⟨dc2, x2'⟩
        have da2 := da.off x2' fun m _ hf hg => hGF m hg hf
        simp only [go_sem, reduceIte, Nat.reduceEqDiff, Nat.reduceAdd, Nat.reduceLeDiff, Nat.reducePow, Nat.reduceDiv, Nat.reduceMod, decide_true, k11]
        refine use1 hs.1 (hs.2 G H2 q _ dc2) ?_
        simp only [go_sem, reduceIte, Nat.reduceEqDiff, Nat.reduceAdd, Nat.reduceLeDiff, Nat.reducePow, Nat.reduceDiv, Nat.reduceMod, decide_true, k9, k2]
        refine wCall_use ⟨hc.1, hc.2 F nof H2 p d how _ da2 (rd_aints _ _ _) (fun _ x => x.elim)⟩ ?_
        rintro _ H3 ⟨da3, x3⟩
        simp only [go_sem, reduceIte, Nat.reduceEqDiff, Nat.reduceAdd, Nat.reduceLeDiff, Nat.reducePow, Nat.reduceDiv, Nat.reduceMod, decide_true, k9]
        refine use1 hs.1 (hs.2 F H3 p _ da3) ?_
        simp only [go_sem, reduceIte, Nat.reduceEqDiff, Nat.reduceAdd, Nat.reduceLeDiff, Nat.reducePow, Nat.reduceDiv, Nat.reduceMod, decide_true]
        refine use1 ho.1 (ho.2 H3 65 (by omega)) ?_
        simp only [go_sem, reduceIte, Nat.reduceEqDiff, Nat.reduceAdd, Nat.reduceLeDiff, Nat.reducePow, Nat.reduceDiv, Nat.reduceMod, decide_true]
        clear da da2 dc dc2
        have sl : ∀ e : Dk, e.n = 1 + k → e.shown.length = (1 + k).toNat := fun e he => by simp [Dk.shown, he]; omega
        have sg : ∀ (e : Dk) (he : e.n = 1 + k) (i : Nat) (hi : i < e.shown.length), e.shown[i] = e.cell i := fun e he i hi => by simp [Dk.shown]
        clear hI I
        obtain ⟨N, hN⟩ : ∃ N : Nat, (1 + k).toNat = N := ⟨_, rfl⟩
        have sl0 := sl d en
        have sl1 := sl (d.crash how) en
        have sl2 := sl (d.crash []) en
        rw [hN] at sl0 sl1 sl2
        obtain ⟨I, hI⟩ : ∃ I : Nat → Env → AHeap → Prop, ∀ m E h', I m E h' ↔ ∃ (i j : Nat), lk 2 E = aints how ∧ lk 3 E = aints more ∧ lk 9 E = .ptr p 6 0 0 ∧ lk 14 E = arows d.shown ∧ lk 15 E = aints d.dirty ∧ lk 16 E = arows (d.crash []).shown ∧ lk 17 E = arows (d.crash how).shown ∧
          lk 18 E = abytes (rowB 65) ∧ lk 19 E = .int .i64 j ∧ lk 20 E = .int .i64 i ∧ h' = H3 ∧ j ≤ d.cache.length ∧ (∀ t (ht : t < d.cache.length), t < j ↔ d.cache[t].no < i) ∧ i ≤ N ∧ m = N - i := ⟨_, fun _ _ _ => Iff.rfl⟩
        refine vc_loop I N ((hI _ _ _).2 ⟨0, 0, by simp [lk_ins, k2], by simp [lk_ins, k3], by simp [lk_ins, k9], by simp [lk_ins], by simp [lk_ins], by simp [lk_ins], by simp [lk_ins], by simp [lk_ins], by simp [lk_ins], by simp [lk_ins], rfl, by omega, fun t ht => ⟨fun x => by omega, fun x => by have := (ok.cache.2 _ (List.getElem_mem ht)).1; omega⟩, by omega, by omega⟩) ?_
        clear k1 k2 k3 k9 k11 k13
        intro m E H4 hh'
        obtain ⟨i, j, k2, k3, k9, k14, k15, k16, k17, k18, k19, k20, rfl, hj, hjt, hi2, rfl⟩ := (hI _ _ _).1 hh'
        have dlen : d.dirty.length = d.cache.length := by simp [Dk.dirty]
        simp only [c_glebelaw04_SectorCrashed_l1, go_sem, reduceIte, Nat.reduceEqDiff, Nat.reduceAdd, Nat.reduceLeDiff, Nat.reducePow, Nat.reduceDiv, Nat.reduceMod, decide_true, k2, k3, k9, k14, k15, k16, k17, k18, k19, k20, len_arows, sl1]
        refine wCond_split (fun ci => ?_) (fun ci => ?_)
        · simp at ci
          have ew : IntKind.i64.wrap (↑i + 1) = (i : Int) + 1 := wrap_i64 (by omega)
          have ewj : IntKind.i64.wrap (↑j + 1) = (j : Int) + 1 := wrap_i64 (by omega)
          obtain ⟨p1, u1, v1⟩ := rows_at (l := (d.crash how).shown) (i := i) (by omega)
          obtain ⟨p2, u2, v2⟩ := rows_at (l := d.shown) (i := i) (by omega)
          obtain ⟨p3, u3, v3⟩ := rows_at (l := (d.crash []).shown) (i := i) (by omega)
          have w1 := sg (d.crash how) en i (by omega)
          have w2 := sg d en i (by omega)
          have w3 := sg (d.crash []) en i (by omega)
          rw [w1] at v1
          rw [w2] at v2
          rw [w3] at v3
          have ir : 0 ≤ (i : Int) ∧ (i : Int) < d.n := by omega
          simp only [go_sem, reduceIte, Nat.reduceEqDiff, Nat.reduceAdd, Nat.reduceLeDiff, Nat.reducePow, Nat.reduceDiv, Nat.reduceMod, decide_true, k15, k20]
          refine use1 hi.1 (hi.2 H4 d.dirty i (by omega)) ?_
          by_cases cd : (i : Int) ∈ d.dirty
          · obtain ⟨t, ht, et⟩ := List.getElem_of_mem cd
            have ht' : t < d.cache.length := by omega
            have et' : d.cache[t].no = i := by rw [← et]; simp [Dk.dirty]
            have q1 := hjt t ht'
            have jt : j = t := by
              rcases Nat.lt_trichotomy j t with hlt | he | hgt
              · have q2 := hjt j (by omega)
                have := rises_at ok.cache.1 hlt ht'
                omega
              · exact he
              · omega
            subst jt
            have ec := crash_cell_in ok how ht'
            rw [et'] at ec
            have nj : ∀ t (ht : t < d.cache.length), t < j + 1 ↔ d.cache[t].no < ((i + 1 : Nat) : Int) := fun t ht => by
              rcases Nat.lt_trichotomy t j with hlt | he | hgt
              · have := rises_at ok.cache.1 hlt ht'; omega
              · subst he; omega
              · have := rises_at ok.cache.1 hgt ht; omega
            have lb : ∀ e : Dk, e.ok → (e.cell i).length ≤ 2^40 := fun e he => by
              unfold Dk.cell; split
              · have := Dk.read_len he i; omega
              · rw [rowB_length]; omega
            have nxt : ∀ E' : Env, lk 2 E' = aints how → lk 3 E' = aints more → lk 9 E' = .ptr p 6 0 0 → lk 14 E' = arows d.shown → lk 15 E' = aints d.dirty → lk 16 E' = arows (d.crash []).shown → lk 17 E' = arows (d.crash how).shown →
                lk 18 E' = abytes (rowB 65) → lk 19 E' = .int .i64 ((j : Int) + 1) → lk 20 E' = .int .i64 ((i : Int) + 1) → ∃ m', m' < N - i ∧ I m' E' H4 := fun E' r2 r3 r9 r14 r15 r16 r17 r18 r19 r20 =>
              ⟨_, by omega, (hI _ _ _).2 ⟨i + 1, j + 1, r2, r3, r9, r14, r15, r16, r17, r18, r19, r20, rfl, by omega, nj, ci, rfl⟩⟩
            have okh := Dk.crash_ok ok how
            have lbh := lb _ okh
            have sme : ∀ x : List Int, decide (x = x) = true := fun x => by simp
            simp only [go_sem, reduceIte, Nat.reduceEqDiff, Nat.reduceAdd, Nat.reduceLeDiff, Nat.reducePow, Nat.reduceDiv, Nat.reduceMod, decide_true, decide_eq_true cd, Bool.not_true, k2, k18, k19]
            by_cases c1 : j < how.length
            · have c1' : ¬ (how.length : Int) ≤ (j : Int) := by omega
              obtain ⟨av, y1, y2⟩ := (rd_aints nof H4 how).int_at c1
              rw [List.getElem?_eq_getElem c1] at ec
              generalize how[j] = v at *
              simp only at ec
              by_cases c2 : v = 0
              · rw [if_pos c2] at ec
                rw [ec] at v1 lbh
                simp only [go_sem, reduceIte, Nat.reduceEqDiff, Nat.reduceAdd, Nat.reduceLeDiff, Nat.reducePow, Nat.reduceDiv, Nat.reduceMod, decide_true, decide_eq_false c1', y1, y2, decide_eq_true c2, k2, k19, k16, k17, k20, u1, u3, v1, v3]
                refine use1 hb.1 (hb.2 nof H4 _ _ _ _ (rd_abytes _ _ _) (rd_abytes _ _ _) lbh) ?_
                simp only [go_sem, reduceIte, Nat.reduceEqDiff, Nat.reduceAdd, Nat.reduceLeDiff, Nat.reducePow, Nat.reduceDiv, Nat.reduceMod, decide_true, sme, Bool.not_true, k19, k20, ew, ewj]
                exact nxt _ (by simp [lk_ins, k2]) (by simp [lk_ins, k3]) (by simp [lk_ins, k9]) (by simp [lk_ins, k14]) (by simp [lk_ins, k15]) (by simp [lk_ins, k16]) (by simp [lk_ins, k17]) (by simp [lk_ins, k18]) (by simp [lk_ins]) (by simp [lk_ins])
              · rw [if_neg c2] at ec
                by_cases c3 : v = 1
                · rw [if_pos c3] at ec
                  rw [ec] at v1 lbh
                  simp only [go_sem, reduceIte, Nat.reduceEqDiff, Nat.reduceAdd, Nat.reduceLeDiff, Nat.reducePow, Nat.reduceDiv, Nat.reduceMod, decide_true, decide_eq_false c1', y1, y2, decide_eq_false c2, decide_eq_true c3, k2, k19, k14, k17, k20, u1, u2, v1, v2]
                  refine use1 hb.1 (hb.2 nof H4 _ _ _ _ (rd_abytes _ _ _) (rd_abytes _ _ _) lbh) ?_
                  simp only [go_sem, reduceIte, Nat.reduceEqDiff, Nat.reduceAdd, Nat.reduceLeDiff, Nat.reducePow, Nat.reduceDiv, Nat.reduceMod, decide_true, sme, Bool.not_true, k19, k20, ew, ewj]
                  exact nxt _ (by simp [lk_ins, k2]) (by simp [lk_ins, k3]) (by simp [lk_ins, k9]) (by simp [lk_ins, k14]) (by simp [lk_ins, k15]) (by simp [lk_ins, k16]) (by simp [lk_ins, k17]) (by simp [lk_ins, k18]) (by simp [lk_ins]) (by simp [lk_ins])
                · rw [if_neg c3] at ec
                  rw [ec] at v1 lbh
                  simp only [go_sem, reduceIte, Nat.reduceEqDiff, Nat.reduceAdd, Nat.reduceLeDiff, Nat.reducePow, Nat.reduceDiv, Nat.reduceMod, decide_true, decide_eq_false c1', y1, y2, decide_eq_false c2, decide_eq_false c3, k2, k19, k17, k20, u1, v1]
                  refine use1 hb.1 (hb.2 nof H4 _ _ _ _ (rd_abytes _ _ _) (rd_abytes _ _ _) lbh) ?_
                  simp only [go_sem, reduceIte, Nat.reduceEqDiff, Nat.reduceAdd, Nat.reduceLeDiff, Nat.reducePow, Nat.reduceDiv, Nat.reduceMod, decide_true, sme, Bool.not_true, k19, k20, ew, ewj]
                  exact nxt _ (by simp [lk_ins, k2]) (by simp [lk_ins, k3]) (by simp [lk_ins, k9]) (by simp [lk_ins, k14]) (by simp [lk_ins, k15]) (by simp [lk_ins, k16]) (by simp [lk_ins, k17]) (by simp [lk_ins, k18]) (by simp [lk_ins]) (by simp [lk_ins])
            · have c1' : (how.length : Int) ≤ (j : Int) := by omega
              rw [List.getElem?_eq_none (by omega)] at ec
              simp only at ec
              rw [ec] at v1 lbh
              simp only [go_sem, reduceIte, Nat.reduceEqDiff, Nat.reduceAdd, Nat.reduceLeDiff, Nat.reducePow, Nat.reduceDiv, Nat.reduceMod, decide_true, decide_eq_true c1', k16, k17, k20, u1, u3, v1, v3]
              refine use1 hb.1 (hb.2 nof H4 _ _ _ _ (rd_abytes _ _ _) (rd_abytes _ _ _) lbh) ?_
              simp only [go_sem, reduceIte, Nat.reduceEqDiff, Nat.reduceAdd, Nat.reduceLeDiff, Nat.reducePow, Nat.reduceDiv, Nat.reduceMod, decide_true, sme, Bool.not_true, k19, k20, ew, ewj]
              exact nxt _ (by simp [lk_ins, k2]) (by simp [lk_ins, k3]) (by simp [lk_ins, k9]) (by simp [lk_ins, k14]) (by simp [lk_ins, k15]) (by simp [lk_ins, k16]) (by simp [lk_ins, k17]) (by simp [lk_ins, k18]) (by simp [lk_ins]) (by simp [lk_ins])
          · have ec := crash_cell_not ok how ir cd
            rw [ec] at v1
            have lb : (d.cell i).length ≤ 2^40 := by
              unfold Dk.cell; split
              · have := Dk.read_len ok i; omega
              · rw [rowB_length]; omega
            simp only [go_sem, reduceIte, Nat.reduceEqDiff, Nat.reduceAdd, Nat.reduceLeDiff, Nat.reducePow, Nat.reduceDiv, Nat.reduceMod, decide_true, decide_eq_false cd, Bool.not_false, k14, k17, k20, u1, v1, u2, v2]
            refine use1 hb.1 (hb.2 nof H4 _ _ _ _ (rd_abytes _ _ _) (rd_abytes _ _ _) lb) ?_
            have eq : decide (d.cell i = d.cell i) = true := by simp
            simp only [go_sem, reduceIte, Nat.reduceEqDiff, Nat.reduceAdd, Nat.reduceLeDiff, Nat.reducePow, Nat.reduceDiv, Nat.reduceMod, decide_true, eq, Bool.not_true, k20, ew, u1, u2, v1, v2]
            refine ⟨_, by omega, (hI _ _ _).2 ⟨i + 1, j, by simp [lk_ins, k2], by simp [lk_ins, k3], by simp [lk_ins, k9], by simp [lk_ins, k14], by simp [lk_ins, k15], by simp [lk_ins, k16], by simp [lk_ins, k17], by simp [lk_ins, k18], by simp [lk_ins, k19], by simp [lk_ins], rfl, hj, fun t ht => ?_, ci, rfl⟩⟩
            have q1 := hjt t ht
            have q2 : d.cache[t].no ≠ i := fun e => cd (by rw [← e]; exact List.mem_map.2 ⟨_, List.getElem_mem ht, rfl⟩)
            omega
        · simp at ci
          have ej : j = d.cache.length := by
            apply Classical.byContradiction
            intro hne
            have hlt : j < d.cache.length := by omega
            have := hjt j hlt
            have := (ok.cache.2 _ (List.getElem_mem hlt)).2.1
            omega
          have ed : (j : Int) = (d.dirty.length : Int) := by omega
          obtain ⟨sm1, sm2⟩ := Dk.shown_small (Dk.crash_ok ok how)
          simp only [go_sem, reduceIte, Nat.reduceEqDiff, Nat.reduceAdd, Nat.reduceLeDiff, Nat.reducePow, Nat.reduceDiv, Nat.reduceMod, decide_true, k3, k9]
          refine wCall_use ⟨hc.1, hc.2 F nof H4 p _ more _ da3 (rd_aints _ _ _) (fun _ x => x.elim)⟩ ?_
          rintro _ H5 ⟨da5, x5⟩
          have es : decide ((d.crash how).shown = ((d.crash how).crash more).shown) = true := by rw [Dk.crash_clean (d := d.crash how) rfl]; simp
          simp only [go_sem, reduceIte, Nat.reduceEqDiff, Nat.reduceAdd, Nat.reduceLeDiff, Nat.reducePow, Nat.reduceDiv, Nat.reduceMod, decide_true, k9, k15, k17, k19, decide_eq_true ed]
          refine use1 hs.1 (hs.2 F H5 p _ da5) ?_
          simp only [go_sem, reduceIte, Nat.reduceEqDiff, Nat.reduceAdd, Nat.reduceLeDiff, Nat.reducePow, Nat.reduceDiv, Nat.reduceMod, decide_true]
          refine use1 hq.1 (hq.2 H5 _ _ sm1 sm2) ?_
          simp only [go_sem, reduceIte, Nat.reduceEqDiff, Nat.reduceAdd, Nat.reduceLeDiff, Nat.reducePow, Nat.reduceDiv, Nat.reduceMod, decide_true, es]

end Glb
