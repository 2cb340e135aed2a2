/-
  A library of its own: its parts, one behind the other.
-/
import Derived.Test.YtifkpnagloijkaaGlbSecC
import Derived.Test.YtifkpnagloijkaaGlbLibE
set_option linter.unusedSimpArgs false
set_option linter.unusedVariables false
/-
  Layer 4: Row, SameRows, shown and in.
-/
namespace Glb
open Go
set_option maxRecDepth 10000
set_option maxHeartbeats 8000000

def rowB (n : Nat) : List Int := (List.range n).map fun (i : Nat) => IntKind.u8.wrap ((i : Int) * 7 + 1)
theorem rowB_length (n : Nat) : (rowB n).length = n := by simp [rowB]
def RowOk (P : Program) (f : FuncId) : Prop := isFn P f = true ∧ ∀ (h : AHeap) (n : Nat), n ≤ 2^40 → ACalls P f [.int .i64 n] h fun r h' => r = abytes (rowB n) ∧ h' = h

theorem amax0 {n : Int} (hn : 0 ≤ n) : amnmx true [.int .i64 0, .int .i64 n] = some (.int .i64 n) := by
  simp only [amnmx, amnmx.aux]
  by_cases c : n = 0
  · subst c; rfl
  · simp [show (0:Int) < n by omega]

theorem row_ok {P : Program} {f : FuncId} (hf : Is P f c_glebekit_Row) : RowOk P f := by
  refine ⟨hf.2, fun h n hn => ACalls.freeze (K := fun r h' => Own (dBytes (rowB n)) (fun m => h.length ≤ m) h' r ∧ Ext nof h h') (fun_sound hf.1 (Nat.le_of_ble_eq_true rfl) ?_) (fun _ _ hk => ⟨hk.2, _, Frz.d (Own.fz (dBytes _) (fun _ x => x) _ hk.1), rfl⟩)⟩
  show vc P c_glebekit_Row.code ⟨[(0, .int .i64 n)], [], h⟩ (atEnd c_glebekit_Row.res _)
  have hm := amks_int (h := h) (sz := 1) (bytes := 1) (zero := [.int .u8 0]) (k := .i64) (k' := .i64) (l := ((n : Nat) : Int)) (c := ((n : Nat) : Int)) (by omega) (by omega) (by omega)
  simp only [Int.toNat_natCast] at hm
  simp only [c_glebekit_Row, go_sem, reduceIte, Nat.reduceEqDiff, Nat.reduceAdd, Nat.reduceLeDiff, Nat.reducePow, Nat.reduceDiv, Nat.reduceMod, decide_true, rev_mnmx, List.map_cons, List.map_nil, amax0 (Int.natCast_nonneg n), hev_mks, hm]
  obtain ⟨I, hI⟩ : ∃ I : Nat → Env → AHeap → Prop, ∀ m E h', I m E h' ↔ ∃ (i : Nat) (row : List (List AV)), lk 3 E = .ref h.length 1 0 n (some n) ∧ lk 4 E = .int .i64 i ∧ h' = h ++ [some (.arr 1 row false)] ∧ row.length = n ∧
    (∀ j, j < n → ∃ v, row[j]? = some [.int .u8 v]) ∧ (∀ j, j < i → row[j]? = some [.int .u8 (IntKind.u8.wrap ((j : Int) * 7 + 1))]) ∧ i ≤ n ∧ m = n - i := ⟨_, fun _ _ _ => Iff.rfl⟩
  refine vc_loop I n ((hI _ _ _).2 ⟨0, _, by simp [lk_ins, lk_cons], by simp [lk_ins], rfl, by simp, fun j hj => ⟨0, by simp [hj]⟩, fun j hj => by omega, by omega, by omega⟩) ?_
  intro m E h' hh
  obtain ⟨i, row, k3, k4, rfl, hr, hv, hd, hi, rfl⟩ := (hI _ _ _).1 hh
  have la3 : alen (.ref h.length 1 0 n (some n)) = some (.int .i64 n) := rfl
  simp only [c_glebekit_Row_l0, go_sem, reduceIte, Nat.reduceEqDiff, Nat.reduceAdd, Nat.reduceLeDiff, Nat.reducePow, Nat.reduceDiv, Nat.reduceMod, decide_true, k3, k4, la3]
  refine wCond_split (fun ci => ?_) (fun ci => ?_)
  · simp at ci
    have ci' : i < n := by omega
    obtain ⟨v, hvi⟩ := hv i ci'
    have e2 : IntKind.i64.wrap (↑i + 1) = (i : Int) + 1 := wrap_i64 (by omega)
    have e7 : IntKind.i64.wrap ((i : Int) * 7) = (i : Int) * 7 := wrap_i64 (by omega)
    have e8 : IntKind.i64.wrap ((i : Int) * 7 + 1) = (i : Int) * 7 + 1 := wrap_i64 (by omega)
    have hix : aindex 1 (.ref h.length 1 0 n (some n)) (.int .i64 i) = some (.ptr h.length 1 i 0) := by simp only [aindex]; rw [if_pos ⟨trivial, by omega, by omega⟩]; simp
    have st : ∀ (u : Int), astore (h ++ [some (.arr 1 row false)]) 1 (.ptr h.length 1 i 0) (.int .u8 u) = some (h ++ [some (.arr 1 (row.set i [.int .u8 u]) false)]) := fun u => by
      have := astore_elem (x := .int .u8 u) (bx10 h (some (.arr 1 row false))) hvi rfl rfl rfl rfl
      rw [this, sx10]
    simp only [go_sem, reduceIte, Nat.reduceEqDiff, Nat.reduceAdd, Nat.reduceLeDiff, Nat.reducePow, Nat.reduceDiv, Nat.reduceMod, decide_true, k3, k4, hix, e7, e8, e2, st]
    refine ⟨_, by omega, (hI _ _ _).2 ⟨i + 1, _, by simp [lk_ins, k3], by simp [lk_ins], rfl, by simpa using hr, fun j hj => ?_, fun j hj => ?_, by omega, rfl⟩⟩
    · by_cases e : j = i
      · subst e; exact ⟨_, List.getElem?_set_self (by omega)⟩
      · rw [List.getElem?_set_ne (fun x => e x.symm)]; exact hv j hj
    · by_cases e : j = i
      · subst e; exact List.getElem?_set_self (by omega)
      · rw [List.getElem?_set_ne (fun x => e x.symm)]; exact hd j (by omega)
  · simp at ci
    obtain rfl : i = n := by omega
    have hrow : row = (rowB i).map fun n => [.int .u8 n] := by
      apply List.ext_getElem?
      intro j
      rcases Nat.lt_or_ge j i with hj | hj
      · rw [hd j hj]; simp [rowB, hj]
      · rw [List.getElem?_eq_none (by omega), List.getElem?_eq_none (by simp [rowB_length]; omega)]
    subst hrow
    simp only [go_sem, reduceIte, Nat.reduceEqDiff, Nat.reduceAdd, Nat.reduceLeDiff, Nat.reducePow, Nat.reduceDiv, Nat.reduceMod, decide_true, k3]
    refine ⟨?_, Ext.b1 _⟩
    simp only [dBytes, Own, List.length_map, rowB_length]
    exact .inr (.inr ⟨_, 0, _, _, false, rfl, Nat.le_refl _, bx10 _ _, by simp [rowB_length], (fun c hc => by cases hc; omega), by rw [List.drop_zero, List.take_of_length_le (by simp [rowB_length])]; exact ownLL_ints .u8 _ _ _⟩)

def dRows (l : List (List Int)) : D := .sl 1 (l.map fun b => [dBytes b])
def arows (l : List (List Int)) : AV := (dRows l).av
theorem rd_arows (F : Nat → Prop) (h : AHeap) (l : List (List Int)) : Rd F h (dRows l) (arows l) := rd_av _ _ _
theorem len_arows (l : List (List Int)) : alen (arows l) = some (.int .i64 l.length) := by simpa using (rd_arows nof [] l).len
theorem rows_at {l : List (List Int)} {i : Nat} (hi : i < l.length) : ∃ p, aindex 1 (arows l) (.int .i64 i) = some p ∧ ∀ h, aload h false 1 p = some (abytes l[i]) := by
  obtain ⟨p, hp1, hp2⟩ := index_av 1 (fun b => [dBytes b]) l .i64 hi
  exact ⟨p, hp1, fun h => by rw [aload_p (hp2 h)]; rfl⟩

def SameRowsOk (P : Program) (f : FuncId) : Prop := isFn P f = true ∧ ∀ (h : AHeap) (x y : List (List Int)), x.length ≤ 2^40 → (∀ b ∈ x, b.length ≤ 2^40) →
  ACalls P f [arows x, arows y] h fun r h' => r = .bool (decide (x = y)) ∧ h' = h

theorem samerows_ok {P : Program} {f g : FuncId} (hf : Is P f (c_glebekit_SameRows g)) (hg : SameOk P g .u8) : SameRowsOk P f := by
  refine ⟨hf.2, fun h x y hx hxb => fun_sound hf.1 (Nat.le_of_ble_eq_true rfl) ?_⟩
  show vc P (c_glebekit_SameRows g).code ⟨[(0, arows x), (1, arows y)], [], h⟩ (atEnd (c_glebekit_SameRows g).res _)
  by_cases c : x.length = y.length
  · have c' : (x.length : Int) = (y.length : Int) := by omega
    simp only [c_glebekit_SameRows, go_sem, reduceIte, Nat.reduceEqDiff, Nat.reduceAdd, Nat.reduceLeDiff, Nat.reducePow, Nat.reduceDiv, Nat.reduceMod, decide_true, len_arows, decide_eq_true c']
    obtain ⟨I, hI⟩ : ∃ I : Nat → Env → AHeap → Prop, ∀ m E h', I m E h' ↔ ∃ (i : Nat), lk 0 E = arows x ∧ lk 1 E = arows y ∧ lk 5 E = .int .i64 i ∧ h' = h ∧ x.take i = y.take i ∧ i ≤ x.length ∧ m = x.length - i := ⟨_, fun _ _ _ => Iff.rfl⟩
    refine vc_loop I x.length ((hI _ _ _).2 ⟨0, by simp [lk_ins, lk_cons], by simp [lk_ins, lk_cons], by simp [lk_ins], rfl, by simp, by omega, by omega⟩) ?_
    intro m E h2 hh
    obtain ⟨i, k0, k1, k5, rfl, ht, hi, rfl⟩ := (hI _ _ _).1 hh
    simp only [c_glebekit_SameRows_l0, go_sem, reduceIte, Nat.reduceEqDiff, Nat.reduceAdd, Nat.reduceLeDiff, Nat.reducePow, Nat.reduceDiv, Nat.reduceMod, decide_true, k0, k1, k5, len_arows]
    refine wCond_split (fun ci => ?_) (fun ci => ?_)
    · simp at ci
      have ci2 : i < y.length := by omega
      obtain ⟨p, p1, p2⟩ := rows_at ci
      obtain ⟨q, q1, q2⟩ := rows_at ci2
      have ew : IntKind.i64.wrap (↑i + 1) = (i : Int) + 1 := wrap_i64 (by omega)
      simp only [go_sem, reduceIte, Nat.reduceEqDiff, Nat.reduceAdd, Nat.reduceLeDiff, Nat.reducePow, Nat.reduceDiv, Nat.reduceMod, decide_true, k0, k1, k5, p1, p2, q1, q2]
      refine use1 hg.1 (hg.2 nof h2 _ _ _ _ (rd_abytes _ _ x[i]) (rd_abytes _ _ y[i]) (hxb _ (List.getElem_mem ci))) ?_
      by_cases e : x[i] = y[i]
      · simp only [go_sem, reduceIte, Nat.reduceEqDiff, Nat.reduceAdd, Nat.reduceLeDiff, Nat.reducePow, Nat.reduceDiv, Nat.reduceMod, decide_true, decide_eq_true e, k0, k1, k5, p1, p2, q1, q2, ew]
        refine ⟨_, by omega, (hI _ _ _).2 ⟨i + 1, by simp [lk_ins, k0], by simp [lk_ins, k1], by simp [lk_ins], rfl, ?_, ci, rfl⟩⟩
        rw [List.take_succ_eq_append_getElem ci, List.take_succ_eq_append_getElem ci2, ht, e]
      · have ne : ¬ x = y := by rintro rfl; exact e rfl
        simp only [go_sem, reduceIte, Nat.reduceEqDiff, Nat.reduceAdd, Nat.reduceLeDiff, Nat.reducePow, Nat.reduceDiv, Nat.reduceMod, decide_true, decide_eq_false e, decide_eq_false ne, p1, p2, q1, q2]
    · simp at ci
      obtain rfl : i = x.length := by omega
      have e : x = y := by rw [List.take_length, c, List.take_length] at ht; exact ht
      simp only [go_sem, reduceIte, Nat.reduceEqDiff, Nat.reduceAdd, Nat.reduceLeDiff, Nat.reducePow, Nat.reduceDiv, Nat.reduceMod, decide_true, decide_eq_true e]
  · have c' : ¬ (x.length : Int) = (y.length : Int) := by omega
    have ne : ¬ x = y := by rintro rfl; exact c rfl
    simp only [c_glebekit_SameRows, go_sem, reduceIte, Nat.reduceEqDiff, Nat.reduceAdd, Nat.reduceLeDiff, Nat.reducePow, Nat.reduceDiv, Nat.reduceMod, decide_true, len_arows, decide_eq_false c', decide_eq_false ne, Bool.not_false]

end Glb

/-
  Layer 4: shown, in, and the laws of reading, in plain lists.
-/
namespace Glb
open Go
set_option maxRecDepth 10000
set_option maxHeartbeats 8000000

def Dk.cell (d : Dk) (i : Int) : List Int := if (d.read i).2 = 0 then (d.read i).1 else rowB 65
def Dk.shown (d : Dk) : List (List Int) := (List.range (min d.n.toNat 64)).map fun (i : Nat) => d.cell (i : Int)

def ShownOk (P : Program) (f : FuncId) : Prop := isFn P f = true ∧ ∀ (F : Nat → Prop) (h : AHeap) (p : Nat) (d : Dk), DiskAt F h p d → ACalls P f [.ptr p 6 0 0] h fun r h' => r = arows d.shown ∧ h' = h
def InOk4 (P : Program) (f : FuncId) : Prop := isFn P f = true ∧ ∀ (h : AHeap) (l : List Int) (n : Int), l.length ≤ 2^40 → ACalls P f [aints l, .int .i64 n] h fun r h' => r = .bool (decide (n ∈ l)) ∧ h' = h

theorem in4_ok {P : Program} {f : FuncId} (hf : Is P f c_glebelaw04_in) : InOk4 P f := by
  refine ⟨hf.2, fun h l n hl => fun_sound hf.1 (Nat.le_of_ble_eq_true rfl) ?_⟩
  show vc P c_glebelaw04_in.code ⟨[(0, aints l), (1, .int .i64 n)], [], h⟩ (atEnd c_glebelaw04_in.res _)
  simp only [c_glebelaw04_in, go_sem, reduceIte, Nat.reduceEqDiff, Nat.reduceAdd, Nat.reduceLeDiff, Nat.reducePow, Nat.reduceDiv, Nat.reduceMod, decide_true]
  obtain ⟨I, hI⟩ : ∃ I : Nat → Env → AHeap → Prop, ∀ m E h', I m E h' ↔ ∃ (i : Nat), lk 0 E = aints l ∧ lk 1 E = .int .i64 n ∧ lk 5 E = .int .i64 i ∧ h' = h ∧ (∀ j (hj : j < l.length), j < i → l[j] ≠ n) ∧ i ≤ l.length ∧ m = l.length - i := ⟨_, fun _ _ _ => Iff.rfl⟩
  refine vc_loop I l.length ((hI _ _ _).2 ⟨0, by simp [lk_ins, lk_cons], by simp [lk_ins, lk_cons], by simp [lk_ins], rfl, fun j _ hj => by omega, by omega, by omega⟩) ?_
  intro m E h2 hh
  obtain ⟨i, k0, k1, k5, rfl, hn, hi, rfl⟩ := (hI _ _ _).1 hh
  simp only [c_glebelaw04_in_l0, go_sem, reduceIte, Nat.reduceEqDiff, Nat.reduceAdd, Nat.reduceLeDiff, Nat.reducePow, Nat.reduceDiv, Nat.reduceMod, decide_true, k0, k1, k5]
  refine wCond_split (fun ci => ?_) (fun ci => ?_)
  · simp at ci
    obtain ⟨p, p1, p2⟩ := (rd_aints nof h2 l).int_at ci
    have ew : IntKind.i64.wrap (↑i + 1) = (i : Int) + 1 := wrap_i64 (by omega)
    by_cases c : l[i] = n
    · have hm : n ∈ l := by rw [← c]; exact List.getElem_mem ci
      simp only [go_sem, reduceIte, Nat.reduceEqDiff, Nat.reduceAdd, Nat.reduceLeDiff, Nat.reducePow, Nat.reduceDiv, Nat.reduceMod, decide_true, k0, k1, k5, p1, p2, decide_eq_true c, decide_eq_true hm]
    · simp only [go_sem, reduceIte, Nat.reduceEqDiff, Nat.reduceAdd, Nat.reduceLeDiff, Nat.reducePow, Nat.reduceDiv, Nat.reduceMod, decide_true, k0, k1, k5, p1, p2, decide_eq_false c, ew]
      refine ⟨_, by omega, (hI _ _ _).2 ⟨i + 1, by simp [lk_ins, k0], by simp [lk_ins, k1], by simp [lk_ins], rfl, fun j hj hji => ?_, ci, rfl⟩⟩
      by_cases e : j = i
      · subst e; exact c
      · exact hn j hj (by omega)
  · simp at ci
    obtain rfl : i = l.length := by omega
    have hm : ¬ n ∈ l := fun hm => by obtain ⟨j, hj, e⟩ := List.getElem_of_mem hm; exact hn j hj hj e
    simp only [go_sem, reduceIte, Nat.reduceEqDiff, Nat.reduceAdd, Nat.reduceLeDiff, Nat.reducePow, Nat.reduceDiv, Nat.reduceMod, decide_true, decide_eq_false hm]

theorem shown_ok {P : Program} {f g1 g2 g3 : FuncId} (hf : Is P f (c_glebelaw04_shown g1 g2 g3)) (h1 : DLenOk P g1) (h2 : ReadDP P g2) (h3 : RowOk P g3) : ShownOk P f := by
  refine ⟨hf.2, fun F h p d da => ACalls.freeze (K := fun r h' => OwnO h.length h' 1 r (D.avLL (d.shown.map fun b => [dBytes b])) ∧ Ext nof h h') (fun_sound hf.1 (Nat.le_of_ble_eq_true rfl) ?_) (fun _ _ hk => ⟨hk.2, _, Frz.d (OwnO.fz hk.1 (Nat.le_refl _)), rfl⟩)⟩
  show vc P (c_glebelaw04_shown g1 g2 g3).code ⟨[(0, .ptr p 6 0 0)], [], h⟩ (atEnd (c_glebelaw04_shown g1 g2 g3).res _)
  have dn := da.ok.n
  have sl : d.shown.length = min d.n.toNat 64 := by simp [Dk.shown]
  simp only [c_glebelaw04_shown, go_sem, reduceIte, Nat.reduceEqDiff, Nat.reduceAdd, Nat.reduceLeDiff, Nat.reducePow, Nat.reduceDiv, Nat.reduceMod, decide_true]
  obtain ⟨I, hI⟩ : ∃ I : Nat → Env → AHeap → Prop, ∀ m E h', I m E h' ↔ ∃ (i : Nat) (o : AV), lk 0 E = .ptr p 6 0 0 ∧ lk 3 E = o ∧ lk 4 E = .int .i64 i ∧ OwnO h.length h' 1 o (D.avLL ((d.shown.take i).map fun b => [dBytes b])) ∧ Ext nof h h' ∧ i ≤ d.shown.length ∧ m = d.shown.length - i := ⟨_, fun _ _ _ => Iff.rfl⟩
  refine vc_loop I d.shown.length ((hI _ _ _).2 ⟨0, .nils, by simp [lk_ins, lk_cons], by simp [lk_ins, lk_cons], by simp [lk_ins], .inl ⟨rfl, by simp [D.avLL]⟩, Ext.refl _ _, by omega, by omega⟩) ?_
  intro m E h2' hh
  obtain ⟨i, o, k0, k3, k4, hO, hE, hi, rfl⟩ := (hI _ _ _).1 hh
  have da2 := da.up hE
  simp only [c_glebelaw04_shown_l0, go_sem, reduceIte, Nat.reduceEqDiff, Nat.reduceAdd, Nat.reduceLeDiff, Nat.reducePow, Nat.reduceDiv, Nat.reduceMod, decide_true, k0, k3, k4]
  refine use1 h1.1 (h1.2 F h2' p d da2) ?_
  by_cases ci : i < d.shown.length
  · have c1 : (i : Int) < d.n := by omega
    have c2 : (i : Int) < 64 := by omega
    have ew : IntKind.i64.wrap (↑i + 1) = (i : Int) + 1 := wrap_i64 (by omega)
    have ec : d.shown[i] = d.cell i := by simp [Dk.shown]
    have tk : D.avLL ((d.shown.take (i + 1)).map fun b => [dBytes b]) = D.avLL ((d.shown.take i).map fun b => [dBytes b]) ++ [[abytes (d.cell i)]] := by
      rw [List.take_succ_eq_append_getElem ci, ec, avLL_map, avLL_map]; simp only [List.map_append, List.map_cons, List.map_nil]; rfl
    have sc : (abytes (d.cell i)).scalar = true := scalar_abytes _
    obtain ⟨o2, h3', s1, s2, s3⟩ := acc_app (bytes := 24) (h := h2' ++ [some (.arr 1 [[abytes (d.cell i)]] false)]) (ys := [[abytes (d.cell i)]]) hO (Ext.b1 _) hE.1 (by simp [avLL_length]; omega)
    have s1' := s1
    rw [← aappend_of (aelems_new h2' 1 [[abytes (d.cell i)]] false (some 1) (len := 1) rfl)] at s1'
    have fin : ∃ m', m' < d.shown.length - i ∧ ∀ E, lk 0 E = .ptr p 6 0 0 → lk 3 E = o2 → lk 4 E = .int .i64 ((i : Int) + 1) → I m' E h3' :=
      ⟨_, by omega, fun E q0 q3 q4 => (hI _ _ _).2 ⟨i + 1, o2, q0, q3, q4, by rw [tk]; exact s2, (hE.tr (Ext.b1 _)).then s3 (fun m hm hm' => by omega), ci, rfl⟩⟩
    obtain ⟨m', f1, f2⟩ := fin
    simp only [go_sem, reduceIte, Nat.reduceEqDiff, Nat.reduceAdd, Nat.reduceLeDiff, Nat.reducePow, Nat.reduceDiv, Nat.reduceMod, decide_true, k0, k3, k4, decide_eq_true c1, decide_eq_true c2]
    refine use1 h2.1 (h2.2 F h2' p d i da2) ?_
    by_cases c3 : (d.read i).2 = 0
    · have e0 : d.cell i = (d.read i).1 := if_pos c3
      rw [e0] at s1'
      simp only [go_sem, reduceIte, Nat.reduceEqDiff, Nat.reduceAdd, Nat.reduceLeDiff, Nat.reducePow, Nat.reduceDiv, Nat.reduceMod, decide_true, k0, k3, k4, decide_eq_true c3, s1', ew]
      exact ⟨m', f1, f2 _ (by simp [lk_ins, k0]) (by simp [lk_ins]) (by simp [lk_ins])⟩
    · have e0 : d.cell i = rowB 65 := if_neg c3
      rw [e0] at s1'
      simp only [go_sem, reduceIte, Nat.reduceEqDiff, Nat.reduceAdd, Nat.reduceLeDiff, Nat.reducePow, Nat.reduceDiv, Nat.reduceMod, decide_true, k0, k3, k4, decide_eq_false c3, Bool.not_false]
      refine use1 h3.1 (h3.2 h2' 65 (by omega)) ?_
      simp only [go_sem, reduceIte, Nat.reduceEqDiff, Nat.reduceAdd, Nat.reduceLeDiff, Nat.reducePow, Nat.reduceDiv, Nat.reduceMod, decide_true, k0, k3, k4, s1', ew]
      exact ⟨m', f1, f2 _ (by simp [lk_ins, k0]) (by simp [lk_ins]) (by simp [lk_ins])⟩
  · obtain rfl : i = d.shown.length := by omega
    rw [List.take_length] at hO
    by_cases c1 : (d.shown.length : Int) < d.n
    · have c2 : ¬ (d.shown.length : Int) < 64 := by omega
      simp only [go_sem, reduceIte, Nat.reduceEqDiff, Nat.reduceAdd, Nat.reduceLeDiff, Nat.reducePow, Nat.reduceDiv, Nat.reduceMod, decide_true, k0, k3, k4, decide_eq_true c1, decide_eq_false c2]
      exact ⟨hO, hE⟩
    · simp only [go_sem, reduceIte, Nat.reduceEqDiff, Nat.reduceAdd, Nat.reduceLeDiff, Nat.reducePow, Nat.reduceDiv, Nat.reduceMod, decide_true, k0, k3, k4, decide_eq_false c1]
      exact ⟨hO, hE⟩

/-! the plain laws -/

theorem sfind_fold {c l : List Sec} (hc : rises c) (hl : rises l) (k : Int) : sfind (c.foldl sput l) k = match sfind c k with | some s => some s | none => sfind l k := by
  induction c generalizing l with
  | nil => rfl
  | cons y r ih =>
    unfold rises at hc ih
    rw [List.pairwise_cons] at hc
    rw [List.foldl_cons, ih hc.2 (rises_sput hl y)]
    simp only [sfind]
    by_cases e : y.no = k
    · rw [if_pos e]
      have hn : sfind r k = none := sfind_none.2 fun s hs => by have := hc.1 s hs; omega
      rw [hn, sfind_sput hl]
      simp only
      rw [if_pos e.symm]
    · rw [if_neg e]
      cases sfind r k with
      | some s => rfl
      | none => simp only; rw [sfind_sput hl, if_neg (fun x => e x.symm)]

theorem Dk.read_eq {d e : Dk} (hn : e.n = d.n) (h1 : ∀ i, sfind e.cache i = sfind d.cache i) (h2 : ∀ i, sfind e.lasts i = sfind d.lasts i) (i : Int) : e.read i = d.read i := by
  unfold Dk.read; rw [hn, h1, h2]
theorem Dk.shown_eq {d e : Dk} (hn : e.n = d.n) (h : ∀ i, e.read i = d.read i) : e.shown = d.shown := by
  unfold Dk.shown; rw [hn]; congr 1; funext i; unfold Dk.cell; rw [h]
theorem Dk.spend_shown (d : Dk) : d.spend.2.shown = d.shown := Dk.shown_eq (Dk.spend_n d) fun i => Dk.read_eq (Dk.spend_n d) (fun i => by rw [Dk.spend_cache]) (fun i => by rw [Dk.spend_lasts]) i

theorem Dk.flush_read {d : Dk} (h : d.ok) (i : Int) : d.flush.1.read i = d.read i := by
  have key : ∀ e : Dk, e.n = d.n → e.cache = [] → e.lasts = d.cache.foldl sput d.lasts → e.read i = d.read i := by
    intro e e1 e2 e3
    unfold Dk.read
    rw [e1, e2, e3]
    split
    · rfl
    · simp only [sfind]
      rw [sfind_fold h.cache.1 h.lasts.1]
      cases e4 : sfind d.cache i with
      | none => rfl
      | some s => simp only [readL]; rw [(h.cache.2 s (sfind_some e4).1).2.2.2]; rfl
  unfold Dk.flush
  split
  · rfl
  · split
    · exact key _ (Dk.spend_n d) rfl rfl
    · exact Dk.read_eq (Dk.spend_n d) (fun i => by rw [Dk.spend_cache]) (fun i => by rw [Dk.spend_lasts]) i
theorem Dk.flush_n (d : Dk) : d.flush.1.n = d.n := by unfold Dk.flush; split; rfl; split; exact Dk.spend_n d; exact Dk.spend_n d
theorem Dk.flush_shown {d : Dk} (h : d.ok) : d.flush.1.shown = d.shown := Dk.shown_eq (Dk.flush_n d) (Dk.flush_read h)
theorem Dk.spend_down {d : Dk} (h : d.spend.1 = false) : d.spend.2.off = true := by
  unfold Dk.spend at h ⊢
  split
  · rfl
  · rename_i c; rw [if_neg c] at h; split at h <;> simp at h
theorem Dk.flush_no {d : Dk} (h : d.flush.2 ≠ 0) : d.flush.1.off = true := by
  unfold Dk.flush at h ⊢
  split
  · rename_i c; exact c
  · rename_i c
    rw [if_neg c] at h
    cases e : d.spend.1 with
    | true => rw [e, if_pos rfl] at h; simp at h
    | false => rw [if_neg (by simp)]; exact Dk.spend_down e
theorem Dk.flush_yes {d : Dk} (h : d.flush.2 = 0) : d.flush.1.cache = [] := by
  unfold Dk.flush at h ⊢
  split
  · rename_i c; rw [if_pos c] at h; simp at h
  · rename_i c
    rw [if_neg c] at h
    split
    · rfl
    · rename_i e; rw [if_neg e] at h; simp at h
theorem Dk.crash_clean {d : Dk} (h : d.cache = []) (how : List Int) : (d.crash how).shown = d.shown := by
  refine Dk.shown_eq rfl fun i => Dk.read_eq (d := d) (e := d.crash how) rfl (fun i => ?_) (fun i => ?_) i
  · rw [h]; rfl
  · show sfind (crashed d.cache how d.lasts) i = _
    rw [h]; rfl

end Glb

/-
  Layer 4: the laws SectorFlushed and SectorFails.
-/
namespace Glb
open Go
set_option maxRecDepth 10000
set_option maxHeartbeats 8000000

theorem flushed_ok {P : Program} {f fw fl fp fn fr fs ff fo fe fd fc : FuncId} (hf : Is P f (c_glebelaw04_SectorFlushed fw fl fp fn fr fs ff fo fe fd fc)) (hw : YesOk P fw) (hl : Long4Ok P fl) (hp : PickOk P fp) (hn : NewDOk P fn) (hr : Run4Ok P fr) (hs : ShownOk P fs) (hff : FlushDOk P ff)
    (ho : DownOk P fo) (he : SameRowsOk P fe) (hd : DirtyP P fd) (hc : CrashDOk P fc) (n : Int) (l : List Op4) (how : List Int) (hR : ∀ o ∈ l, o.R) (h : AHeap) :
    ACalls P f [.int .i64 n, aops l, aints how] h fun r _ => r = .bool true := by
  refine fun_sound hf.1 (Nat.le_of_ble_eq_true rfl) ?_
  show vc P (c_glebelaw04_SectorFlushed fw fl fp fn fr fs ff fo fe fd fc).code ⟨[(0, .int .i64 n), (1, aops l), (2, aints how)], [], h⟩ (atEnd (c_glebelaw04_SectorFlushed fw fl fp fn fr fs ff fo fe fd fc).res _)
  simp only [c_glebelaw04_SectorFlushed, go_sem, reduceIte, Nat.reduceEqDiff, Nat.reduceAdd, Nat.reduceLeDiff, Nat.reducePow, Nat.reduceDiv, Nat.reduceMod, decide_true]
  refine use1 hw.1 (hw.2 h) ?_
  simp only [go_sem, reduceIte, Nat.reduceEqDiff, Nat.reduceAdd, Nat.reduceLeDiff, Nat.reducePow, Nat.reduceDiv, Nat.reduceMod, decide_true]
  refine wCall_use ⟨hl.1, hl.2 h l⟩ ?_
  rintro _ h ⟨⟨b, rfl, hfew⟩, rfl⟩
  cases b with
  | true => simp only [go_sem, reduceIte, Nat.reduceEqDiff, Nat.reduceAdd, Nat.reduceLeDiff, Nat.reducePow, Nat.reduceDiv, Nat.reduceMod, decide_true]
  | false =>
    obtain ⟨h200, hfew⟩ := hfew rfl
    simp only [go_sem, reduceIte, Nat.reduceEqDiff, Nat.reduceAdd, Nat.reduceLeDiff, Nat.reducePow, Nat.reduceDiv, Nat.reduceMod, decide_true]
    refine use1 hp.1 (hp.2 n 64 (by omega) h) ?_
    have pr := pick_lt (k := n) (n := 64) (by omega)
    generalize pick n 64 = k at *
    have ek : IntKind.i64.wrap (1 + k) = 1 + k := wrap_i64 (by omega)
    simp only [go_sem, reduceIte, Nat.reduceEqDiff, Nat.reduceAdd, Nat.reduceLeDiff, Nat.reducePow, Nat.reduceDiv, Nat.reduceMod, decide_true, ek]
    refine wCall_use ⟨hn.1, hn.2 h (1 + k)⟩ ?_
    rintro r h1 ⟨a1, -, x1⟩
    obtain ⟨p, rfl, da⟩ := a1 (by omega)
    obtain ⟨F, da, hF⟩ : ∃ F : Nat → Prop, DiskAt F h1 p (Dk.new (1 + k)) ∧ (∀ m, F m → m < h1.length) := ⟨_, da, fun m x => x.2⟩
    have en : (Dk.new (1 + k)).n = 1 + k := rfl
    simp only [go_sem, reduceIte, Nat.reduceEqDiff, Nat.reduceAdd, Nat.reduceLeDiff, Nat.reducePow, Nat.reduceDiv, Nat.reduceMod, decide_true]
    obtain ⟨I, hI⟩ : ∃ I : Nat → Env → AHeap → Prop, ∀ m E h', I m E h' ↔ ∃ (i : Nat) (d : Dk), lk 1 E = aops l ∧ lk 2 E = aints how ∧ lk 7 E = .ptr p 6 0 0 ∧ lk 9 E = .int .i64 i ∧ DiskAt F h' p d ∧ h1.length ≤ h'.length ∧ i ≤ l.length ∧ m = l.length - i := ⟨_, fun _ _ _ => Iff.rfl⟩
    refine vc_loop I l.length ((hI _ _ _).2 ⟨0, _, by simp [lk_ins, lk_cons], by simp [lk_ins, lk_cons], by simp [lk_ins, lk_cons], by simp [lk_ins], da, by omega, by omega, by omega⟩) ?_
    clear da
    intro m E H hh'
    obtain ⟨i, d, k1, k2, k7, k9, da, lq, hi, rfl⟩ := (hI _ _ _).1 hh'
    have hFH : ∀ m, F m → m < H.length := fun m hm => by have := hF m hm; omega
    simp only [c_glebelaw04_SectorFlushed_l0, go_sem, reduceIte, Nat.reduceEqDiff, Nat.reduceAdd, Nat.reduceLeDiff, Nat.reducePow, Nat.reduceDiv, Nat.reduceMod, decide_true, k1, k2, k7, k9, len_aops]
    refine wCond_split (fun ci => ?_) (fun ci => ?_)
    · simp at ci
      obtain ⟨pp, z1, z2, z3, z4, z5, -⟩ := ops_at ci
      have ew : IntKind.i64.wrap (↑i + 1) = (i : Int) + 1 := wrap_i64 (by omega)
      have hm := List.getElem_mem ci
      simp only [go_sem, reduceIte, Nat.reduceEqDiff, Nat.reduceAdd, Nat.reduceLeDiff, Nat.reducePow, Nat.reduceDiv, Nat.reduceMod, decide_true, k1, k2, k7, k9, z1, z2]
      refine wCall_use ⟨hr.1, hr.2 F H p d l[i] da (hfew _ hm) (hR _ hm) hFH⟩ ?_
      rintro _ H2 ⟨rfl, da2, x2⟩
      simp only [go_sem, reduceIte, Nat.reduceEqDiff, Nat.reduceAdd, Nat.reduceLeDiff, Nat.reducePow, Nat.reduceDiv, Nat.reduceMod, decide_true, k1, k2, k7, k9, ew]
      exact ⟨_, by omega, (hI _ _ _).2 ⟨i + 1, _, by simp [lk_ins, k1], by simp [lk_ins, k2], by simp [lk_ins, k7], by simp [lk_ins], da2, by have := x2.1; omega, ci, rfl⟩⟩
    · have sml : d.shown.length ≤ 2^40 := by simp [Dk.shown]; omega
      have smb : ∀ b ∈ d.shown, b.length ≤ 2^40 := by
        intro b hb
        simp only [Dk.shown, List.mem_map] at hb
        obtain ⟨i, -, rfl⟩ := hb
        unfold Dk.cell
        split
        · have := Dk.read_len da.ok i; omega
        · rw [rowB_length]; omega
      simp only [go_sem, reduceIte, Nat.reduceEqDiff, Nat.reduceAdd, Nat.reduceLeDiff, Nat.reducePow, Nat.reduceDiv, Nat.reduceMod, decide_true, k2, k7]
      refine use1 hs.1 (hs.2 F H p d da) ?_
      simp only [go_sem, reduceIte, Nat.reduceEqDiff, Nat.reduceAdd, Nat.reduceLeDiff, Nat.reducePow, Nat.reduceDiv, Nat.reduceMod, decide_true, k7]
      refine wCall_use ⟨hff.1, hff.2 F H p d da⟩ ?_
      rintro _ H2 ⟨rfl, da2, x2⟩
      have es : decide (d.shown = d.flush.1.shown) = true := by rw [Dk.flush_shown da.ok]; simp
      by_cases c : d.flush.2 = 0
      · have ed := Dk.flush_yes c
        have edd : d.flush.1.dirty = [] := by unfold Dk.dirty; rw [ed]; rfl
        simp only [go_sem, reduceIte, Nat.reduceEqDiff, Nat.reduceAdd, Nat.reduceLeDiff, Nat.reducePow, Nat.reduceDiv, Nat.reduceMod, decide_true, decide_eq_true c, k2, k7]
        refine use1 hd.1 (hd.2 F H2 p _ da2) ?_
        rw [edd]
        simp only [go_sem, reduceIte, Nat.reduceEqDiff, Nat.reduceAdd, Nat.reduceLeDiff, Nat.reducePow, Nat.reduceDiv, Nat.reduceMod, decide_true, List.length_nil, show (!decide (((0 : Nat) : Int) = 0)) = false from rfl, k7]
        refine use1 hs.1 (hs.2 F H2 p _ da2) ?_
        simp only [go_sem, reduceIte, Nat.reduceEqDiff, Nat.reduceAdd, Nat.reduceLeDiff, Nat.reducePow, Nat.reduceDiv, Nat.reduceMod, decide_true]
        refine use1 he.1 (he.2 H2 _ _ sml smb) ?_
        simp only [go_sem, reduceIte, Nat.reduceEqDiff, Nat.reduceAdd, Nat.reduceLeDiff, Nat.reducePow, Nat.reduceDiv, Nat.reduceMod, decide_true, es, k2, k7]
        refine wCall_use ⟨hc.1, hc.2 F nof H2 p _ how _ da2 (rd_aints _ _ _) (fun _ x => x.elim)⟩ ?_
        rintro _ H3 ⟨da3, x3⟩
        have es3 : decide (d.shown = (d.flush.1.crash how).shown) = true := by rw [Dk.crash_clean ed, Dk.flush_shown da.ok]; simp
        simp only [go_sem, reduceIte, Nat.reduceEqDiff, Nat.reduceAdd, Nat.reduceLeDiff, Nat.reducePow, Nat.reduceDiv, Nat.reduceMod, decide_true, k7]
        refine use1 hs.1 (hs.2 F H3 p _ da3) ?_
        simp only [go_sem, reduceIte, Nat.reduceEqDiff, Nat.reduceAdd, Nat.reduceLeDiff, Nat.reducePow, Nat.reduceDiv, Nat.reduceMod, decide_true]
        refine use1 he.1 (he.2 H3 _ _ sml smb) ?_
        simp only [go_sem, reduceIte, Nat.reduceEqDiff, Nat.reduceAdd, Nat.reduceLeDiff, Nat.reducePow, Nat.reduceDiv, Nat.reduceMod, decide_true, es3, k7]
        refine use1 ho.1 (ho.2 F H3 p _ da3) ?_
        rw [show (d.flush.1.crash how).off = false from rfl]
        simp only [go_sem, reduceIte, Nat.reduceEqDiff, Nat.reduceAdd, Nat.reduceLeDiff, Nat.reducePow, Nat.reduceDiv, Nat.reduceMod, decide_true, Bool.not_false]
      · have eo := Dk.flush_no c
        simp only [go_sem, reduceIte, Nat.reduceEqDiff, Nat.reduceAdd, Nat.reduceLeDiff, Nat.reducePow, Nat.reduceDiv, Nat.reduceMod, decide_true, decide_eq_false c, Bool.not_false, k7]
        refine use1 ho.1 (ho.2 F H2 p _ da2) ?_
        rw [eo]
        simp only [go_sem, reduceIte, Nat.reduceEqDiff, Nat.reduceAdd, Nat.reduceLeDiff, Nat.reducePow, Nat.reduceDiv, Nat.reduceMod, decide_true, k7]
        refine use1 hs.1 (hs.2 F H2 p _ da2) ?_
        simp only [go_sem, reduceIte, Nat.reduceEqDiff, Nat.reduceAdd, Nat.reduceLeDiff, Nat.reducePow, Nat.reduceDiv, Nat.reduceMod, decide_true]
        refine use1 he.1 (he.2 H2 _ _ sml smb) ?_
        simp only [go_sem, reduceIte, Nat.reduceEqDiff, Nat.reduceAdd, Nat.reduceLeDiff, Nat.reducePow, Nat.reduceDiv, Nat.reduceMod, decide_true, es]

end Glb

/-
  Layer 4: the law SectorFails.
-/
namespace Glb
open Go
set_option maxRecDepth 10000
set_option maxHeartbeats 8000000

theorem Dk.spend_yes {d : Dk} (h0 : 0 ≤ d.left) (h : d.spend.1 = true) : d.spend.2.left = d.left - 1 ∧ 0 ≤ d.left - 1 ∧ d.spend.2.off = d.off := by
  unfold Dk.spend at h ⊢
  by_cases c : d.left = 0
  · rw [if_pos c] at h; simp at h
  · rw [if_neg c, if_pos (by omega)]; exact ⟨rfl, by omega, rfl⟩
theorem Dk.spend_not {d : Dk} (h0 : 0 ≤ d.left) (h : d.spend.1 = false) : d.spend.2.left = d.left ∧ d.left = 0 := by
  unfold Dk.spend at h ⊢
  by_cases c : d.left = 0
  · rw [if_pos c]; exact ⟨rfl, c⟩
  · rw [if_neg c, if_pos (by omega)] at h; simp at h

theorem fails_step {d : Dk} (h0 : 0 ≤ d.left) (ho : d.off = true → d.left = 0) {o : Op4} (hk : o.kind = 0 ∨ o.kind = 1) :
    ((d.op o).2 = 0 → (d.op o).1.left = d.left - 1) ∧ ((d.op o).2 ≠ 0 → (d.op o).1.left = d.left ∧ (d.op o).1.shown = d.shown ∧ (d.op o).1.dirty = d.dirty) ∧ 0 ≤ (d.op o).1.left ∧
      ((d.op o).1.off = true → (d.op o).1.left = 0) ∧ decide ((d.op o).2 = 10) = (d.op o).1.off := by
  have nd : d.spend.2.dirty = d.dirty := by unfold Dk.dirty; rw [Dk.spend_cache]
  unfold Dk.op
  rcases hk with hk | hk
  · rw [if_pos hk]
    unfold Dk.write
    cases eo : d.off with
    | true => rw [if_pos rfl]; exact ⟨fun x => by simp at x, fun _ => ⟨rfl, rfl, rfl⟩, h0, fun _ => ho eo, by simp [eo]⟩
    | false =>
      rw [if_neg (by simp)]
      split
      · exact ⟨fun x => by simp at x, fun _ => ⟨rfl, rfl, rfl⟩, h0, fun x => (by have x : d.off = true := x; rw [eo] at x; cases x), by simp [eo]⟩
      · split
        · exact ⟨fun x => by simp at x, fun _ => ⟨rfl, rfl, rfl⟩, h0, fun x => (by have x : d.off = true := x; rw [eo] at x; cases x), by simp [eo]⟩
        · cases es : d.spend.1 with
          | true =>
            rw [if_pos rfl]
            obtain ⟨s1, s2, s3⟩ := Dk.spend_yes h0 es
            refine ⟨fun _ => s1, fun x => absurd rfl x, ?_, fun x => ?_, ?_⟩
            · show 0 ≤ d.spend.2.left; omega
            · have : d.spend.2.off = true := x; rw [s3, eo] at this; cases this
            · show decide ((0:Int) = 10) = d.spend.2.off; rw [s3, eo]; rfl
          | false =>
            rw [if_neg (by simp)]
            obtain ⟨s1, s2⟩ := Dk.spend_not h0 es
            have s3 := Dk.spend_down es
            exact ⟨fun x => by simp at x, fun _ => ⟨s1, Dk.spend_shown d, nd⟩, by simp only; omega, fun _ => by simp only; omega, by simp only; rw [s3]; rfl⟩
  · rw [if_neg (by omega), if_pos hk]
    unfold Dk.flush
    cases eo : d.off with
    | true => rw [if_pos rfl]; exact ⟨fun x => by simp at x, fun _ => ⟨rfl, rfl, rfl⟩, h0, fun _ => ho eo, by simp [eo]⟩
    | false =>
      rw [if_neg (by simp)]
      cases es : d.spend.1 with
      | true =>
        rw [if_pos rfl]
        obtain ⟨s1, s2, s3⟩ := Dk.spend_yes h0 es
        refine ⟨fun _ => s1, fun x => absurd rfl x, ?_, fun x => ?_, ?_⟩
        · show 0 ≤ d.spend.2.left; omega
        · have : d.spend.2.off = true := x; rw [s3, eo] at this; cases this
        · show decide ((0:Int) = 10) = d.spend.2.off; rw [s3, eo]; rfl
      | false =>
        rw [if_neg (by simp)]
        obtain ⟨s1, s2⟩ := Dk.spend_not h0 es
        have s3 := Dk.spend_down es
        exact ⟨fun x => by simp at x, fun _ => ⟨s1, Dk.spend_shown d, nd⟩, by simp only; omega, fun _ => by simp only; omega, by simp only; rw [s3]; rfl⟩

theorem Dk.shown_small {d : Dk} (h : d.ok) : d.shown.length ≤ 2^40 ∧ ∀ b ∈ d.shown, b.length ≤ 2^40 := by
  refine ⟨by simp [Dk.shown]; omega, ?_⟩
  intro b hb
  simp only [Dk.shown, List.mem_map] at hb
  obtain ⟨i, -, rfl⟩ := hb
  unfold Dk.cell
  split
  · have := Dk.read_len h i; omega
  · rw [rowB_length]; omega

theorem fails_ok {P : Program} {f fw fl fn fp fa fs fd fr fo fe fi : FuncId} (hf : Is P f (c_glebelaw04_SectorFails fw fl fn fp fa fs fd fr fo fe fi)) (hw : YesOk P fw) (hl : Long4Ok P fl) (hn : NewDOk P fn) (hp : PickOk P fp) (ha : ArmOk P fa) (hs : ShownOk P fs) (hd : DirtyP P fd)
    (hr : Run4Ok P fr) (ho : DownOk P fo) (he : SameRowsOk P fe) (hi : SameOk P fi .i64) (l : List Op4) (n : Int) (hR : ∀ o ∈ l, o.R) (h : AHeap) :
    ACalls P f [aops l, .int .i64 n] h fun r _ => r = .bool true := by
  refine fun_sound hf.1 (Nat.le_of_ble_eq_true rfl) ?_
  show vc P (c_glebelaw04_SectorFails fw fl fn fp fa fs fd fr fo fe fi).code ⟨[(0, aops l), (1, .int .i64 n)], [], h⟩ (atEnd (c_glebelaw04_SectorFails fw fl fn fp fa fs fd fr fo fe fi).res _)
  simp only [c_glebelaw04_SectorFails, go_sem, reduceIte, Nat.reduceEqDiff, Nat.reduceAdd, Nat.reduceLeDiff, Nat.reducePow, Nat.reduceDiv, Nat.reduceMod, decide_true]
  refine use1 hw.1 (hw.2 h) ?_
  simp only [go_sem, reduceIte, Nat.reduceEqDiff, Nat.reduceAdd, Nat.reduceLeDiff, Nat.reducePow, Nat.reduceDiv, Nat.reduceMod, decide_true]
  refine wCall_use ⟨hl.1, hl.2 h l⟩ ?_
  rintro _ h ⟨⟨b, rfl, hfew⟩, rfl⟩
  cases b with
  | true => simp only [go_sem, reduceIte, Nat.reduceEqDiff, Nat.reduceAdd, Nat.reduceLeDiff, Nat.reducePow, Nat.reduceDiv, Nat.reduceMod, decide_true]
  | false =>
    obtain ⟨h200, hfew⟩ := hfew rfl
    simp only [go_sem, reduceIte, Nat.reduceEqDiff, Nat.reduceAdd, Nat.reduceLeDiff, Nat.reducePow, Nat.reduceDiv, Nat.reduceMod, decide_true]
    refine wCall_use ⟨hn.1, hn.2 h 16⟩ ?_
    rintro r h1 ⟨a1, -, x1⟩
    obtain ⟨p, rfl, da⟩ := a1 (by omega)
    obtain ⟨F, da, hF⟩ : ∃ F : Nat → Prop, DiskAt F h1 p (Dk.new 16) ∧ (∀ m, F m → m < h1.length) := ⟨_, da, fun m x => x.2⟩
    simp only [go_sem, reduceIte, Nat.reduceEqDiff, Nat.reduceAdd, Nat.reduceLeDiff, Nat.reducePow, Nat.reduceDiv, Nat.reduceMod, decide_true]
    refine use1 hp.1 (hp.2 n 100 (by omega) h1) ?_
    have pr := pick_lt (k := n) (n := 100) (by omega)
    generalize pick n 100 = k at *
    simp only [go_sem, reduceIte, Nat.reduceEqDiff, Nat.reduceAdd, Nat.reduceLeDiff, Nat.reducePow, Nat.reduceDiv, Nat.reduceMod, decide_true]
    refine wCall_use ⟨ha.1, ha.2 F h1 p _ k da (by omega)⟩ ?_
    rintro _ h2 ⟨da2, x2⟩
    have el : ((Dk.new 16).arm k).left = k := if_neg (by omega)
    have eo : ((Dk.new 16).arm k).off = false := rfl
    simp only [go_sem, reduceIte, Nat.reduceEqDiff, Nat.reduceAdd, Nat.reduceLeDiff, Nat.reducePow, Nat.reduceDiv, Nat.reduceMod, decide_true]
    obtain ⟨I, hI⟩ : ∃ I : Nat → Env → AHeap → Prop, ∀ m E h', I m E h' ↔ ∃ (i : Nat) (d : Dk), lk 0 E = aops l ∧ lk 5 E = .ptr p 6 0 0 ∧ lk 7 E = .int .i64 d.left ∧ lk 8 E = .int .i64 i ∧ DiskAt F h' p d ∧ h1.length ≤ h'.length ∧ 0 ≤ d.left ∧ (d.off = true → d.left = 0) ∧ i ≤ l.length ∧ m = l.length - i := ⟨_, fun _ _ _ => Iff.rfl⟩
    refine vc_loop I l.length ((hI _ _ _).2 ⟨0, _, by simp [lk_ins, lk_cons], by simp [lk_ins, lk_cons], by simp [lk_ins, lk_cons, el], by simp [lk_ins], da2, by have := x2.1; omega, by rw [el]; omega, fun x => (by rw [eo] at x; cases x), by omega, by omega⟩) ?_
    clear da da2 el eo
    intro m E H hh'
    obtain ⟨i, d, k0, k5, k7, k8, da, lq, d0, do_, hi', rfl⟩ := (hI _ _ _).1 hh'
    have hFH : ∀ m, F m → m < H.length := fun m hm => by have := hF m hm; omega
    simp only [c_glebelaw04_SectorFails_l0, go_sem, reduceIte, Nat.reduceEqDiff, Nat.reduceAdd, Nat.reduceLeDiff, Nat.reducePow, Nat.reduceDiv, Nat.reduceMod, decide_true, k0, k5, k7, k8, len_aops]
    refine wCond_split (fun ci => ?_) (fun ci => ?_)
    · simp at ci
      obtain ⟨pp, z1, z2, z3, z4, z5, z6⟩ := ops_at ci
      have ew : IntKind.i64.wrap (↑i + 1) = (i : Int) + 1 := wrap_i64 (by omega)
      have hm := List.getElem_mem ci
      by_cases hk : l[i].kind = 0 ∨ l[i].kind = 1
      · obtain ⟨s1, s2, s3, s4, s5⟩ := fails_step d0 do_ hk
        obtain ⟨sm1, sm2⟩ := Dk.shown_small da.ok
        have hk2 : l[i].kind = 0 ∨ (¬ l[i].kind = 0 ∧ l[i].kind = 1) := by omega
        have da' := da
        have dw : IntKind.i64.wrap (d.left - 1) = d.left - 1 := wrap_i64 (by have := da.ok.left; omega)
        have ne : ∀ b : Bool, abeq .neq (.bool b) (.bool b) = some (.bool false) := fun b => by cases b <;> rfl
        rcases hk2 with q0 | ⟨q0, q1⟩
        · simp only [go_sem, reduceIte, Nat.reduceEqDiff, Nat.reduceAdd, Nat.reduceLeDiff, Nat.reducePow, Nat.reduceDiv, Nat.reduceMod, decide_true, k0, k5, k7, k8, z1, z2, z3, z6, decide_eq_true q0, Bool.not_true]
          refine use1 hs.1 (hs.2 F H p d da) ?_
          simp only [go_sem, reduceIte, Nat.reduceEqDiff, Nat.reduceAdd, Nat.reduceLeDiff, Nat.reducePow, Nat.reduceDiv, Nat.reduceMod, decide_true, k5]
          refine use1 hd.1 (hd.2 F H p d da) ?_
          simp only [go_sem, reduceIte, Nat.reduceEqDiff, Nat.reduceAdd, Nat.reduceLeDiff, Nat.reducePow, Nat.reduceDiv, Nat.reduceMod, decide_true, k0, k5, k8, z1, z2]
          refine wCall_use ⟨hr.1, hr.2 F H p d l[i] da (hfew _ hm) (hR _ hm) hFH⟩ ?_
          rintro _ H2 ⟨rfl, da2, x2⟩
          have s3n : ¬ (d.op l[i]).1.left < 0 := by omega
          have nxt : ∀ E' : Env, lk 0 E' = aops l → lk 5 E' = .ptr p 6 0 0 → lk 7 E' = .int .i64 (d.op l[i]).1.left → lk 8 E' = .int .i64 ((i : Int) + 1) → ∃ m', m' < l.length - i ∧ I m' E' H2 := fun E' r0 r5 r7 r8 =>
            ⟨_, by omega, (hI _ _ _).2 ⟨i + 1, _, r0, r5, r7, r8, da2, by have := x2.1; omega, s3, s4, ci, rfl⟩⟩
          by_cases ce : (d.op l[i]).2 = 0
          · have t1 := s1 ce
            rw [t1] at s3n nxt
            have ce10 : ¬ (d.op l[i]).2 = 10 := by omega
            simp only [go_sem, reduceIte, Nat.reduceEqDiff, Nat.reduceAdd, Nat.reduceLeDiff, Nat.reducePow, Nat.reduceDiv, Nat.reduceMod, decide_true, decide_eq_true ce, k5, k7, dw, decide_eq_false s3n]
            refine use1 ho.1 (ho.2 F H2 p _ da2) ?_
            rw [← s5]
            simp only [go_sem, reduceIte, Nat.reduceEqDiff, Nat.reduceAdd, Nat.reduceLeDiff, Nat.reducePow, Nat.reduceDiv, Nat.reduceMod, decide_true, ne, decide_eq_false ce10, decide_eq_true ce, Bool.not_true, k8, ew]
            exact nxt _ (by simp [lk_ins, k0]) (by simp [lk_ins, k5]) (by simp [lk_ins]) (by simp [lk_ins])
          · obtain ⟨t1, t2, t3⟩ := s2 ce
            have e1 : decide (d.shown = (d.op l[i]).1.shown) = true := by rw [t2]; simp
            have e2 : decide (d.dirty = (d.op l[i]).1.dirty) = true := by rw [t3]; simp
            have dlen : d.dirty.length ≤ 2^40 := by have := da.ok.clen; simp [Dk.dirty]; omega
            rw [t1] at s3n nxt s4
            simp only [go_sem, reduceIte, Nat.reduceEqDiff, Nat.reduceAdd, Nat.reduceLeDiff, Nat.reducePow, Nat.reduceDiv, Nat.reduceMod, decide_true, decide_eq_false ce, k5, k7, decide_eq_false s3n]
            refine use1 ho.1 (ho.2 F H2 p _ da2) ?_
            rw [← s5] at s4 ⊢
            by_cases c10 : (d.op l[i]).2 = 10
            · have l0 : d.left = 0 := s4 (by simp [c10])
              simp only [go_sem, reduceIte, Nat.reduceEqDiff, Nat.reduceAdd, Nat.reduceLeDiff, Nat.reducePow, Nat.reduceDiv, Nat.reduceMod, decide_true, ne, decide_eq_true c10, decide_eq_true l0, decide_eq_false ce, Bool.not_true, Bool.not_false, k5, k7]
              refine use1 hs.1 (hs.2 F H2 p _ da2) ?_
              simp only [go_sem, reduceIte, Nat.reduceEqDiff, Nat.reduceAdd, Nat.reduceLeDiff, Nat.reducePow, Nat.reduceDiv, Nat.reduceMod, decide_true]
              refine use1 he.1 (he.2 H2 _ _ sm1 sm2) ?_
              simp only [go_sem, reduceIte, Nat.reduceEqDiff, Nat.reduceAdd, Nat.reduceLeDiff, Nat.reducePow, Nat.reduceDiv, Nat.reduceMod, decide_true, e1, Bool.not_true, k5]
              refine use1 hd.1 (hd.2 F H2 p _ da2) ?_
              simp only [go_sem, reduceIte, Nat.reduceEqDiff, Nat.reduceAdd, Nat.reduceLeDiff, Nat.reducePow, Nat.reduceDiv, Nat.reduceMod, decide_true]
              refine use1 hi.1 (hi.2 nof H2 _ _ _ _ (rd_aints _ _ _) (rd_aints _ _ _) dlen) ?_
              simp only [go_sem, reduceIte, Nat.reduceEqDiff, Nat.reduceAdd, Nat.reduceLeDiff, Nat.reducePow, Nat.reduceDiv, Nat.reduceMod, decide_true, e2, Bool.not_true, k8, ew]
              exact nxt _ (by simp [lk_ins, k0]) (by simp [lk_ins, k5]) (by simp [lk_ins, k7]) (by simp [lk_ins])
            · simp only [go_sem, reduceIte, Nat.reduceEqDiff, Nat.reduceAdd, Nat.reduceLeDiff, Nat.reducePow, Nat.reduceDiv, Nat.reduceMod, decide_true, ne, decide_eq_false c10, decide_eq_false ce, Bool.not_true, Bool.not_false, k5, k7]
              refine use1 hs.1 (hs.2 F H2 p _ da2) ?_
              simp only [go_sem, reduceIte, Nat.reduceEqDiff, Nat.reduceAdd, Nat.reduceLeDiff, Nat.reducePow, Nat.reduceDiv, Nat.reduceMod, decide_true]
              refine use1 he.1 (he.2 H2 _ _ sm1 sm2) ?_
              simp only [go_sem, reduceIte, Nat.reduceEqDiff, Nat.reduceAdd, Nat.reduceLeDiff, Nat.reducePow, Nat.reduceDiv, Nat.reduceMod, decide_true, e1, Bool.not_true, k5]
              refine use1 hd.1 (hd.2 F H2 p _ da2) ?_
              simp only [go_sem, reduceIte, Nat.reduceEqDiff, Nat.reduceAdd, Nat.reduceLeDiff, Nat.reducePow, Nat.reduceDiv, Nat.reduceMod, decide_true]
              refine use1 hi.1 (hi.2 nof H2 _ _ _ _ (rd_aints _ _ _) (rd_aints _ _ _) dlen) ?_
              simp only [go_sem, reduceIte, Nat.reduceEqDiff, Nat.reduceAdd, Nat.reduceLeDiff, Nat.reducePow, Nat.reduceDiv, Nat.reduceMod, decide_true, e2, Bool.not_true, k8, ew]
              exact nxt _ (by simp [lk_ins, k0]) (by simp [lk_ins, k5]) (by simp [lk_ins, k7]) (by simp [lk_ins])
        · simp only [go_sem, reduceIte, Nat.reduceEqDiff, Nat.reduceAdd, Nat.reduceLeDiff, Nat.reducePow, Nat.reduceDiv, Nat.reduceMod, decide_true, k0, k5, k7, k8, z1, z2, z3, z6, decide_eq_false q0, decide_eq_true q1, Bool.not_true, Bool.not_false]
          refine use1 hs.1 (hs.2 F H p d da) ?_
          simp only [go_sem, reduceIte, Nat.reduceEqDiff, Nat.reduceAdd, Nat.reduceLeDiff, Nat.reducePow, Nat.reduceDiv, Nat.reduceMod, decide_true, k5]
          refine use1 hd.1 (hd.2 F H p d da) ?_
          simp only [go_sem, reduceIte, Nat.reduceEqDiff, Nat.reduceAdd, Nat.reduceLeDiff, Nat.reducePow, Nat.reduceDiv, Nat.reduceMod, decide_true, k0, k5, k8, z1, z2]
          refine wCall_use ⟨hr.1, hr.2 F H p d l[i] da (hfew _ hm) (hR _ hm) hFH⟩ ?_
          rintro _ H2 ⟨rfl, da2, x2⟩
          have s3n : ¬ (d.op l[i]).1.left < 0 := by omega
          have nxt : ∀ E' : Env, lk 0 E' = aops l → lk 5 E' = .ptr p 6 0 0 → lk 7 E' = .int .i64 (d.op l[i]).1.left → lk 8 E' = .int .i64 ((i : Int) + 1) → ∃ m', m' < l.length - i ∧ I m' E' H2 := fun E' r0 r5 r7 r8 =>
            ⟨_, by omega, (hI _ _ _).2 ⟨i + 1, _, r0, r5, r7, r8, da2, by have := x2.1; omega, s3, s4, ci, rfl⟩⟩
          by_cases ce : (d.op l[i]).2 = 0
          · have t1 := s1 ce
            rw [t1] at s3n nxt
            have ce10 : ¬ (d.op l[i]).2 = 10 := by omega
            simp only [go_sem, reduceIte, Nat.reduceEqDiff, Nat.reduceAdd, Nat.reduceLeDiff, Nat.reducePow, Nat.reduceDiv, Nat.reduceMod, decide_true, decide_eq_true ce, k5, k7, dw, decide_eq_false s3n]
            refine use1 ho.1 (ho.2 F H2 p _ da2) ?_
            rw [← s5]
            simp only [go_sem, reduceIte, Nat.reduceEqDiff, Nat.reduceAdd, Nat.reduceLeDiff, Nat.reducePow, Nat.reduceDiv, Nat.reduceMod, decide_true, ne, decide_eq_false ce10, decide_eq_true ce, Bool.not_true, k8, ew]
            exact nxt _ (by simp [lk_ins, k0]) (by simp [lk_ins, k5]) (by simp [lk_ins]) (by simp [lk_ins])
          · obtain ⟨t1, t2, t3⟩ := s2 ce
            have e1 : decide (d.shown = (d.op l[i]).1.shown) = true := by rw [t2]; simp
            have e2 : decide (d.dirty = (d.op l[i]).1.dirty) = true := by rw [t3]; simp
            have dlen : d.dirty.length ≤ 2^40 := by have := da.ok.clen; simp [Dk.dirty]; omega
            rw [t1] at s3n nxt s4
            simp only [go_sem, reduceIte, Nat.reduceEqDiff, Nat.reduceAdd, Nat.reduceLeDiff, Nat.reducePow, Nat.reduceDiv, Nat.reduceMod, decide_true, decide_eq_false ce, k5, k7, decide_eq_false s3n]
            refine use1 ho.1 (ho.2 F H2 p _ da2) ?_
            rw [← s5] at s4 ⊢
            by_cases c10 : (d.op l[i]).2 = 10
            · have l0 : d.left = 0 := s4 (by simp [c10])
              simp only [go_sem, reduceIte, Nat.reduceEqDiff, Nat.reduceAdd, Nat.reduceLeDiff, Nat.reducePow, Nat.reduceDiv, Nat.reduceMod, decide_true, ne, decide_eq_true c10, decide_eq_true l0, decide_eq_false ce, Bool.not_true, Bool.not_false, k5, k7]
              refine use1 hs.1 (hs.2 F H2 p _ da2) ?_
              simp only [go_sem, reduceIte, Nat.reduceEqDiff, Nat.reduceAdd, Nat.reduceLeDiff, Nat.reducePow, Nat.reduceDiv, Nat.reduceMod, decide_true]
              refine use1 he.1 (he.2 H2 _ _ sm1 sm2) ?_
              simp only [go_sem, reduceIte, Nat.reduceEqDiff, Nat.reduceAdd, Nat.reduceLeDiff, Nat.reducePow, Nat.reduceDiv, Nat.reduceMod, decide_true, e1, Bool.not_true, k5]
              refine use1 hd.1 (hd.2 F H2 p _ da2) ?_
              simp only [go_sem, reduceIte, Nat.reduceEqDiff, Nat.reduceAdd, Nat.reduceLeDiff, Nat.reducePow, Nat.reduceDiv, Nat.reduceMod, decide_true]
              refine use1 hi.1 (hi.2 nof H2 _ _ _ _ (rd_aints _ _ _) (rd_aints _ _ _) dlen) ?_
              simp only [go_sem, reduceIte, Nat.reduceEqDiff, Nat.reduceAdd, Nat.reduceLeDiff, Nat.reducePow, Nat.reduceDiv, Nat.reduceMod, decide_true, e2, Bool.not_true, k8, ew]
              exact nxt _ (by simp [lk_ins, k0]) (by simp [lk_ins, k5]) (by simp [lk_ins, k7]) (by simp [lk_ins])
            · simp only [go_sem, reduceIte, Nat.reduceEqDiff, Nat.reduceAdd, Nat.reduceLeDiff, Nat.reducePow, Nat.reduceDiv, Nat.reduceMod, decide_true, ne, decide_eq_false c10, decide_eq_false ce, Bool.not_true, Bool.not_false, k5, k7]
              refine use1 hs.1 (hs.2 F H2 p _ da2) ?_
              simp only [go_sem, reduceIte, Nat.reduceEqDiff, Nat.reduceAdd, Nat.reduceLeDiff, Nat.reducePow, Nat.reduceDiv, Nat.reduceMod, decide_true]
              refine use1 he.1 (he.2 H2 _ _ sm1 sm2) ?_
              simp only [go_sem, reduceIte, Nat.reduceEqDiff, Nat.reduceAdd, Nat.reduceLeDiff, Nat.reducePow, Nat.reduceDiv, Nat.reduceMod, decide_true, e1, Bool.not_true, k5]
              refine use1 hd.1 (hd.2 F H2 p _ da2) ?_
              simp only [go_sem, reduceIte, Nat.reduceEqDiff, Nat.reduceAdd, Nat.reduceLeDiff, Nat.reducePow, Nat.reduceDiv, Nat.reduceMod, decide_true]
              refine use1 hi.1 (hi.2 nof H2 _ _ _ _ (rd_aints _ _ _) (rd_aints _ _ _) dlen) ?_
              simp only [go_sem, reduceIte, Nat.reduceEqDiff, Nat.reduceAdd, Nat.reduceLeDiff, Nat.reducePow, Nat.reduceDiv, Nat.reduceMod, decide_true, e2, Bool.not_true, k8, ew]
              exact nxt _ (by simp [lk_ins, k0]) (by simp [lk_ins, k5]) (by simp [lk_ins, k7]) (by simp [lk_ins])
      · have q0 : ¬ l[i].kind = 0 := fun x => hk (.inl x)
        have q1 : ¬ l[i].kind = 1 := fun x => hk (.inr x)
        simp only [go_sem, reduceIte, Nat.reduceEqDiff, Nat.reduceAdd, Nat.reduceLeDiff, Nat.reducePow, Nat.reduceDiv, Nat.reduceMod, decide_true, k0, k5, k7, k8, z1, z2, z3, z6, decide_eq_false q0, decide_eq_false q1, ew, Bool.not_false]
        exact ⟨_, by omega, (hI _ _ _).2 ⟨i + 1, d, by simp [lk_ins, k0], by simp [lk_ins, k5], by simp [lk_ins, k7], by simp [lk_ins], da, lq, d0, do_, ci, rfl⟩⟩
    · simp only [go_sem, reduceIte, Nat.reduceEqDiff, Nat.reduceAdd, Nat.reduceLeDiff, Nat.reducePow, Nat.reduceDiv, Nat.reduceMod, decide_true]

end Glb

/-
  Layer 4: the law SectorCrashed.
-/
namespace Glb
open Go
set_option maxRecDepth 10000
set_option maxHeartbeats 16000000

def cwant (x : Option Int) (c : Sec) (o : Option Sec) : Option Sec :=
  match x with
  | none => o
  | some v => if v = 0 then o else if v = 1 then some c else some ⟨c.no, [], true⟩
theorem sfind_cstep {l : List Sec} (hl : rises l) (x : Option Int) (c : Sec) (k : Int) : sfind (cstep x c l) k = if k = c.no then cwant x c (sfind l k) else sfind l k := by
  cases x with
  | none => simp [cstep, cwant]
  | some v =>
    simp only [cstep, cwant]
    by_cases h0 : v = 0
    · simp [h0]
    · by_cases h1 : v = 1
      · simp only [if_neg h0, if_pos h1]; rw [sfind_sput hl]
      · simp only [if_neg h0, if_neg h1]; rw [sfind_sput hl]
theorem rises_cstep {l : List Sec} (hl : rises l) (x : Option Int) (c : Sec) : rises (cstep x c l) := by
  cases x with
  | none => exact hl
  | some v => simp only [cstep]; split; exact hl; split <;> exact rises_sput hl _

theorem crashed_not {c l : List Sec} {how : List Int} (hl : rises l) {k : Int} (hk : ∀ s ∈ c, s.no ≠ k) : sfind (crashed c how l) k = sfind l k := by
  induction c generalizing l how with
  | nil => rfl
  | cons y r ih =>
    simp only [crashed]
    rw [ih (rises_cstep hl _ _) fun s hs => hk s (List.mem_cons_of_mem _ hs), sfind_cstep hl, if_neg]
    exact fun x => hk y (by simp) x.symm
theorem crashed_in {c l : List Sec} {how : List Int} (hc : rises c) (hl : rises l) {j : Nat} (hj : j < c.length) : sfind (crashed c how l) c[j].no = cwant how[j]? c[j] (sfind l c[j].no) := by
  induction c generalizing l how j with
  | nil => simp at hj
  | cons y r ih =>
    have hc' := hc
    unfold rises at hc
    rw [List.pairwise_cons] at hc
    simp only [crashed]
    cases j with
    | zero =>
      simp only [List.getElem_cons_zero]
      rw [crashed_not (rises_cstep hl _ _) fun s hs => by have := hc.1 s hs; omega, sfind_cstep hl, if_pos rfl, List.head?_eq_getElem?]
    | succ j =>
      simp only [List.getElem_cons_succ]
      have hj' : j < r.length := by simpa using hj
      rw [ih hc.2 (rises_cstep hl _ _) hj', sfind_cstep hl, if_neg (by have := hc.1 _ (List.getElem_mem hj'); omega)]
      simp

theorem crash_read (d : Dk) (how : List Int) {i : Int} (hi : 0 ≤ i ∧ i < d.n) : (d.crash how).read i = readL (sfind (crashed d.cache how d.lasts) i) := by
  unfold Dk.read
  rw [if_neg (by show ¬ (i < 0 ∨ d.n ≤ i); omega)]
  rfl
theorem crash_cell_not {d : Dk} (h : d.ok) (how : List Int) {i : Int} (hi : 0 ≤ i ∧ i < d.n) (hn : i ∉ d.dirty) : (d.crash how).cell i = d.cell i := by
  have hk : ∀ s ∈ d.cache, s.no ≠ i := fun s hs e => hn (by rw [← e]; exact List.mem_map.2 ⟨s, hs, rfl⟩)
  have e1 := crash_read d how hi
  rw [crashed_not h.lasts.1 hk] at e1
  have e2 : d.read i = readL (sfind d.lasts i) := by
    unfold Dk.read
    rw [if_neg (by omega), sfind_none.2 hk]
  unfold Dk.cell
  rw [e1, e2]
theorem crash_cell_in {d : Dk} (h : d.ok) (how : List Int) {j : Nat} (hj : j < d.cache.length) : (d.crash how).cell d.cache[j].no =
    match how[j]? with | none => (d.crash []).cell d.cache[j].no | some v => if v = 0 then (d.crash []).cell d.cache[j].no else if v = 1 then d.cell d.cache[j].no else rowB 65 := by
  have hm := List.getElem_mem hj
  have hr := h.cache.2 _ hm
  have hi : 0 ≤ d.cache[j].no ∧ d.cache[j].no < d.n := ⟨hr.1, hr.2.1⟩
  have e1 := crash_read d how hi
  have e2 := crash_read d [] hi
  rw [crashed_in h.cache.1 h.lasts.1 hj] at e1 e2
  have e3 : d.read d.cache[j].no = (d.cache[j].b, 0) := by
    unfold Dk.read
    rw [if_neg (by omega), sfind_mem h.cache.1 hm]
  simp only [List.getElem?_nil, cwant] at e2
  unfold Dk.cell
  rw [e1, e2, e3]
  cases how[j]? with
  | none => rfl
  | some v =>
    simp only [cwant]
    by_cases h0 : v = 0
    · simp only [if_pos h0]
    · by_cases h1 : v = 1
      · simp only [if_neg h0, if_pos h1, readL, hr.2.2.2]; rfl
      · simp only [if_neg h0, if_neg h1, readL]; rfl

theorem crashed_ok {P : Program} {f fw fl fp fn fe fr fs fd fc fo fi fb fq : FuncId} (hf : Is P f (c_glebelaw04_SectorCrashed fw fl fp fn fe fr fs fd fc fo fi fb fq)) (hw : YesOk P fw) (hl : Long4Ok P fl) (hp : PickOk P fp) (hn : NewDOk P fn) (he : DLenOk P fe) (hr : Run4Ok P fr) (hs : ShownOk P fs)
    (hd : DirtyP P fd) (hc : CrashDOk P fc) (ho : RowOk P fo) (hi : InOk4 P fi) (hb : SameOk P fb .u8) (hq : SameRowsOk P fq) (n : Int) (l : List Op4) (how more : List Int) (hR : ∀ o ∈ l, o.R) (h : AHeap) :
    ACalls P f [.int .i64 n, aops l, aints how, aints more] h fun r _ => r = .bool true := by
  refine fun_sound hf.1 (Nat.le_of_ble_eq_true rfl) ?_
  show vc P (c_glebelaw04_SectorCrashed fw fl fp fn fe fr fs fd fc fo fi fb fq).code ⟨[(0, .int .i64 n), (1, aops l), (2, aints how), (3, aints more)], [], h⟩ (atEnd (c_glebelaw04_SectorCrashed fw fl fp fn fe fr fs fd fc fo fi fb fq).res _)
  simp only [c_glebelaw04_SectorCrashed, go_sem, reduceIte, Nat.reduceEqDiff, Nat.reduceAdd, Nat.reduceLeDiff, Nat.reducePow, Nat.reduceDiv, Nat.reduceMod, decide_true]
  refine use1 hw.1 (hw.2 h) ?_
  simp only [go_sem, reduceIte, Nat.reduceEqDiff, Nat.reduceAdd, Nat.reduceLeDiff, Nat.reducePow, Nat.reduceDiv, Nat.reduceMod, decide_true]
  refine wCall_use ⟨hl.1, hl.2 h l⟩ ?_
  rintro _ h ⟨⟨b, rfl, hfew⟩, rfl⟩
  cases b with
  | true => simp only [go_sem, reduceIte, Nat.reduceEqDiff, Nat.reduceAdd, Nat.reduceLeDiff, Nat.reducePow, Nat.reduceDiv, Nat.reduceMod, decide_true]
  | false =>
    obtain ⟨h200, hfew⟩ := hfew rfl
    by_cases ch : 1024 < (how.length : Int)
    · simp only [go_sem, reduceIte, Nat.reduceEqDiff, Nat.reduceAdd, Nat.reduceLeDiff, Nat.reducePow, Nat.reduceDiv, Nat.reduceMod, decide_true, decide_eq_true ch]
    · simp only [go_sem, reduceIte, Nat.reduceEqDiff, Nat.reduceAdd, Nat.reduceLeDiff, Nat.reducePow, Nat.reduceDiv, Nat.reduceMod, decide_true, decide_eq_false ch]
      have ch' : how.length ≤ 1024 := by omega
      clear ch
      refine use1 hp.1 (hp.2 n 64 (by omega) h) ?_
      have pr := pick_lt (k := n) (n := 64) (by omega)
      generalize pick n 64 = k at *
      have ek : IntKind.i64.wrap (1 + k) = 1 + k := wrap_i64 (by omega)
      simp only [go_sem, reduceIte, Nat.reduceEqDiff, Nat.reduceAdd, Nat.reduceLeDiff, Nat.reducePow, Nat.reduceDiv, Nat.reduceMod, decide_true, ek]
      refine wCall_use ⟨hn.1, hn.2 h (1 + k)⟩ ?_
      rintro r h1 ⟨a1, -, x1⟩
      obtain ⟨p, rfl, da⟩ := a1 (by omega)
      obtain ⟨F, da, hF⟩ : ∃ F : Nat → Prop, DiskAt F h1 p (Dk.new (1 + k)) ∧ (∀ m, F m → m < h1.length) := ⟨_, da, fun m x => x.2⟩
      simp only [go_sem, reduceIte, Nat.reduceEqDiff, Nat.reduceAdd, Nat.reduceLeDiff, Nat.reducePow, Nat.reduceDiv, Nat.reduceMod, decide_true]
      refine use1 he.1 (he.2 F h1 p _ da) ?_
      rw [show (Dk.new (1 + k)).n = 1 + k from rfl]
      simp only [go_sem, reduceIte, Nat.reduceEqDiff, Nat.reduceAdd, Nat.reduceLeDiff, Nat.reducePow, Nat.reduceDiv, Nat.reduceMod, decide_true]
      refine wCall_use ⟨hn.1, hn.2 h1 (1 + k)⟩ ?_
      rintro r h2 ⟨a1, -, x2⟩
      obtain ⟨q, rfl, dc⟩ := a1 (by omega)
      obtain ⟨G, dc, hG, hGF⟩ : ∃ G : Nat → Prop, DiskAt G h2 q (Dk.new (1 + k)) ∧ (∀ m, G m → m < h2.length) ∧ (∀ m, G m → ¬ F m) := ⟨_, dc, fun m x => x.2, fun m x y => by have := hF m y; have := x.1; omega⟩
      have da := da.up x2
      have l12 := x2.1
      simp only [go_sem, reduceIte, Nat.reduceEqDiff, Nat.reduceAdd, Nat.reduceLeDiff, Nat.reducePow, Nat.reduceDiv, Nat.reduceMod, decide_true]
      obtain ⟨I, hI⟩ : ∃ I : Nat → Env → AHeap → Prop, ∀ m E h', I m E h' ↔ ∃ (i : Nat) (d : Dk), lk 1 E = aops l ∧ lk 2 E = aints how ∧ lk 3 E = aints more ∧ lk 9 E = .ptr p 6 0 0 ∧ lk 11 E = .ptr q 6 0 0 ∧ lk 13 E = .int .i64 i ∧ DiskAt F h' p d ∧ DiskAt G h' q d ∧ d.n = 1 + k ∧ h2.length ≤ h'.length ∧ i ≤ l.length ∧ m = l.length - i := ⟨_, fun _ _ _ => Iff.rfl⟩
      refine vc_loop I l.length ((hI _ _ _).2 ⟨0, _, by simp [lk_ins, lk_cons], by simp [lk_ins, lk_cons], by simp [lk_ins, lk_cons], by simp [lk_ins, lk_cons], by simp [lk_ins, lk_cons], by simp [lk_ins], da, dc, rfl, by omega, by omega, by omega⟩) ?_
      clear da dc
      intro m E H hh'
      obtain ⟨i, d, k1, k2, k3, k9, k11, k13, da, dc, en, lq, hi', rfl⟩ := (hI _ _ _).1 hh'
      have hFH : ∀ m, F m → m < H.length := fun m hm => by have := hF m hm; omega
      have hGH : ∀ m, G m → m < H.length := fun m hm => by have := hG m hm; omega
      simp only [c_glebelaw04_SectorCrashed_l0, go_sem, reduceIte, Nat.reduceEqDiff, Nat.reduceAdd, Nat.reduceLeDiff, Nat.reducePow, Nat.reduceDiv, Nat.reduceMod, decide_true, k1, k2, k3, k9, k11, k13, len_aops]
      refine wCond_split (fun ci => ?_) (fun ci => ?_)
      · simp at ci
        obtain ⟨pp, z1, z2, z3, z4, z5, -⟩ := ops_at ci
        have ew : IntKind.i64.wrap (↑i + 1) = (i : Int) + 1 := wrap_i64 (by omega)
        have hm := List.getElem_mem ci
        simp only [go_sem, reduceIte, Nat.reduceEqDiff, Nat.reduceAdd, Nat.reduceLeDiff, Nat.reducePow, Nat.reduceDiv, Nat.reduceMod, decide_true, k1, k9, k11, k13, z1, z2]
        refine wCall_use ⟨hr.1, hr.2 F H p d l[i] da (hfew _ hm) (hR _ hm) hFH⟩ ?_
        rintro _ H2 ⟨rfl, da2, x2'⟩
        have dc2 := dc.off x2' fun m _ hg hf => hGF m hg hf
        have lH := x2'.1
        simp only [go_sem, reduceIte, Nat.reduceEqDiff, Nat.reduceAdd, Nat.reduceLeDiff, Nat.reducePow, Nat.reduceDiv, Nat.reduceMod, decide_true, k1, k9, k11, k13, z1, z2]
        refine wCall_use ⟨hr.1, hr.2 G H2 q d l[i] dc2 (hfew _ hm) (hR _ hm) (fun m hm => by have := hGH m hm; omega)⟩ ?_
        rintro _ H3 ⟨rfl, dc3, x3⟩
        have da3 := da2.off x3 fun m _ hf hg => hGF m hg hf
        have en2 : (d.op l[i]).1.n = 1 + k := by
          rw [← en]; unfold Dk.op
          split
          · unfold Dk.write; split; rfl; split; rfl; split; rfl; split <;> exact Dk.spend_n d
          · split
            · exact Dk.flush_n d
            · split; rfl; split <;> rfl
        simp only [go_sem, reduceIte, Nat.reduceEqDiff, Nat.reduceAdd, Nat.reduceLeDiff, Nat.reducePow, Nat.reduceDiv, Nat.reduceMod, decide_true, k1, k9, k11, k13, ew]
        exact ⟨_, by omega, (hI _ _ _).2 ⟨i + 1, _, by simp [lk_ins, k1], by simp [lk_ins, k2], by simp [lk_ins, k3], by simp [lk_ins, k9], by simp [lk_ins, k11], by simp [lk_ins], da3, dc3, en2, by have := x3.1; omega, ci, rfl⟩⟩
      · clear hh' ci
        have ok := da.ok
        have clen := ok.clen
        simp only [go_sem, reduceIte, Nat.reduceEqDiff, Nat.reduceAdd, Nat.reduceLeDiff, Nat.reducePow, Nat.reduceDiv, Nat.reduceMod, decide_true, k9]
        refine use1 hs.1 (hs.2 F H p d da) ?_
        simp only [go_sem, reduceIte, Nat.reduceEqDiff, Nat.reduceAdd, Nat.reduceLeDiff, Nat.reducePow, Nat.reduceDiv, Nat.reduceMod, decide_true, k9]
        refine use1 hd.1 (hd.2 F H p d da) ?_
        simp only [go_sem, reduceIte, Nat.reduceEqDiff, Nat.reduceAdd, Nat.reduceLeDiff, Nat.reducePow, Nat.reduceDiv, Nat.reduceMod, decide_true, k11]
        refine wCall_use ⟨hc.1, hc.2 G nof H q d [] .nils dc (by simp only [dInts, Rd]; exact ⟨[], .inl ⟨rfl, rfl⟩, by simp only [List.map_nil, RdLL]⟩) (fun _ x => x.elim)⟩ ?_
        rintro _ H2 ⟨dc2, x2'⟩
        have da2 := da.off x2' fun m _ hf hg => hGF m hg hf
        simp only [go_sem, reduceIte, Nat.reduceEqDiff, Nat.reduceAdd, Nat.reduceLeDiff, Nat.reducePow, Nat.reduceDiv, Nat.reduceMod, decide_true, k11]
        refine use1 hs.1 (hs.2 G H2 q _ dc2) ?_
        simp only [go_sem, reduceIte, Nat.reduceEqDiff, Nat.reduceAdd, Nat.reduceLeDiff, Nat.reducePow, Nat.reduceDiv, Nat.reduceMod, decide_true, k9, k2]
        refine wCall_use ⟨hc.1, hc.2 F nof H2 p d how _ da2 (rd_aints _ _ _) (fun _ x => x.elim)⟩ ?_
        rintro _ H3 ⟨da3, x3⟩
        simp only [go_sem, reduceIte, Nat.reduceEqDiff, Nat.reduceAdd, Nat.reduceLeDiff, Nat.reducePow, Nat.reduceDiv, Nat.reduceMod, decide_true, k9]
        refine use1 hs.1 (hs.2 F H3 p _ da3) ?_
        simp only [go_sem, reduceIte, Nat.reduceEqDiff, Nat.reduceAdd, Nat.reduceLeDiff, Nat.reducePow, Nat.reduceDiv, Nat.reduceMod, decide_true]
        refine use1 ho.1 (ho.2 H3 65 (by omega)) ?_
        simp only [go_sem, reduceIte, Nat.reduceEqDiff, Nat.reduceAdd, Nat.reduceLeDiff, Nat.reducePow, Nat.reduceDiv, Nat.reduceMod, decide_true]
        clear da da2 dc dc2
        have sl : ∀ e : Dk, e.n = 1 + k → e.shown.length = (1 + k).toNat := fun e he => by simp [Dk.shown, he]; omega
        have sg : ∀ (e : Dk) (he : e.n = 1 + k) (i : Nat) (hi : i < e.shown.length), e.shown[i] = e.cell i := fun e he i hi => by simp [Dk.shown]
        clear hI I
        obtain ⟨N, hN⟩ : ∃ N : Nat, (1 + k).toNat = N := ⟨_, rfl⟩
        have sl0 := sl d en
        have sl1 := sl (d.crash how) en
        have sl2 := sl (d.crash []) en
        rw [hN] at sl0 sl1 sl2
        obtain ⟨I, hI⟩ : ∃ I : Nat → Env → AHeap → Prop, ∀ m E h', I m E h' ↔ ∃ (i j : Nat), lk 2 E = aints how ∧ lk 3 E = aints more ∧ lk 9 E = .ptr p 6 0 0 ∧ lk 14 E = arows d.shown ∧ lk 15 E = aints d.dirty ∧ lk 16 E = arows (d.crash []).shown ∧ lk 17 E = arows (d.crash how).shown ∧
          lk 18 E = abytes (rowB 65) ∧ lk 19 E = .int .i64 j ∧ lk 20 E = .int .i64 i ∧ h' = H3 ∧ j ≤ d.cache.length ∧ (∀ t (ht : t < d.cache.length), t < j ↔ d.cache[t].no < i) ∧ i ≤ N ∧ m = N - i := ⟨_, fun _ _ _ => Iff.rfl⟩
        refine vc_loop I N ((hI _ _ _).2 ⟨0, 0, by simp [lk_ins, k2], by simp [lk_ins, k3], by simp [lk_ins, k9], by simp [lk_ins], by simp [lk_ins], by simp [lk_ins], by simp [lk_ins], by simp [lk_ins], by simp [lk_ins], by simp [lk_ins], rfl, by omega, fun t ht => ⟨fun x => by omega, fun x => by have := (ok.cache.2 _ (List.getElem_mem ht)).1; omega⟩, by omega, by omega⟩) ?_
        clear k1 k2 k3 k9 k11 k13
        intro m E H4 hh'
        obtain ⟨i, j, k2, k3, k9, k14, k15, k16, k17, k18, k19, k20, rfl, hj, hjt, hi2, rfl⟩ := (hI _ _ _).1 hh'
        have dlen : d.dirty.length = d.cache.length := by simp [Dk.dirty]
        simp only [c_glebelaw04_SectorCrashed_l1, go_sem, reduceIte, Nat.reduceEqDiff, Nat.reduceAdd, Nat.reduceLeDiff, Nat.reducePow, Nat.reduceDiv, Nat.reduceMod, decide_true, k2, k3, k9, k14, k15, k16, k17, k18, k19, k20, len_arows, sl1]
        refine wCond_split (fun ci => ?_) (fun ci => ?_)
        · simp at ci
          have ew : IntKind.i64.wrap (↑i + 1) = (i : Int) + 1 := wrap_i64 (by omega)
          have ewj : IntKind.i64.wrap (↑j + 1) = (j : Int) + 1 := wrap_i64 (by omega)
          obtain ⟨p1, u1, v1⟩ := rows_at (l := (d.crash how).shown) (i := i) (by omega)
          obtain ⟨p2, u2, v2⟩ := rows_at (l := d.shown) (i := i) (by omega)
          obtain ⟨p3, u3, v3⟩ := rows_at (l := (d.crash []).shown) (i := i) (by omega)
          have w1 := sg (d.crash how) en i (by omega)
          have w2 := sg d en i (by omega)
          have w3 := sg (d.crash []) en i (by omega)
          rw [w1] at v1
          rw [w2] at v2
          rw [w3] at v3
          have ir : 0 ≤ (i : Int) ∧ (i : Int) < d.n := by omega
          simp only [go_sem, reduceIte, Nat.reduceEqDiff, Nat.reduceAdd, Nat.reduceLeDiff, Nat.reducePow, Nat.reduceDiv, Nat.reduceMod, decide_true, k15, k20]
          refine use1 hi.1 (hi.2 H4 d.dirty i (by omega)) ?_
          by_cases cd : (i : Int) ∈ d.dirty
          · obtain ⟨t, ht, et⟩ := List.getElem_of_mem cd
            have ht' : t < d.cache.length := by omega
            have et' : d.cache[t].no = i := by rw [← et]; simp [Dk.dirty]
            have q1 := hjt t ht'
            have jt : j = t := by
              rcases Nat.lt_trichotomy j t with hlt | he | hgt
              · have q2 := hjt j (by omega)
                have := rises_at ok.cache.1 hlt ht'
                omega
              · exact he
              · omega
            subst jt
            have ec := crash_cell_in ok how ht'
            rw [et'] at ec
            have nj : ∀ t (ht : t < d.cache.length), t < j + 1 ↔ d.cache[t].no < ((i + 1 : Nat) : Int) := fun t ht => by
              rcases Nat.lt_trichotomy t j with hlt | he | hgt
              · have := rises_at ok.cache.1 hlt ht'; omega
              · subst he; omega
              · have := rises_at ok.cache.1 hgt ht; omega
            have lb : ∀ e : Dk, e.ok → (e.cell i).length ≤ 2^40 := fun e he => by
              unfold Dk.cell; split
              · have := Dk.read_len he i; omega
              · rw [rowB_length]; omega
            have nxt : ∀ E' : Env, lk 2 E' = aints how → lk 3 E' = aints more → lk 9 E' = .ptr p 6 0 0 → lk 14 E' = arows d.shown → lk 15 E' = aints d.dirty → lk 16 E' = arows (d.crash []).shown → lk 17 E' = arows (d.crash how).shown →
                lk 18 E' = abytes (rowB 65) → lk 19 E' = .int .i64 ((j : Int) + 1) → lk 20 E' = .int .i64 ((i : Int) + 1) → ∃ m', m' < N - i ∧ I m' E' H4 := fun E' r2 r3 r9 r14 r15 r16 r17 r18 r19 r20 =>
              ⟨_, by omega, (hI _ _ _).2 ⟨i + 1, j + 1, r2, r3, r9, r14, r15, r16, r17, r18, r19, r20, rfl, by omega, nj, ci, rfl⟩⟩
            have okh := Dk.crash_ok ok how
            have lbh := lb _ okh
            have sme : ∀ x : List Int, decide (x = x) = true := fun x => by simp
            simp only [go_sem, reduceIte, Nat.reduceEqDiff, Nat.reduceAdd, Nat.reduceLeDiff, Nat.reducePow, Nat.reduceDiv, Nat.reduceMod, decide_true, decide_eq_true cd, Bool.not_true, k2, k18, k19]
            by_cases c1 : j < how.length
            · have c1' : ¬ (how.length : Int) ≤ (j : Int) := by omega
              obtain ⟨av, y1, y2⟩ := (rd_aints nof H4 how).int_at c1
              rw [List.getElem?_eq_getElem c1] at ec
              generalize how[j] = v at *
              simp only at ec
              by_cases c2 : v = 0
              · rw [if_pos c2] at ec
                rw [ec] at v1 lbh
                simp only [go_sem, reduceIte, Nat.reduceEqDiff, Nat.reduceAdd, Nat.reduceLeDiff, Nat.reducePow, Nat.reduceDiv, Nat.reduceMod, decide_true, decide_eq_false c1', y1, y2, decide_eq_true c2, k2, k19, k16, k17, k20, u1, u3, v1, v3]
                refine use1 hb.1 (hb.2 nof H4 _ _ _ _ (rd_abytes _ _ _) (rd_abytes _ _ _) lbh) ?_
                simp only [go_sem, reduceIte, Nat.reduceEqDiff, Nat.reduceAdd, Nat.reduceLeDiff, Nat.reducePow, Nat.reduceDiv, Nat.reduceMod, decide_true, sme, Bool.not_true, k19, k20, ew, ewj]
                exact nxt _ (by simp [lk_ins, k2]) (by simp [lk_ins, k3]) (by simp [lk_ins, k9]) (by simp [lk_ins, k14]) (by simp [lk_ins, k15]) (by simp [lk_ins, k16]) (by simp [lk_ins, k17]) (by simp [lk_ins, k18]) (by simp [lk_ins]) (by simp [lk_ins])
              · rw [if_neg c2] at ec
                by_cases c3 : v = 1
                · rw [if_pos c3] at ec
                  rw [ec] at v1 lbh
                  simp only [go_sem, reduceIte, Nat.reduceEqDiff, Nat.reduceAdd, Nat.reduceLeDiff, Nat.reducePow, Nat.reduceDiv, Nat.reduceMod, decide_true, decide_eq_false c1', y1, y2, decide_eq_false c2, decide_eq_true c3, k2, k19, k14, k17, k20, u1, u2, v1, v2]
                  refine use1 hb.1 (hb.2 nof H4 _ _ _ _ (rd_abytes _ _ _) (rd_abytes _ _ _) lbh) ?_
                  simp only [go_sem, reduceIte, Nat.reduceEqDiff, Nat.reduceAdd, Nat.reduceLeDiff, Nat.reducePow, Nat.reduceDiv, Nat.reduceMod, decide_true, sme, Bool.not_true, k19, k20, ew, ewj]
                  exact nxt _ (by simp [lk_ins, k2]) (by simp [lk_ins, k3]) (by simp [lk_ins, k9]) (by simp [lk_ins, k14]) (by simp [lk_ins, k15]) (by simp [lk_ins, k16]) (by simp [lk_ins, k17]) (by simp [lk_ins, k18]) (by simp [lk_ins]) (by simp [lk_ins])
                · rw [if_neg c3] at ec
                  rw [ec] at v1 lbh
                  simp only [go_sem, reduceIte, Nat.reduceEqDiff, Nat.reduceAdd, Nat.reduceLeDiff, Nat.reducePow, Nat.reduceDiv, Nat.reduceMod, decide_true, decide_eq_false c1', y1, y2, decide_eq_false c2, decide_eq_false c3, k2, k19, k17, k20, u1, v1]
                  refine use1 hb.1 (hb.2 nof H4 _ _ _ _ (rd_abytes _ _ _) (rd_abytes _ _ _) lbh) ?_
                  simp only [go_sem, reduceIte, Nat.reduceEqDiff, Nat.reduceAdd, Nat.reduceLeDiff, Nat.reducePow, Nat.reduceDiv, Nat.reduceMod, decide_true, sme, Bool.not_true, k19, k20, ew, ewj]
                  exact nxt _ (by simp [lk_ins, k2]) (by simp [lk_ins, k3]) (by simp [lk_ins, k9]) (by simp [lk_ins, k14]) (by simp [lk_ins, k15]) (by simp [lk_ins, k16]) (by simp [lk_ins, k17]) (by simp [lk_ins, k18]) (by simp [lk_ins]) (by simp [lk_ins])
            · have c1' : (how.length : Int) ≤ (j : Int) := by omega
              rw [List.getElem?_eq_none (by omega)] at ec
              simp only at ec
              rw [ec] at v1 lbh
              simp only [go_sem, reduceIte, Nat.reduceEqDiff, Nat.reduceAdd, Nat.reduceLeDiff, Nat.reducePow, Nat.reduceDiv, Nat.reduceMod, decide_true, decide_eq_true c1', k16, k17, k20, u1, u3, v1, v3]
              refine use1 hb.1 (hb.2 nof H4 _ _ _ _ (rd_abytes _ _ _) (rd_abytes _ _ _) lbh) ?_
              simp only [go_sem, reduceIte, Nat.reduceEqDiff, Nat.reduceAdd, Nat.reduceLeDiff, Nat.reducePow, Nat.reduceDiv, Nat.reduceMod, decide_true, sme, Bool.not_true, k19, k20, ew, ewj]
              exact nxt _ (by simp [lk_ins, k2]) (by simp [lk_ins, k3]) (by simp [lk_ins, k9]) (by simp [lk_ins, k14]) (by simp [lk_ins, k15]) (by simp [lk_ins, k16]) (by simp [lk_ins, k17]) (by simp [lk_ins, k18]) (by simp [lk_ins]) (by simp [lk_ins])
          · have ec := crash_cell_not ok how ir cd
            rw [ec] at v1
            have lb : (d.cell i).length ≤ 2^40 := by
              unfold Dk.cell; split
              · have := Dk.read_len ok i; omega
              · rw [rowB_length]; omega
            simp only [go_sem, reduceIte, Nat.reduceEqDiff, Nat.reduceAdd, Nat.reduceLeDiff, Nat.reducePow, Nat.reduceDiv, Nat.reduceMod, decide_true, decide_eq_false cd, Bool.not_false, k14, k17, k20, u1, v1, u2, v2]
            refine use1 hb.1 (hb.2 nof H4 _ _ _ _ (rd_abytes _ _ _) (rd_abytes _ _ _) lb) ?_
            have eq : decide (d.cell i = d.cell i) = true := by simp
            simp only [go_sem, reduceIte, Nat.reduceEqDiff, Nat.reduceAdd, Nat.reduceLeDiff, Nat.reducePow, Nat.reduceDiv, Nat.reduceMod, decide_true, eq, Bool.not_true, k20, ew, u1, u2, v1, v2]
            refine ⟨_, by omega, (hI _ _ _).2 ⟨i + 1, j, by simp [lk_ins, k2], by simp [lk_ins, k3], by simp [lk_ins, k9], by simp [lk_ins, k14], by simp [lk_ins, k15], by simp [lk_ins, k16], by simp [lk_ins, k17], by simp [lk_ins, k18], by simp [lk_ins, k19], by simp [lk_ins], rfl, hj, fun t ht => ?_, ci, rfl⟩⟩
            have q1 := hjt t ht
            have q2 : d.cache[t].no ≠ i := fun e => cd (by rw [← e]; exact List.mem_map.2 ⟨_, List.getElem_mem ht, rfl⟩)
            omega
        · simp at ci
          have ej : j = d.cache.length := by
            apply Classical.byContradiction
            intro hne
            have hlt : j < d.cache.length := by omega
            have := hjt j hlt
            have := (ok.cache.2 _ (List.getElem_mem hlt)).2.1
            omega
          have ed : (j : Int) = (d.dirty.length : Int) := by omega
          obtain ⟨sm1, sm2⟩ := Dk.shown_small (Dk.crash_ok ok how)
          simp only [go_sem, reduceIte, Nat.reduceEqDiff, Nat.reduceAdd, Nat.reduceLeDiff, Nat.reducePow, Nat.reduceDiv, Nat.reduceMod, decide_true, k3, k9]
          refine wCall_use ⟨hc.1, hc.2 F nof H4 p _ more _ da3 (rd_aints _ _ _) (fun _ x => x.elim)⟩ ?_
          rintro _ H5 ⟨da5, x5⟩
          have es : decide ((d.crash how).shown = ((d.crash how).crash more).shown) = true := by rw [Dk.crash_clean (d := d.crash how) rfl]; simp
          simp only [go_sem, reduceIte, Nat.reduceEqDiff, Nat.reduceAdd, Nat.reduceLeDiff, Nat.reducePow, Nat.reduceDiv, Nat.reduceMod, decide_true, k9, k15, k17, k19, decide_eq_true ed]
          refine use1 hs.1 (hs.2 F H5 p _ da5) ?_
          simp only [go_sem, reduceIte, Nat.reduceEqDiff, Nat.reduceAdd, Nat.reduceLeDiff, Nat.reducePow, Nat.reduceDiv, Nat.reduceMod, decide_true]
          refine use1 hq.1 (hq.2 H5 _ _ sm1 sm2) ?_
          simp only [go_sem, reduceIte, Nat.reduceEqDiff, Nat.reduceAdd, Nat.reduceLeDiff, Nat.reducePow, Nat.reduceDiv, Nat.reduceMod, decide_true, es]

end Glb

/-
  Layer 4: the law SectorKnown.
-/
namespace Glb
open Go
set_option maxRecDepth 10000
set_option maxHeartbeats 32000000

def ns04 : List Int := [-9223372036854775808, -1, 0, 1, 2, 3, 4, 16384, 16385, 9223372036854775807]
def Runs4 (P : Program) (f : FuncId) : Prop := isFn P f = true ∧ ∀ (n : Int) (l : List Op4) (h : AHeap), (∀ o ∈ l, o.R) → ACalls P f [.int .i64 n, aops l] h fun r _ => r = .bool true
def Flushed4 (P : Program) (f : FuncId) : Prop := isFn P f = true ∧ ∀ (n : Int) (l : List Op4) (how : List Int) (h : AHeap), (∀ o ∈ l, o.R) → ACalls P f [.int .i64 n, aops l, aints how] h fun r _ => r = .bool true
def Fails4 (P : Program) (f : FuncId) : Prop := isFn P f = true ∧ ∀ (l : List Op4) (n : Int) (h : AHeap), (∀ o ∈ l, o.R) → ACalls P f [aops l, .int .i64 n] h fun r _ => r = .bool true
def Crashed4 (P : Program) (f : FuncId) : Prop := isFn P f = true ∧ ∀ (n : Int) (l : List Op4) (how more : List Int) (h : AHeap), (∀ o ∈ l, o.R) → ACalls P f [.int .i64 n, aops l, aints how, aints more] h fun r _ => r = .bool true

def ops04 (a b : Int) : List Op4 := [⟨0, 1, 0, [7], []⟩, ⟨3, 0, 0, [], []⟩, ⟨0, 1, 0, [7], []⟩, ⟨1, 0, 0, [], []⟩, ⟨0, 1, 0, [8], []⟩, ⟨0, 2, 0, [9], []⟩, ⟨0, 1, 0, [], []⟩, ⟨3, 0, 1, [], [a, b]⟩, ⟨0, 1, 2, [10], []⟩, ⟨3, 0, 0, [], [0]⟩,
  ⟨0, a, b, rowB 64, []⟩, ⟨0, 2, 0, rowB 65, []⟩, ⟨2, b, 0, [], []⟩, ⟨0, 9, 0, [], []⟩, ⟨0, 3, 0, [], []⟩, ⟨1, 3, 0, [], []⟩, ⟨1, 0, 0, [], []⟩, ⟨0, a, 0, [], []⟩, ⟨0, 0, 0, rowB 65, []⟩, ⟨3, 0, 0, [], [1, 1, 2, 3]⟩, ⟨9, 0, 0, [], []⟩, ⟨1, 0, 0, [], []⟩]

def rows04 (m : Nat) (a b : Int) : List (List AV) := [[.int .i64 0, .int .i64 1, .int .i64 0, .ref (m) 1 0 1 (some 1), .nils],
  [.int .i64 3, .int .i64 0, .int .i64 0, .nils, .nils],
  [.int .i64 0, .int .i64 1, .int .i64 0, .ref (m + 1) 1 0 1 (some 1), .nils],
  [.int .i64 1, .int .i64 0, .int .i64 0, .nils, .nils],
  [.int .i64 0, .int .i64 1, .int .i64 0, .ref (m + 2) 1 0 1 (some 1), .nils],
  [.int .i64 0, .int .i64 2, .int .i64 0, .ref (m + 3) 1 0 1 (some 1), .nils],
  [.int .i64 0, .int .i64 1, .int .i64 0, .nils, .nils],
  [.int .i64 3, .int .i64 0, .int .i64 1, .nils, .ref (m + 4) 1 0 2 (some 2)],
  [.int .i64 0, .int .i64 1, .int .i64 2, .ref (m + 5) 1 0 1 (some 1), .nils],
  [.int .i64 3, .int .i64 0, .int .i64 0, .nils, .ref (m + 6) 1 0 1 (some 1)],
  [.int .i64 0, .int .i64 a, .int .i64 b, abytes (rowB 64), .nils],
  [.int .i64 0, .int .i64 2, .int .i64 0, abytes (rowB 65), .nils],
  [.int .i64 2, .int .i64 b, .int .i64 0, .nils, .nils],
  [.int .i64 0, .int .i64 9, .int .i64 0, .nils, .nils],
  [.int .i64 0, .int .i64 3, .int .i64 0, .nils, .nils],
  [.int .i64 1, .int .i64 3, .int .i64 0, .nils, .nils],
  [.int .i64 1, .int .i64 0, .int .i64 0, .nils, .nils],
  [.int .i64 0, .int .i64 a, .int .i64 0, .nils, .nils],
  [.int .i64 0, .int .i64 0, .int .i64 0, abytes (rowB 65), .nils],
  [.int .i64 3, .int .i64 0, .int .i64 0, .nils, .ref (m + 7) 1 0 4 (some 4)],
  [.int .i64 9, .int .i64 0, .int .i64 0, .nils, .nils],
  [.int .i64 1, .int .i64 0, .int .i64 0, .nils, .nils]]
def lit04 (m : Nat) (a b : Int) : AHeap := [some (.arr 1 [[.int .u8 (7)]] false),
  some (.arr 1 [[.int .u8 (7)]] false),
  some (.arr 1 [[.int .u8 (8)]] false),
  some (.arr 1 [[.int .u8 (9)]] false),
  some (.arr 1 [[.int .i64 (a)], [.int .i64 (b)]] false),
  some (.arr 1 [[.int .u8 (10)]] false),
  some (.arr 1 [[.int .i64 (0)]] false),
  some (.arr 1 [[.int .i64 (1)], [.int .i64 (1)], [.int .i64 (2)], [.int .i64 (3)]] false),
  some (.arr 5 (rows04 m a b) false)]
theorem lit04_eq (m : Nat) (a b : Int) : lit04 m a b = [some (.arr 1 [[.int .u8 (7)]] false), some (.arr 1 [[.int .u8 (7)]] false), some (.arr 1 [[.int .u8 (8)]] false), some (.arr 1 [[.int .u8 (9)]] false), some (.arr 1 [[.int .i64 (a)], [.int .i64 (b)]] false), some (.arr 1 [[.int .u8 (10)]] false), some (.arr 1 [[.int .i64 (0)]] false), some (.arr 1 [[.int .i64 (1)], [.int .i64 (1)], [.int .i64 (2)], [.int .i64 (3)]] false), some (.arr 5 [[.int .i64 0, .int .i64 1, .int .i64 0, .ref (m) 1 0 1 (some 1), .nils], [.int .i64 3, .int .i64 0, .int .i64 0, .nils, .nils], [.int .i64 0, .int .i64 1, .int .i64 0, .ref (m + 1) 1 0 1 (some 1), .nils], [.int .i64 1, .int .i64 0, .int .i64 0, .nils, .nils], [.int .i64 0, .int .i64 1, .int .i64 0, .ref (m + 2) 1 0 1 (some 1), .nils], [.int .i64 0, .int .i64 2, .int .i64 0, .ref (m + 3) 1 0 1 (some 1), .nils], [.int .i64 0, .int .i64 1, .int .i64 0, .nils, .nils], [.int .i64 3, .int .i64 0, .int .i64 1, .nils, .ref (m + 4) 1 0 2 (some 2)], [.int .i64 0, .int .i64 1, .int .i64 2, .ref (m + 5) 1 0 1 (some 1), .nils], [.int .i64 3, .int .i64 0, .int .i64 0, .nils, .ref (m + 6) 1 0 1 (some 1)], [.int .i64 0, .int .i64 a, .int .i64 b, abytes (rowB 64), .nils], [.int .i64 0, .int .i64 2, .int .i64 0, abytes (rowB 65), .nils], [.int .i64 2, .int .i64 b, .int .i64 0, .nils, .nils], [.int .i64 0, .int .i64 9, .int .i64 0, .nils, .nils], [.int .i64 0, .int .i64 3, .int .i64 0, .nils, .nils], [.int .i64 1, .int .i64 3, .int .i64 0, .nils, .nils], [.int .i64 1, .int .i64 0, .int .i64 0, .nils, .nils], [.int .i64 0, .int .i64 a, .int .i64 0, .nils, .nils], [.int .i64 0, .int .i64 0, .int .i64 0, abytes (rowB 65), .nils], [.int .i64 3, .int .i64 0, .int .i64 0, .nils, .ref (m + 7) 1 0 4 (some 4)], [.int .i64 9, .int .i64 0, .int .i64 0, .nils, .nils], [.int .i64 1, .int .i64 0, .int .i64 0, .nils, .nils]] false)] := rfl
theorem row_rd {h : AHeap} {k i l : Int} {data list : List Int} {x y : AV} (hx : Rd (fun _ => True) h (dBytes data) x) (hy : Rd (fun _ => True) h (dInts list) y) : RdL (fun _ => True) h (Op4.c ⟨k, i, l, data, list⟩) [.int .i64 k, .int .i64 i, .int .i64 l, x, y] :=
  ⟨_, _, rfl, rfl, _, _, rfl, rfl, _, _, rfl, rfl, _, _, rfl, hx, _, _, rfl, hy, rfl⟩
theorem nl_rd (h : AHeap) : Rd (fun _ => True) h (.sl 1 []) .nils := ⟨[], .inl ⟨rfl, rfl⟩, rfl⟩
theorem lk_mid (H M L : AHeap) (j : Nat) (hj : j < M.length) : (H ++ M ++ L)[H.length + j]? = M[j]? := by
  rw [List.append_assoc, List.getElem?_append_right (by omega), show H.length + j - H.length = j by omega, List.getElem?_append_left hj]
theorem rows04_rd (H L : AHeap) (a b : Int) : RdLL (fun _ => True) (H ++ lit04 H.length a b ++ L) ((ops04 a b).map Op4.c) (rows04 H.length a b) := by
  have lk9 : ∀ (v : Option ABlk) (j : Nat) (hv : (lit04 H.length a b)[j]? = some v), (H ++ lit04 H.length a b ++ L)[H.length + j]? = some v := fun v j hv => by rw [lk_mid _ _ _ _ (List.getElem?_eq_some_iff.1 hv).1, hv]
  have nl := nl_rd (H ++ lit04 H.length a b ++ L)
  exact ⟨_, _, rfl, row_rd (rd_lit (k := .u8) (xs := [7]) (lk9 _ 0 rfl) rfl) (nl), _, _, rfl, row_rd (nl) (nl), _, _, rfl, row_rd (rd_lit (k := .u8) (xs := [7]) (lk9 _ 1 rfl) rfl) (nl), _, _, rfl, row_rd (nl) (nl), _, _, rfl, row_rd (rd_lit (k := .u8) (xs := [8]) (lk9 _ 2 rfl) rfl) (nl), _, _, rfl, row_rd (rd_lit (k := .u8) (xs := [9]) (lk9 _ 3 rfl) rfl) (nl), _, _, rfl, row_rd (nl) (nl), _, _, rfl, row_rd (nl) (rd_lit (k := .i64) (xs := [a, b]) (lk9 _ 4 rfl) rfl), _, _, rfl, row_rd (rd_lit (k := .u8) (xs := [10]) (lk9 _ 5 rfl) rfl) (nl), _, _, rfl, row_rd (nl) (rd_lit (k := .i64) (xs := [0]) (lk9 _ 6 rfl) rfl), _, _, rfl, row_rd (rd_abytes _ _ _) (nl), _, _, rfl, row_rd (rd_abytes _ _ _) (nl), _, _, rfl, row_rd (nl) (nl), _, _, rfl, row_rd (nl) (nl), _, _, rfl, row_rd (nl) (nl), _, _, rfl, row_rd (nl) (nl), _, _, rfl, row_rd (nl) (nl), _, _, rfl, row_rd (nl) (nl), _, _, rfl, row_rd (rd_abytes _ _ _) (nl), _, _, rfl, row_rd (nl) (rd_lit (k := .i64) (xs := [1, 1, 2, 3]) (lk9 _ 7 rfl) rfl), _, _, rfl, row_rd (nl) (nl), _, _, rfl, row_rd (nl) (nl), rfl⟩
theorem ops04_rd (H L : AHeap) (a b : Int) : Rd (fun _ => True) (H ++ lit04 H.length a b ++ L) (dOps (ops04 a b)) (.ref (H.length + 8) 5 0 22 (some 22)) :=
  ⟨rows04 H.length a b, .inr (.inr ⟨_, 0, 22, some 22, _, false, rfl, trivial, (lk_mid _ (lit04 H.length a b) _ 8 (Nat.le_of_ble_eq_true rfl)).trans rfl, Nat.le_of_ble_eq_true rfl, fun c hc => by cases hc; decide, rfl⟩), rows04_rd H L a b⟩
theorem ops04_rd7 (H L : AHeap) (a b : Int) : Rd (fun _ => True) (H ++ lit04 H.length a b ++ L) (dOps ((ops04 a b).take 7)) (.ref (H.length + 8) 5 0 7 (some 22)) := by
  have x := rows04_rd H L a b
  have key : ∀ {ds : List (List D)} {es : List (List AV)} (n : Nat), RdLL (fun _ => True) (H ++ lit04 H.length a b ++ L) ds es → RdLL (fun _ => True) (H ++ lit04 H.length a b ++ L) (ds.take n) (es.take n) := by
    intro ds
    induction ds with
    | nil => intro es n hh; simp only [RdLL] at hh; subst hh; simp [RdLL]
    | cons d ds ih =>
      intro es n hh
      obtain ⟨e, r, rfl, h1, h2⟩ := hh
      cases n with
      | zero => simp [RdLL]
      | succ n => exact ⟨_, _, rfl, h1, ih n h2⟩
  have := key 7 x
  rw [← List.map_take] at this
  exact ⟨(rows04 H.length a b).take 7, .inr (.inr ⟨_, 0, 7, some 22, _, false, rfl, trivial, (lk_mid _ (lit04 H.length a b) _ 8 (Nat.le_of_ble_eq_true rfl)).trans rfl, Nat.le_of_ble_eq_true rfl, fun c hc => by cases hc; decide, rfl⟩), this⟩

theorem freeR_nones (dep : Nat → Nat → Bool) (H : AHeap) (k i : Nat) (l : List (Nat × Nat × ABlk)) : freeR dep H.length k i l (H ++ List.replicate k none) = true := by
  simp only [freeR, List.all_eq_true, List.mem_range]
  intro q hq
  rw [List.getElem?_append_right (by omega), List.getElem?_replicate, if_pos (by omega)]
  simp [isFree]
theorem ns04_R : ∀ x ∈ ns04, -9223372036854775808 ≤ x ∧ x ≤ 9223372036854775807 := by decide
theorem ops04_R {a b : Int} (ha : -9223372036854775808 ≤ a ∧ a ≤ 9223372036854775807) (hb : -9223372036854775808 ≤ b ∧ b ≤ 9223372036854775807) : ∀ o ∈ ops04 a b, o.R := by
  have e : ∀ {k i l : Int} {d q : List Int}, (-9223372036854775808 ≤ i ∧ i ≤ 9223372036854775807) → (⟨k, i, l, d, q⟩ : Op4).R := fun h => h
  simp only [ops04, List.forall_mem_cons]
  refine ⟨e (by omega), e (by omega), e (by omega), e (by omega), e (by omega), e (by omega), e (by omega), e (by omega), e (by omega), e (by omega), e ha, e (by omega), e hb, e (by omega), e (by omega), e (by omega), e (by omega), e ha, e (by omega), e (by omega), e (by omega), e (by omega), ?_⟩
  intro o ho
  cases ho
theorem app3 {α : Type} (H : List α) (x y z : α) : H ++ [x] ++ [y] ++ [z] = H ++ [x, y, z] := by simp
theorem set_tail {α : Type} (H L : List α) (j : Nat) (v : α) : (H ++ L).set (H.length + j) v = H ++ L.set j v := by
  rw [List.set_append_right _ _ (by omega)]; congr 2; omega
theorem set_tail0 {α : Type} (H L : List α) (v : α) : (H ++ L).set H.length v = H ++ L.set 0 v := set_tail H L 0 v
theorem rep9 {α : Type} (v : α) : List.replicate 9 v = [v, v, v, v, v, v, v, v, v] := rfl

theorem sknown_ok {P : Program} {f fr f1 f2 f3 f4 fw : FuncId} (hf : Is P f (c_glebelaw04_SectorKnown fr f1 f2 f3 f4 fw)) (hr : RowOk P fr) (h1 : Runs4 P f1) (h2 : Fails4 P f2) (h3 : Flushed4 P f3) (h4 : Crashed4 P f4) (hw : YesOk P fw) (h : AHeap) :
    ACalls P f [] h fun r _ => r = .bool true := by
  refine fun_sound hf.1 (Nat.le_of_ble_eq_true rfl) ?_
  show vc P (c_glebelaw04_SectorKnown fr f1 f2 f3 f4 fw).code ⟨[], [], h⟩ (atEnd (c_glebelaw04_SectorKnown fr f1 f2 f3 f4 fw).res _)
  simp only [c_glebelaw04_SectorKnown, go_sem, reduceIte, Nat.reduceEqDiff, Nat.reduceAdd, Nat.reduceLeDiff, Nat.reducePow, Nat.reduceDiv, Nat.reduceMod, decide_true]
  have B1 := bx10 h (some (.arr 1 (ns04.map fun n => [AV.int .i64 n]) false))
  have eN : ns04.map (fun n => [AV.int .i64 n]) = [[.int .i64 (-9223372036854775808)], [.int .i64 (-1)], [.int .i64 0], [.int .i64 1], [.int .i64 2], [.int .i64 3], [.int .i64 4], [.int .i64 16384], [.int .i64 16385], [.int .i64 9223372036854775807]] := rfl
  rw [← eN]
  obtain ⟨n1, hn1⟩ : ∃ n, h.length = n := ⟨_, rfl⟩
  rw [hn1] at B1 ⊢
  generalize h ++ [some (ABlk.arr 1 (ns04.map fun n => [AV.int .i64 n]) false)] = H at *
  clear eN
  obtain ⟨I, hI⟩ : ∃ I : Nat → Env → AHeap → Prop, ∀ m L h', I m L h' ↔ ∃ i : Nat, lk 1 L = .ref n1 1 0 10 (some 10) ∧ lk 2 L = .int .i64 i ∧ h'[n1]? = some (some (.arr 1 (ns04.map fun n => [AV.int .i64 n]) false)) ∧ i ≤ 10 ∧ m = 10 - i := ⟨_, fun _ _ _ => Iff.rfl⟩
  refine vc_loop I 10 ((hI _ _ _).2 ⟨0, by simp [lk_ins, lk_cons], by simp [lk_ins, lk_cons], B1, by omega, by omega⟩) ?_
  clear B1
  intro m L H3 hh
  obtain ⟨i, k1, k2, B1, hi, rfl⟩ := (hI _ _ _).1 hh
  have la10 : ∀ n, alen (.ref n 1 0 10 (some 10)) = some (.int .i64 10) := fun _ => rfl
  simp only [c_glebelaw04_SectorKnown_l1, go_sem, reduceIte, Nat.reduceEqDiff, Nat.reduceAdd, Nat.reduceLeDiff, Nat.reducePow, Nat.reduceDiv, Nat.reduceMod, decide_true, k1, k2, la10]
  refine wCond_split (fun ci => ?_) (fun ci => ?_)
  · simp at ci
    have ci : i < 10 := by omega
    have xi := ix_lit n1 10 i (some 10) .i64 ci
    simp only [go_sem, reduceIte, Nat.reduceEqDiff, Nat.reduceAdd, Nat.reduceLeDiff, Nat.reducePow, Nat.reduceDiv, Nat.reduceMod, decide_true, k1, k2]
    obtain ⟨J, hJ⟩ : ∃ J : Nat → Env → AHeap → Prop, ∀ m L h', J m L h' ↔ ∃ k : Nat, lk 1 L = .ref n1 1 0 10 (some 10) ∧ lk 2 L = .int .i64 i ∧ lk 3 L = .int .i64 k ∧ h'[n1]? = some (some (.arr 1 (ns04.map fun n => [AV.int .i64 n]) false)) ∧ k ≤ 10 ∧ m = 10 - k := ⟨_, fun _ _ _ => Iff.rfl⟩
    refine vc_loop J 10 ((hJ _ _ _).2 ⟨0, by simp [lk_ins, k1], by simp [lk_ins, k2], by simp [lk_ins], B1, by omega, by omega⟩) ?_
    clear k1 k2 B1
    intro m L H4 hh
    obtain ⟨k, k1, k2, k3, B1, hk', rfl⟩ := (hJ _ _ _).1 hh
    simp only [c_glebelaw04_SectorKnown_l0, go_sem, reduceIte, Nat.reduceEqDiff, Nat.reduceAdd, Nat.reduceLeDiff, Nat.reducePow, Nat.reduceDiv, Nat.reduceMod, decide_true, k1, k2, k3, la10]
    refine wCond_split (fun ck => ?_) (fun ck => ?_)
    · simp at ck
      have ck : k < 10 := by omega
      have xk := ix_lit n1 10 k (some 10) .i64 ck
      have ltn := (List.getElem?_eq_some_iff.1 B1).1
      have ews : IntKind.i64.wrap (↑k + 1) = (k : Int) + 1 := wrap_i64 (by omega)
      have ai : ∀ h, h[n1]? = some (some (.arr 1 (ns04.map fun n => [AV.int .i64 n]) false)) → aload h false 1 (.ptr n1 1 i 0) = some (.int .i64 (ns04[i]'ci)) := fun h hb => ld_lit hb ci
      have ak : ∀ h, h[n1]? = some (some (.arr 1 (ns04.map fun n => [AV.int .i64 n]) false)) → aload h false 1 (.ptr n1 1 k 0) = some (.int .i64 (ns04[k]'ck)) := fun h hb => ld_lit hb ck
      have ri : (ns04.map fun n => [AV.int .i64 n])[i]? = some [.int .i64 (ns04[i]'ci)] := by rw [List.getElem?_map, List.getElem?_eq_getElem ci]; rfl
      have rk : (ns04.map fun n => [AV.int .i64 n])[k]? = some [.int .i64 (ns04[k]'ck)] := by rw [List.getElem?_map, List.getElem?_eq_getElem ck]; rfl
      have ra := ns04_R _ (List.getElem_mem ci)
      have rb := ns04_R _ (List.getElem_mem ck)
      generalize ns04[i]'ci = a at *
      generalize ns04[k]'ck = b at *
      have hb0 : ∀ L : AHeap, (H4 ++ L)[n1]? = some (some (.arr 1 (ns04.map fun n => [AV.int .i64 n]) false)) := fun L => by rw [List.getElem?_append_left ltn]; exact B1
      have nri : notRes H4.length 9 (.ptr n1 1 i 0) = true := notRes_lt ltn
      have nrk : notRes H4.length 9 (.ptr n1 1 k 0) = true := notRes_lt ltn
      simp only [go_sem, reduceIte, Nat.reduceEqDiff, Nat.reduceAdd, Nat.reduceLeDiff, Nat.reducePow, Nat.reduceDiv, Nat.reduceMod, decide_true, k1, k2, k3, xi, xk, set_tail, set_tail0, rep9, List.set_cons_zero, List.set_cons_succ, hb0, ri, rk, nri, nrk, loose_cons]
      have hr64 : ∀ h, ACalls P fr [.int .i64 64] h fun r h' => r = abytes (rowB 64) ∧ h' = h := fun h => hr.2 h 64 (by omega)
      have hr65 : ∀ h, ACalls P fr [.int .i64 65] h fun r h' => r = abytes (rowB 65) ∧ h' = h := fun h => hr.2 h 65 (by omega)
      refine use1 hr.1 (hr64 _) ?_
      simp only [go_sem, reduceIte, Nat.reduceEqDiff, Nat.reduceAdd, Nat.reduceLeDiff, Nat.reducePow, Nat.reduceDiv, Nat.reduceMod, decide_true, k1, k2, k3, xi, xk, set_tail, set_tail0, rep9, List.set_cons_zero, List.set_cons_succ, hb0, ri, rk, nri, nrk, loose_cons]
      refine ⟨freeR_nones _ _ 9 _ _, ?_⟩
      refine use1 hr.1 (hr65 _) ?_
      simp only [go_sem, reduceIte, Nat.reduceEqDiff, Nat.reduceAdd, Nat.reduceLeDiff, Nat.reducePow, Nat.reduceDiv, Nat.reduceMod, decide_true, k1, k2, k3, xi, xk, set_tail, set_tail0, rep9, List.set_cons_zero, List.set_cons_succ, hb0, ri, rk, nri, nrk, loose_cons]
      refine ⟨freeR_nones _ _ 9 _ _, ?_⟩
      refine use1 hr.1 (hr65 _) ?_
      simp only [go_sem, reduceIte, Nat.reduceEqDiff, Nat.reduceAdd, Nat.reduceLeDiff, Nat.reducePow, Nat.reduceDiv, Nat.reduceMod, decide_true, k1, k2, k3, xi, xk, set_tail, set_tail0, rep9, List.set_cons_zero, List.set_cons_succ, hb0, ri, rk, nri, nrk, loose_cons]
      rw [← lit04_eq]
      refine ⟨freeR_nones _ _ 9 _ _, ?_⟩
      have rdO : ∀ x y z, Rd (fun _ => True) (H4 ++ lit04 H4.length a b ++ [x] ++ [y] ++ [z]) (dOps (ops04 a b)) (.ref (H4.length + 8) 5 0 22 (some 22)) := fun x y z => by rw [app3]; exact ops04_rd _ _ _ _
      have rdO7 : ∀ x y z, Rd (fun _ => True) (H4 ++ lit04 H4.length a b ++ [x] ++ [y] ++ [z]) (dOps ((ops04 a b).take 7)) (.ref (H4.length + 8) 5 0 7 (some 22)) := fun x y z => by rw [app3]; exact ops04_rd7 _ _ _ _
      have hb1 : ∀ x y z, (H4 ++ lit04 H4.length a b ++ [x] ++ [y] ++ [z])[n1]? = some (some (.arr 1 (ns04.map fun n => [AV.int .i64 n]) false)) := fun x y z => by rw [app3, List.append_assoc]; exact hb0 _
      have opsR : ∀ o ∈ ops04 a b, o.R := ops04_R ra rb
      have ltn1 : n1 < (H4 ++ lit04 H4.length a b).length := by rw [List.length_append]; omega
      have nri1 : notRes (H4 ++ lit04 H4.length a b).length 3 (.ptr n1 1 i 0) = true := notRes_lt ltn1
      have nrk1 : notRes (H4 ++ lit04 H4.length a b).length 3 (.ptr n1 1 k 0) = true := notRes_lt ltn1
      clear ra rb
      have opsR7 : ∀ o ∈ (ops04 a b).take 7, o.R := fun o ho => opsR o (List.mem_of_mem_take ho)
      generalize (ops04 a b).take 7 = l7 at *
      generalize ops04 a b = l at *
      generalize H4.length + 8 = m at *
      generalize H4 ++ lit04 H4.length a b = H5 at *
      refine use1 h1.1 (law_gen (h1.2 4 l [] opsR) (AsL.int _ _ (AsL.d (rdO _ _ _) AsL.nil))) ?_
      simp only [go_sem, reduceIte, Nat.reduceEqDiff, Nat.reduceAdd, Nat.reduceLeDiff, Nat.reducePow, Nat.reduceDiv, Nat.reduceMod, decide_true, k1, k2, k3, xi, xk, hb1, ri, rk, nri1, nrk1, loose_cons]
      refine use1 h1.1 (law_gen (h1.2 a l [] opsR) (AsL.int _ _ (AsL.d (rdO _ _ _) AsL.nil))) ?_
      simp only [go_sem, reduceIte, Nat.reduceEqDiff, Nat.reduceAdd, Nat.reduceLeDiff, Nat.reducePow, Nat.reduceDiv, Nat.reduceMod, decide_true, k1, k2, k3, xi, xk, hb1, ri, rk, nri1, nrk1, loose_cons]
      refine use1 h2.1 (law_gen (h2.2 l b [] opsR) (AsL.d (rdO _ _ _) (AsL.int _ _ AsL.nil))) ?_
      simp only [go_sem, reduceIte, Nat.reduceEqDiff, Nat.reduceAdd, Nat.reduceLeDiff, Nat.reducePow, Nat.reduceDiv, Nat.reduceMod, decide_true, k1, k2, k3, xi, xk, hb1, ri, rk, nri1, nrk1, loose_cons]
      refine use1 h3.1 (law_gen (h3.2 a l [b] [] opsR) (AsL.int _ _ (AsL.d (rdO _ _ _) (AsL.d (rd_lit (k := .i64) (xs := [b]) (bx30 H5 _ _ _) rfl) AsL.nil)))) ?_
      simp only [go_sem, reduceIte, Nat.reduceEqDiff, Nat.reduceAdd, Nat.reduceLeDiff, Nat.reducePow, Nat.reduceDiv, Nat.reduceMod, decide_true, k1, k2, k3, xi, xk, hb1, ri, rk, nri1, nrk1, loose_cons]
      have s7 : aslice 5 (.ref m 5 0 22 (some 22)) none (some 7) none = some (.ref m 5 0 7 (some 22)) := rfl
      refine ⟨by simp, ?_⟩
      simp only [go_sem, reduceIte, Nat.reduceEqDiff, Nat.reduceAdd, Nat.reduceLeDiff, Nat.reducePow, Nat.reduceDiv, Nat.reduceMod, decide_true, k1, k2, k3, xi, xk, hb1, ri, rk, nri1, nrk1, loose_cons, s7]
      refine use1 h4.1 (law_gen (h4.2 a l7 [b, a] [1, 1] [] opsR7) (AsL.int _ _ (AsL.d (rdO7 _ _ _) (AsL.d (rd_lit (k := .i64) (xs := [b, a]) (bx31 H5 _ _ _) rfl) (AsL.d (rd_lit (k := .i64) (xs := [1, 1]) (bx32 H5 _ _ _) rfl) AsL.nil))))) ?_
      have d1 : Nat.testBit 4503599627370495 31 = true := by decide
      have d2 : Nat.testBit 4503599627370495 50 = true := by decide
      have d3 : Nat.testBit 4503599627370495 51 = true := by decide
      rw [kDB_mk]
      refine ⟨by rw [freeR_three]; simp [mdep, d1, d2, d3], by simp only [go_sem, reduceIte, Nat.reduceEqDiff, Nat.reduceAdd, Nat.reduceLeDiff, Nat.reducePow, Nat.reduceDiv, Nat.reduceMod, decide_true], ?_⟩
      simp only [go_sem, reduceIte, Nat.reduceEqDiff, Nat.reduceAdd, Nat.reduceLeDiff, Nat.reducePow, Nat.reduceDiv, Nat.reduceMod, decide_true, k1, k2, k3, xi, xk, hb1, ri, rk, nri1, nrk1, loose_cons, ews]
      exact ⟨_, by omega, (hJ _ _ _).2 ⟨k + 1, by simp [lk_ins, k1], by simp [lk_ins, k2], by simp [lk_ins], hb1 _ _ _, ck, rfl⟩⟩
    · have ew : IntKind.i64.wrap (↑i + 1) = (i : Int) + 1 := wrap_i64 (by omega)
      simp only [go_sem, reduceIte, Nat.reduceEqDiff, Nat.reduceAdd, Nat.reduceLeDiff, Nat.reducePow, Nat.reduceDiv, Nat.reduceMod, decide_true, k1, k2, k3, ew]
      exact ⟨_, by omega, (hI _ _ _).2 ⟨i + 1, by simp [lk_ins, k1], by simp [lk_ins], B1, ci, rfl⟩⟩
  · simp only [go_sem, reduceIte, Nat.reduceEqDiff, Nat.reduceAdd, Nat.reduceLeDiff, Nat.reducePow, Nat.reduceDiv, Nat.reduceMod, decide_true, k1, k2]
    refine use1 hw.1 (hw.2 _) ?_
    simp only [go_sem, reduceIte, Nat.reduceEqDiff, Nat.reduceAdd, Nat.reduceLeDiff, Nat.reducePow, Nat.reduceDiv, Nat.reduceMod, decide_true]

end Glb
