/-
  A library of its own: its parts, one behind the other.
-/
import Derived.Test.YtifkpnagloijkaaGlbSecC
set_option linter.unusedSimpArgs false
set_option linter.unusedVariables false
/-
  Layer 4: Row, SameRows, shown and in.
-/
namespace Glb
open Go
set_option maxRecDepth 10000
set_option maxHeartbeats 8000000

def rowB (n : Nat) : List Int := (List.range n).map fun (i : Nat) => IntKind.u8.wrap ((i : Int) * 7 + 1)
theorem rowB_length (n : Nat) : (rowB n).length = n := by simp [rowB]
def RowOk (P : Program) (f : FuncId) : Prop := isFn P f = true ∧ ∀ (h : AHeap) (n : Nat), n ≤ 2^40 → ACalls P f [.int .i64 n] h fun r h' => r = abytes (rowB n) ∧ h' = h

theorem amax0 {n : Int} (hn : 0 ≤ n) : amnmx true [.int .i64 0, .int .i64 n] = some (.int .i64 n) := by
  simp only [amnmx, amnmx.aux]
  by_cases c : n = 0
  · subst c; rfl
  · simp [show (0:Int) < n by omega]

theorem row_ok {P : Program} {f : FuncId} (hf : Is P f c_glebekit_Row) : RowOk P f := by
  refine ⟨hf.2, fun h n hn => ACalls.freeze (K := fun r h' => Own (dBytes (rowB n)) (fun m => h.length ≤ m) h' r ∧ Ext nof h h') (fun_sound hf.1 (Nat.le_of_ble_eq_true rfl) ?_) (fun _ _ hk => ⟨hk.2, _, Frz.d (Own.fz (dBytes _) (fun _ x => x) _ hk.1), rfl⟩)⟩
  show vc P c_glebekit_Row.code ⟨[(0, .int .i64 n)], [], h⟩ (atEnd c_glebekit_Row.res _)
  have hm := amks_int (h := h) (sz := 1) (bytes := 1) (zero := [.int .u8 0]) (k := .i64) (k' := .i64) (l := ((n : Nat) : Int)) (c := ((n : Nat) : Int)) (by omega) (by omega) (by omega)
  simp only [Int.toNat_natCast] at hm
  simp only [c_glebekit_Row, go_sem, reduceIte, Nat.reduceEqDiff, Nat.reduceAdd, Nat.reduceLeDiff, Nat.reducePow, Nat.reduceDiv, Nat.reduceMod, decide_true, rev_mnmx, List.map_cons, List.map_nil, amax0 (Int.natCast_nonneg n), hev_mks, hm]
  obtain ⟨I, hI⟩ : ∃ I : Nat → Env → AHeap → Prop, ∀ m E h', I m E h' ↔ ∃ (i : Nat) (row : List (List AV)), lk 3 E = .ref h.length 1 0 n (some n) ∧ lk 4 E = .int .i64 i ∧ h' = h ++ [some (.arr 1 row false)] ∧ row.length = n ∧
    (∀ j, j < n → ∃ v, row[j]? = some [.int .u8 v]) ∧ (∀ j, j < i → row[j]? = some [.int .u8 (IntKind.u8.wrap ((j : Int) * 7 + 1))]) ∧ i ≤ n ∧ m = n - i := ⟨_, fun _ _ _ => Iff.rfl⟩
  refine vc_loop I n ((hI _ _ _).2 ⟨0, _, by simp [lk_ins, lk_cons], by simp [lk_ins], rfl, by simp, fun j hj => ⟨0, by simp [hj]⟩, fun j hj => by omega, by omega, by omega⟩) ?_
  intro m E h' hh
  obtain ⟨i, row, k3, k4, rfl, hr, hv, hd, hi, rfl⟩ := (hI _ _ _).1 hh
  have la3 : alen (.ref h.length 1 0 n (some n)) = some (.int .i64 n) := rfl
  simp only [c_glebekit_Row_l0, go_sem, reduceIte, Nat.reduceEqDiff, Nat.reduceAdd, Nat.reduceLeDiff, Nat.reducePow, Nat.reduceDiv, Nat.reduceMod, decide_true, k3, k4, la3]
  refine wCond_split (fun ci => ?_) (fun ci => ?_)
  · simp at ci
    have ci' : i < n := by omega
    obtain ⟨v, hvi⟩ := hv i ci'
    have e2 : IntKind.i64.wrap (↑i + 1) = (i : Int) + 1 := wrap_i64 (by omega)
    have e7 : IntKind.i64.wrap ((i : Int) * 7) = (i : Int) * 7 := wrap_i64 (by omega)
    have e8 : IntKind.i64.wrap ((i : Int) * 7 + 1) = (i : Int) * 7 + 1 := wrap_i64 (by omega)
    have hix : aindex 1 (.ref h.length 1 0 n (some n)) (.int .i64 i) = some (.ptr h.length 1 i 0) := by simp only [aindex]; rw [if_pos ⟨trivial, by omega, by omega⟩]; simp
    have st : ∀ (u : Int), astore (h ++ [some (.arr 1 row false)]) 1 (.ptr h.length 1 i 0) (.int .u8 u) = some (h ++ [some (.arr 1 (row.set i [.int .u8 u]) false)]) := fun u => by
      have := astore_elem (x := .int .u8 u) (bx10 h (some (.arr 1 row false))) hvi rfl rfl rfl rfl
      rw [this, sx10]
    simp only [go_sem, reduceIte, Nat.reduceEqDiff, Nat.reduceAdd, Nat.reduceLeDiff, Nat.reducePow, Nat.reduceDiv, Nat.reduceMod, decide_true, k3, k4, hix, e7, e8, e2, st]
    refine ⟨_, by omega, (hI _ _ _).2 ⟨i + 1, _, by simp [lk_ins, k3], by simp [lk_ins], rfl, by simpa using hr, fun j hj => ?_, fun j hj => ?_, by omega, rfl⟩⟩
    · by_cases e : j = i
      · subst e; exact ⟨_, List.getElem?_set_self (by omega)⟩
      · rw [List.getElem?_set_ne (fun x => e x.symm)]; exact hv j hj
    · by_cases e : j = i
      · subst e; exact List.getElem?_set_self (by omega)
      · rw [List.getElem?_set_ne (fun x => e x.symm)]; exact hd j (by omega)
  · simp at ci
    obtain rfl : i = n := by omega
    have hrow : row = (rowB i).map fun n => [.int .u8 n] := by
      apply List.ext_getElem?
      intro j
      rcases Nat.lt_or_ge j i with hj | hj
      · rw [hd j hj]; simp [rowB, hj]
      · rw [List.getElem?_eq_none (by omega), List.getElem?_eq_none (by simp [rowB_length]; omega)]
    subst hrow
    simp only [go_sem, reduceIte, Nat.reduceEqDiff, Nat.reduceAdd, Nat.reduceLeDiff, Nat.reducePow, Nat.reduceDiv, Nat.reduceMod, decide_true, k3]
    refine ⟨?_, Ext.b1 _⟩
    simp only [dBytes, Own, List.length_map, rowB_length]
    exact .inr (.inr ⟨_, 0, _, _, false, rfl, Nat.le_refl _, bx10 _ _, by simp [rowB_length], (fun c hc => by cases hc; omega), by rw [List.drop_zero, List.take_of_length_le (by simp [rowB_length])]; exact ownLL_ints .u8 _ _ _⟩)

def dRows (l : List (List Int)) : D := .sl 1 (l.map fun b => [dBytes b])
def arows (l : List (List Int)) : AV := (dRows l).av
theorem rd_arows (F : Nat → Prop) (h : AHeap) (l : List (List Int)) : Rd F h (dRows l) (arows l) := rd_av _ _ _
theorem len_arows (l : List (List Int)) : alen (arows l) = some (.int .i64 l.length) := by simpa using (rd_arows nof [] l).len
theorem rows_at {l : List (List Int)} {i : Nat} (hi : i < l.length) : ∃ p, aindex 1 (arows l) (.int .i64 i) = some p ∧ ∀ h, aload h false 1 p = some (abytes l[i]) := by
  obtain ⟨p, hp1, hp2⟩ := index_av 1 (fun b => [dBytes b]) l .i64 hi
  exact ⟨p, hp1, fun h => by rw [aload_p (hp2 h)]; rfl⟩

def SameRowsOk (P : Program) (f : FuncId) : Prop := isFn P f = true ∧ ∀ (h : AHeap) (x y : List (List Int)), x.length ≤ 2^40 → (∀ b ∈ x, b.length ≤ 2^40) →
  ACalls P f [arows x, arows y] h fun r h' => r = .bool (decide (x = y)) ∧ h' = h

theorem samerows_ok {P : Program} {f g : FuncId} (hf : Is P f (c_glebekit_SameRows g)) (hg : SameOk P g .u8) : SameRowsOk P f := by
  refine ⟨hf.2, fun h x y hx hxb => fun_sound hf.1 (Nat.le_of_ble_eq_true rfl) ?_⟩
  show vc P (c_glebekit_SameRows g).code ⟨[(0, arows x), (1, arows y)], [], h⟩ (atEnd (c_glebekit_SameRows g).res _)
  by_cases c : x.length = y.length
  · have c' : (x.length : Int) = (y.length : Int) := by omega
    simp only [c_glebekit_SameRows, go_sem, reduceIte, Nat.reduceEqDiff, Nat.reduceAdd, Nat.reduceLeDiff, Nat.reducePow, Nat.reduceDiv, Nat.reduceMod, decide_true, len_arows, decide_eq_true c']
    obtain ⟨I, hI⟩ : ∃ I : Nat → Env → AHeap → Prop, ∀ m E h', I m E h' ↔ ∃ (i : Nat), lk 0 E = arows x ∧ lk 1 E = arows y ∧ lk 5 E = .int .i64 i ∧ h' = h ∧ x.take i = y.take i ∧ i ≤ x.length ∧ m = x.length - i := ⟨_, fun _ _ _ => Iff.rfl⟩
    refine vc_loop I x.length ((hI _ _ _).2 ⟨0, by simp [lk_ins, lk_cons], by simp [lk_ins, lk_cons], by simp [lk_ins], rfl, by simp, by omega, by omega⟩) ?_
    intro m E h2 hh
    obtain ⟨i, k0, k1, k5, rfl, ht, hi, rfl⟩ := (hI _ _ _).1 hh
    simp only [c_glebekit_SameRows_l0, go_sem, reduceIte, Nat.reduceEqDiff, Nat.reduceAdd, Nat.reduceLeDiff, Nat.reducePow, Nat.reduceDiv, Nat.reduceMod, decide_true, k0, k1, k5, len_arows]
    refine wCond_split (fun ci => ?_) (fun ci => ?_)
    · simp at ci
      have ci2 : i < y.length := by omega
      obtain ⟨p, p1, p2⟩ := rows_at ci
      obtain ⟨q, q1, q2⟩ := rows_at ci2
      have ew : IntKind.i64.wrap (↑i + 1) = (i : Int) + 1 := wrap_i64 (by omega)
      simp only [go_sem, reduceIte, Nat.reduceEqDiff, Nat.reduceAdd, Nat.reduceLeDiff, Nat.reducePow, Nat.reduceDiv, Nat.reduceMod, decide_true, k0, k1, k5, p1, p2, q1, q2]
      refine use1 hg.1 (hg.2 nof h2 _ _ _ _ (rd_abytes _ _ x[i]) (rd_abytes _ _ y[i]) (hxb _ (List.getElem_mem ci))) ?_
      by_cases e : x[i] = y[i]
      · simp only [go_sem, reduceIte, Nat.reduceEqDiff, Nat.reduceAdd, Nat.reduceLeDiff, Nat.reducePow, Nat.reduceDiv, Nat.reduceMod, decide_true, decide_eq_true e, k0, k1, k5, p1, p2, q1, q2, ew]
        refine ⟨_, by omega, (hI _ _ _).2 ⟨i + 1, by simp [lk_ins, k0], by simp [lk_ins, k1], by simp [lk_ins], rfl, ?_, ci, rfl⟩⟩
        rw [List.take_succ_eq_append_getElem ci, List.take_succ_eq_append_getElem ci2, ht, e]
      · have ne : ¬ x = y := by rintro rfl; exact e rfl
        simp only [go_sem, reduceIte, Nat.reduceEqDiff, Nat.reduceAdd, Nat.reduceLeDiff, Nat.reducePow, Nat.reduceDiv, Nat.reduceMod, decide_true, decide_eq_false e, decide_eq_false ne, p1, p2, q1, q2]
    · simp at ci
      obtain rfl : i = x.length := by omega
      have e : x = y := by rw [List.take_length, c, List.take_length] at ht; exact ht
      simp only [go_sem, reduceIte, Nat.reduceEqDiff, Nat.reduceAdd, Nat.reduceLeDiff, Nat.reducePow, Nat.reduceDiv, Nat.reduceMod, decide_true, decide_eq_true e]
  · have c' : ¬ (x.length : Int) = (y.length : Int) := by omega
    have ne : ¬ x = y := by rintro rfl; exact c rfl
    simp only [c_glebekit_SameRows, go_sem, reduceIte, Nat.reduceEqDiff, Nat.reduceAdd, Nat.reduceLeDiff, Nat.reducePow, Nat.reduceDiv, Nat.reduceMod, decide_true, len_arows, decide_eq_false c', decide_eq_false ne, Bool.not_false]

end Glb

/-
  Layer 4: shown, in, and the laws of reading, in plain lists.
-/
namespace Glb
open Go
set_option maxRecDepth 10000
set_option maxHeartbeats 8000000

def Dk.cell (d : Dk) (i : Int) : List Int := if (d.read i).2 = 0 then (d.read i).1 else rowB 65
def Dk.shown (d : Dk) : List (List Int) := (List.range (min d.n.toNat 64)).map fun (i : Nat) => d.cell (i : Int)

def ShownOk (P : Program) (f : FuncId) : Prop := isFn P f = true ∧ ∀ (F : Nat → Prop) (h : AHeap) (p : Nat) (d : Dk), DiskAt F h p d → ACalls P f [.ptr p 6 0 0] h fun r h' => r = arows d.shown ∧ h' = h
theorem shown_ok {P : Program} {f g1 g2 g3 : FuncId} (hf : Is P f (c_glebelaw04_shown g1 g2 g3)) (h1 : DLenOk P g1) (h2 : ReadDP P g2) (h3 : RowOk P g3) : ShownOk P f := by
  refine ⟨hf.2, fun F h p d da => ACalls.freeze (K := fun r h' => OwnO h.length h' 1 r (D.avLL (d.shown.map fun b => [dBytes b])) ∧ Ext nof h h') (fun_sound hf.1 (Nat.le_of_ble_eq_true rfl) ?_) (fun _ _ hk => ⟨hk.2, _, Frz.d (OwnO.fz hk.1 (Nat.le_refl _)), rfl⟩)⟩
  show vc P (c_glebelaw04_shown g1 g2 g3).code ⟨[(0, .ptr p 6 0 0)], [], h⟩ (atEnd (c_glebelaw04_shown g1 g2 g3).res _)
  have dn := da.ok.n
  have sl : d.shown.length = min d.n.toNat 64 := by simp [Dk.shown]
  simp only [c_glebelaw04_shown, go_sem, reduceIte, Nat.reduceEqDiff, Nat.reduceAdd, Nat.reduceLeDiff, Nat.reducePow, Nat.reduceDiv, Nat.reduceMod, decide_true]
  obtain ⟨I, hI⟩ : ∃ I : Nat → Env → AHeap → Prop, ∀ m E h', I m E h' ↔ ∃ (i : Nat) (o : AV), lk 0 E = .ptr p 6 0 0 ∧ lk 3 E = o ∧ lk 4 E = .int .i64 i ∧ OwnO h.length h' 1 o (D.avLL ((d.shown.take i).map fun b => [dBytes b])) ∧ Ext nof h h' ∧ i ≤ d.shown.length ∧ m = d.shown.length - i := ⟨_, fun _ _ _ => Iff.rfl⟩
  refine vc_loop I d.shown.length ((hI _ _ _).2 ⟨0, .nils, by simp [lk_ins, lk_cons], by simp [lk_ins, lk_cons], by simp [lk_ins], .inl ⟨rfl, by simp [D.avLL]⟩, Ext.refl _ _, by omega, by omega⟩) ?_
  intro m E h2' hh
  obtain ⟨i, o, k0, k3, k4, hO, hE, hi, rfl⟩ := (hI _ _ _).1 hh
  have da2 := da.up hE
  simp only [c_glebelaw04_shown_l0, go_sem, reduceIte, Nat.reduceEqDiff, Nat.reduceAdd, Nat.reduceLeDiff, Nat.reducePow, Nat.reduceDiv, Nat.reduceMod, decide_true, k0, k3, k4]
  refine use1 h1.1 (h1.2 F h2' p d da2) ?_
  by_cases ci : i < d.shown.length
  · have c1 : (i : Int) < d.n := by omega
    have c2 : (i : Int) < 64 := by omega
    have ew : IntKind.i64.wrap (↑i + 1) = (i : Int) + 1 := wrap_i64 (by omega)
    have ec : d.shown[i] = d.cell i := by simp [Dk.shown]
    have tk : D.avLL ((d.shown.take (i + 1)).map fun b => [dBytes b]) = D.avLL ((d.shown.take i).map fun b => [dBytes b]) ++ [[abytes (d.cell i)]] := by
      rw [List.take_succ_eq_append_getElem ci, ec, avLL_map, avLL_map]; simp only [List.map_append, List.map_cons, List.map_nil]; rfl
    have sc : (abytes (d.cell i)).scalar = true := scalar_abytes _
    obtain ⟨o2, h3', s1, s2, s3⟩ := acc_app (bytes := 24) (h := h2' ++ [some (.arr 1 [[abytes (d.cell i)]] false)]) (ys := [[abytes (d.cell i)]]) hO (Ext.b1 _) hE.1 (by simp [avLL_length]; omega)
    have s1' := s1
    rw [← aappend_of (aelems_new h2' 1 [[abytes (d.cell i)]] false (some 1) (len := 1) rfl)] at s1'
    have fin : ∃ m', m' < d.shown.length - i ∧ ∀ E, lk 0 E = .ptr p 6 0 0 → lk 3 E = o2 → lk 4 E = .int .i64 ((i : Int) + 1) → I m' E h3' :=
      ⟨_, by omega, fun E q0 q3 q4 => (hI _ _ _).2 ⟨i + 1, o2, q0, q3, q4, by rw [tk]; exact s2, (hE.tr (Ext.b1 _)).then s3 (fun m hm hm' => by omega), ci, rfl⟩⟩
    obtain ⟨m', f1, f2⟩ := fin
    simp only [go_sem, reduceIte, Nat.reduceEqDiff, Nat.reduceAdd, Nat.reduceLeDiff, Nat.reducePow, Nat.reduceDiv, Nat.reduceMod, decide_true, k0, k3, k4, decide_eq_true c1, decide_eq_true c2]
    refine use1 h2.1 (h2.2 F h2' p d i da2) ?_
    by_cases c3 : (d.read i).2 = 0
    · have e0 : d.cell i = (d.read i).1 := if_pos c3
      rw [e0] at s1'
      simp only [go_sem, reduceIte, Nat.reduceEqDiff, Nat.reduceAdd, Nat.reduceLeDiff, Nat.reducePow, Nat.reduceDiv, Nat.reduceMod, decide_true, k0, k3, k4, decide_eq_true c3, s1', ew]
      exact ⟨m', f1, f2 _ (by simp [lk_ins, k0]) (by simp [lk_ins]) (by simp [lk_ins])⟩
    · have e0 : d.cell i = rowB 65 := if_neg c3
      rw [e0] at s1'
      simp only [go_sem, reduceIte, Nat.reduceEqDiff, Nat.reduceAdd, Nat.reduceLeDiff, Nat.reducePow, Nat.reduceDiv, Nat.reduceMod, decide_true, k0, k3, k4, decide_eq_false c3, Bool.not_false]
      refine use1 h3.1 (h3.2 h2' 65 (by omega)) ?_
      simp only [go_sem, reduceIte, Nat.reduceEqDiff, Nat.reduceAdd, Nat.reduceLeDiff, Nat.reducePow, Nat.reduceDiv, Nat.reduceMod, decide_true, k0, k3, k4, s1', ew]
      exact ⟨m', f1, f2 _ (by simp [lk_ins, k0]) (by simp [lk_ins]) (by simp [lk_ins])⟩
  · obtain rfl : i = d.shown.length := by omega
    rw [List.take_length] at hO
    by_cases c1 : (d.shown.length : Int) < d.n
    · have c2 : ¬ (d.shown.length : Int) < 64 := by omega
      simp only [go_sem, reduceIte, Nat.reduceEqDiff, Nat.reduceAdd, Nat.reduceLeDiff, Nat.reducePow, Nat.reduceDiv, Nat.reduceMod, decide_true, k0, k3, k4, decide_eq_true c1, decide_eq_false c2]
      exact ⟨hO, hE⟩
    · simp only [go_sem, reduceIte, Nat.reduceEqDiff, Nat.reduceAdd, Nat.reduceLeDiff, Nat.reducePow, Nat.reduceDiv, Nat.reduceMod, decide_true, k0, k3, k4, decide_eq_false c1]
      exact ⟨hO, hE⟩

/-! the plain laws -/

theorem Dk.read_eq {d e : Dk} (hn : e.n = d.n) (h1 : ∀ i, sfind e.cache i = sfind d.cache i) (h2 : ∀ i, sfind e.lasts i = sfind d.lasts i) (i : Int) : e.read i = d.read i := by
  unfold Dk.read; rw [hn, h1, h2]
theorem Dk.shown_eq {d e : Dk} (hn : e.n = d.n) (h : ∀ i, e.read i = d.read i) : e.shown = d.shown := by
  unfold Dk.shown; rw [hn]; congr 1; funext i; unfold Dk.cell; rw [h]
theorem Dk.spend_shown (d : Dk) : d.spend.2.shown = d.shown := Dk.shown_eq (Dk.spend_n d) fun i => Dk.read_eq (Dk.spend_n d) (fun i => by rw [Dk.spend_cache]) (fun i => by rw [Dk.spend_lasts]) i

theorem Dk.spend_down {d : Dk} (h : d.spend.1 = false) : d.spend.2.off = true := by
  unfold Dk.spend at h ⊢
  split
  · rfl
  · rename_i c; rw [if_neg c] at h; split at h <;> simp at h
end Glb

/-
  Layer 4: the laws SectorFlushed and SectorFails.
-/
namespace Glb
open Go
set_option maxRecDepth 10000
set_option maxHeartbeats 8000000

end Glb

/-
  Layer 4: the law SectorFails.
-/
namespace Glb
open Go
set_option maxRecDepth 10000
set_option maxHeartbeats 8000000

theorem Dk.spend_yes {d : Dk} (h0 : 0 ≤ d.left) (h : d.spend.1 = true) : d.spend.2.left = d.left - 1 ∧ 0 ≤ d.left - 1 ∧ d.spend.2.off = d.off := by
  unfold Dk.spend at h ⊢
  by_cases c : d.left = 0
  · rw [if_pos c] at h; simp at h
  · rw [if_neg c, if_pos (by omega)]; exact ⟨rfl, by omega, rfl⟩
theorem Dk.spend_not {d : Dk} (h0 : 0 ≤ d.left) (h : d.spend.1 = false) : d.spend.2.left = d.left ∧ d.left = 0 := by
  unfold Dk.spend at h ⊢
  by_cases c : d.left = 0
  · rw [if_pos c]; exact ⟨rfl, c⟩
  · rw [if_neg c, if_pos (by omega)] at h; simp at h

theorem fails_step {d : Dk} (h0 : 0 ≤ d.left) (ho : d.off = true → d.left = 0) {o : Op4} (hk : o.kind = 0 ∨ o.kind = 1) :
    ((d.op o).2 = 0 → (d.op o).1.left = d.left - 1) ∧ ((d.op o).2 ≠ 0 → (d.op o).1.left = d.left ∧ (d.op o).1.shown = d.shown ∧ (d.op o).1.dirty = d.dirty) ∧ 0 ≤ (d.op o).1.left ∧
      ((d.op o).1.off = true → (d.op o).1.left = 0) ∧ decide ((d.op o).2 = 10) = (d.op o).1.off := by
  have nd : d.spend.2.dirty = d.dirty := by unfold Dk.dirty; rw [Dk.spend_cache]
  unfold Dk.op
  rcases hk with hk | hk
  · rw [if_pos hk]
    unfold Dk.write
    cases eo : d.off with
    | true => rw [if_pos rfl]; exact ⟨fun x => by simp at x, fun _ => ⟨rfl, rfl, rfl⟩, h0, fun _ => ho eo, by simp [eo]⟩
    | false =>
      rw [if_neg (by simp)]
      split
      · exact ⟨fun x => by simp at x, fun _ => ⟨rfl, rfl, rfl⟩, h0, fun x => (by have x : d.off = true := x; rw [eo] at x; cases x), by simp [eo]⟩
      · split
        · exact ⟨fun x => by simp at x, fun _ => ⟨rfl, rfl, rfl⟩, h0, fun x => (by have x : d.off = true := x; rw [eo] at x; cases x), by simp [eo]⟩
        · cases es : d.spend.1 with
          | true =>
            rw [if_pos rfl]
            obtain ⟨s1, s2, s3⟩ := Dk.spend_yes h0 es
            refine ⟨fun _ => s1, fun x => absurd rfl x, ?_, fun x => ?_, ?_⟩
            · show 0 ≤ d.spend.2.left; omega
            · have : d.spend.2.off = true := x; rw [s3, eo] at this; cases this
            · show decide ((0:Int) = 10) = d.spend.2.off; rw [s3, eo]; rfl
          | false =>
            rw [if_neg (by simp)]
            obtain ⟨s1, s2⟩ := Dk.spend_not h0 es
            have s3 := Dk.spend_down es
            exact ⟨fun x => by simp at x, fun _ => ⟨s1, Dk.spend_shown d, nd⟩, by simp only; omega, fun _ => by simp only; omega, by simp only; rw [s3]; rfl⟩
  · rw [if_neg (by omega), if_pos hk]
    unfold Dk.flush
    cases eo : d.off with
    | true => rw [if_pos rfl]; exact ⟨fun x => by simp at x, fun _ => ⟨rfl, rfl, rfl⟩, h0, fun _ => ho eo, by simp [eo]⟩
    | false =>
      rw [if_neg (by simp)]
      cases es : d.spend.1 with
      | true =>
        rw [if_pos rfl]
        obtain ⟨s1, s2, s3⟩ := Dk.spend_yes h0 es
        refine ⟨fun _ => s1, fun x => absurd rfl x, ?_, fun x => ?_, ?_⟩
        · show 0 ≤ d.spend.2.left; omega
        · have : d.spend.2.off = true := x; rw [s3, eo] at this; cases this
        · show decide ((0:Int) = 10) = d.spend.2.off; rw [s3, eo]; rfl
      | false =>
        rw [if_neg (by simp)]
        obtain ⟨s1, s2⟩ := Dk.spend_not h0 es
        have s3 := Dk.spend_down es
        exact ⟨fun x => by simp at x, fun _ => ⟨s1, Dk.spend_shown d, nd⟩, by simp only; omega, fun _ => by simp only; omega, by simp only; rw [s3]; rfl⟩

theorem Dk.shown_small {d : Dk} (h : d.ok) : d.shown.length ≤ 2^40 ∧ ∀ b ∈ d.shown, b.length ≤ 2^40 := by
  refine ⟨by simp [Dk.shown]; omega, ?_⟩
  intro b hb
  simp only [Dk.shown, List.mem_map] at hb
  obtain ⟨i, -, rfl⟩ := hb
  unfold Dk.cell
  split
  · have := Dk.read_len h i; omega
  · rw [rowB_length]; omega

theorem fails_ok {P : Program} {f fw fl fn fp fa fs fd fr fo fe fi : FuncId} (hf : Is P f (c_glebelaw04_SectorFails fw fl fn fp fa fs fd fr fo fe fi)) (hw : YesOk P fw) (hl : Long4Ok P fl) (hn : NewDOk P fn) (hp : PickOk P fp) (ha : ArmOk P fa) (hs : ShownOk P fs) (hd : DirtyP P fd)
    (hr : Run4Ok P fr) (ho : DownOk P fo) (he : SameRowsOk P fe) (hi : SameOk P fi .i64) (l : List Op4) (n : Int) (hR : ∀ o ∈ l, o.R) (h : AHeap) :
    ACalls P f [aops l, .int .i64 n] h fun r _ => r = .bool true := by
  refine fun_sound hf.1 (Nat.le_of_ble_eq_true rfl) ?_
  show vc P (c_glebelaw04_SectorFails fw fl fn fp fa fs fd fr fo fe fi).code ⟨[(0, aops l), (1, .int .i64 n)], [], h⟩ (atEnd (c_glebelaw04_SectorFails fw fl fn fp fa fs fd fr fo fe fi).res _)
  simp only [c_glebelaw04_SectorFails, go_sem, reduceIte, Nat.reduceEqDiff, Nat.reduceAdd, Nat.reduceLeDiff, Nat.reducePow, Nat.reduceDiv, Nat.reduceMod, decide_true]
  refine use1 hw.1 (hw.2 h) ?_
  simp only [go_sem, reduceIte, Nat.reduceEqDiff, Nat.reduceAdd, Nat.reduceLeDiff, Nat.reducePow, Nat.reduceDiv, Nat.reduceMod, decide_true]
  refine wCall_use ⟨hl.1, hl.2 h l⟩ ?_
  rintro _ h ⟨⟨b, rfl, hfew⟩, rfl⟩
  cases b with
  | true => simp only [go_sem, reduceIte, Nat.reduceEqDiff, Nat.reduceAdd, Nat.reduceLeDiff, Nat.reducePow, Nat.reduceDiv, Nat.reduceMod, decide_true]
  | false =>
    obtain ⟨h200, hfew⟩ := hfew rfl
    simp only [go_sem, reduceIte, Nat.reduceEqDiff, Nat.reduceAdd, Nat.reduceLeDiff, Nat.reducePow, Nat.reduceDiv, Nat.reduceMod, decide_true]
    refine wCall_use ⟨hn.1, hn.2 h 16⟩ ?_
    rintro r h1 ⟨a1, -, x1⟩
    obtain ⟨p, rfl, da⟩ := a1 (by omega)
    obtain ⟨F, da, hF⟩ : ∃ F : Nat → Prop, DiskAt F h1 p (Dk.new 16) ∧ (∀ m, F m → m < h1.length) := ⟨_, da, fun m x => x.2⟩
    simp only [go_sem, reduceIte, Nat.reduceEqDiff, Nat.reduceAdd, Nat.reduceLeDiff, Nat.reducePow, Nat.reduceDiv, Nat.reduceMod, decide_true]
    refine use1 hp.1 (hp.2 n 100 (by omega) h1) ?_
    have pr := pick_lt (k := n) (n := 100) (by omega)
    generalize pick n 100 = k at *
    simp only [go_sem, reduceIte, Nat.reduceEqDiff, Nat.reduceAdd, Nat.reduceLeDiff, Nat.reducePow, Nat.reduceDiv, Nat.reduceMod, decide_true]
    refine wCall_use ⟨ha.1, ha.2 F h1 p _ k da (by omega)⟩ ?_
    rintro _ h2 ⟨da2, x2⟩
    have el : ((Dk.new 16).arm k).left = k := if_neg (by omega)
    have eo : ((Dk.new 16).arm k).off = false := rfl
    simp only [go_sem, reduceIte, Nat.reduceEqDiff, Nat.reduceAdd, Nat.reduceLeDiff, Nat.reducePow, Nat.reduceDiv, Nat.reduceMod, decide_true]
    obtain ⟨I, hI⟩ : ∃ I : Nat → Env → AHeap → Prop, ∀ m E h', I m E h' ↔ ∃ (i : Nat) (d : Dk), lk 0 E = aops l ∧ lk 5 E = .ptr p 6 0 0 ∧ lk 7 E = .int .i64 d.left ∧ lk 8 E = .int .i64 i ∧ DiskAt F h' p d ∧ h1.length ≤ h'.length ∧ 0 ≤ d.left ∧ (d.off = true → d.left = 0) ∧ i ≤ l.length ∧ m = l.length - i := ⟨_, fun _ _ _ => Iff.rfl⟩
    refine vc_loop I l.length ((hI _ _ _).2 ⟨0, _, by simp [lk_ins, lk_cons], by simp [lk_ins, lk_cons], by simp [lk_ins, lk_cons, el], by simp [lk_ins], da2, by have := x2.1; omega, by rw [el]; omega, fun x => (by rw [eo] at x; cases x), by omega, by omega⟩) ?_
    clear da da2 el eo
    intro m E H hh'
    obtain ⟨i, d, k0, k5, k7, k8, da, lq, d0, do_, hi', rfl⟩ := (hI _ _ _).1 hh'
    have hFH : ∀ m, F m → m < H.length := fun m hm => by have := hF m hm; omega
    simp only [c_glebelaw04_SectorFails_l0, go_sem, reduceIte, Nat.reduceEqDiff, Nat.reduceAdd, Nat.reduceLeDiff, Nat.reducePow, Nat.reduceDiv, Nat.reduceMod, decide_true, k0, k5, k7, k8, len_aops]
    refine wCond_split (fun ci => ?_) (fun ci => ?_)
    · simp at ci
      obtain ⟨pp, z1, z2, z3, z4, z5, z6⟩ := ops_at ci
      have ew : IntKind.i64.wrap (↑i + 1) = (i : Int) + 1 := wrap_i64 (by omega)
      have hm := List.getElem_mem ci
      by_cases hk : l[i].kind = 0 ∨ l[i].kind = 1
      · obtain ⟨s1, s2, s3, s4, s5⟩ := fails_step d0 do_ hk
        obtain ⟨sm1, sm2⟩ := Dk.shown_small da.ok
        have hk2 : l[i].kind = 0 ∨ (¬ l[i].kind = 0 ∧ l[i].kind = 1) := by omega
        have da' := da
        have dw : IntKind.i64.wrap (d.left - 1) = d.left - 1 := wrap_i64 (by have := da.ok.left; omega)
        have ne : ∀ b : Bool, abeq .neq (.bool b) (.bool b) = some (.bool false) := fun b => by cases b <;> rfl
        rcases hk2 with q0 | ⟨q0, q1⟩
        · simp only [go_sem, reduceIte, Nat.reduceEqDiff, Nat.reduceAdd, Nat.reduceLeDiff, Nat.reducePow, Nat.reduceDiv, Nat.reduceMod, decide_true, k0, k5, k7, k8, z1, z2, z3, z6, decide_eq_true q0, Bool.not_true]
          refine use1 hs.1 (hs.2 F H p d da) ?_
          simp only [go_sem, reduceIte, Nat.reduceEqDiff, Nat.reduceAdd, Nat.reduceLeDiff, Nat.reducePow, Nat.reduceDiv, Nat.reduceMod, decide_true, k5]
          refine use1 hd.1 (hd.2 F H p d da) ?_
          simp only [go_sem, reduceIte, Nat.reduceEqDiff, Nat.reduceAdd, Nat.reduceLeDiff, Nat.reducePow, Nat.reduceDiv, Nat.reduceMod, decide_true, k0, k5, k8, z1, z2]
          refine wCall_use ⟨hr.1, hr.2 F H p d l[i] da (hfew _ hm) (hR _ hm) hFH⟩ ?_
          rintro _ H2 ⟨rfl, da2, x2⟩
          have s3n : ¬ (d.op l[i]).1.left < 0 := by omega
          have nxt : ∀ E' : Env, lk 0 E' = aops l → lk 5 E' = .ptr p 6 0 0 → lk 7 E' = .int .i64 (d.op l[i]).1.left → lk 8 E' = .int .i64 ((i : Int) + 1) → ∃ m', m' < l.length - i ∧ I m' E' H2 := fun E' r0 r5 r7 r8 =>
            ⟨_, by omega, (hI _ _ _).2 ⟨i + 1, _, r0, r5, r7, r8, da2, by have := x2.1; omega, s3, s4, ci, rfl⟩⟩
          by_cases ce : (d.op l[i]).2 = 0
          · have t1 := s1 ce
            rw [t1] at s3n nxt
            have ce10 : ¬ (d.op l[i]).2 = 10 := by omega
            simp only [go_sem, reduceIte, Nat.reduceEqDiff, Nat.reduceAdd, Nat.reduceLeDiff, Nat.reducePow, Nat.reduceDiv, Nat.reduceMod, decide_true, decide_eq_true ce, k5, k7, dw, decide_eq_false s3n]
            refine use1 ho.1 (ho.2 F H2 p _ da2) ?_
            rw [← s5]
            simp only [go_sem, reduceIte, Nat.reduceEqDiff, Nat.reduceAdd, Nat.reduceLeDiff, Nat.reducePow, Nat.reduceDiv, Nat.reduceMod, decide_true, ne, decide_eq_false ce10, decide_eq_true ce, Bool.not_true, k8, ew]
            exact nxt _ (by simp [lk_ins, k0]) (by simp [lk_ins, k5]) (by simp [lk_ins]) (by simp [lk_ins])
          · obtain ⟨t1, t2, t3⟩ := s2 ce
            have e1 : decide (d.shown = (d.op l[i]).1.shown) = true := by rw [t2]; simp
            have e2 : decide (d.dirty = (d.op l[i]).1.dirty) = true := by rw [t3]; simp
            have dlen : d.dirty.length ≤ 2^40 := by have := da.ok.clen; simp [Dk.dirty]; omega
            rw [t1] at s3n nxt s4
            simp only [go_sem, reduceIte, Nat.reduceEqDiff, Nat.reduceAdd, Nat.reduceLeDiff, Nat.reducePow, Nat.reduceDiv, Nat.reduceMod, decide_true, decide_eq_false ce, k5, k7, decide_eq_false s3n]
            refine use1 ho.1 (ho.2 F H2 p _ da2) ?_
            rw [← s5] at s4 ⊢
            by_cases c10 : (d.op l[i]).2 = 10
            · have l0 : d.left = 0 := s4 (by simp [c10])
              simp only [go_sem, reduceIte, Nat.reduceEqDiff, Nat.reduceAdd, Nat.reduceLeDiff, Nat.reducePow, Nat.reduceDiv, Nat.reduceMod, decide_true, ne, decide_eq_true c10, decide_eq_true l0, decide_eq_false ce, Bool.not_true, Bool.not_false, k5, k7]
              refine use1 hs.1 (hs.2 F H2 p _ da2) ?_
              simp only [go_sem, reduceIte, Nat.reduceEqDiff, Nat.reduceAdd, Nat.reduceLeDiff, Nat.reducePow, Nat.reduceDiv, Nat.reduceMod, decide_true]
              refine use1 he.1 (he.2 H2 _ _ sm1 sm2) ?_
              simp only [go_sem, reduceIte, Nat.reduceEqDiff, Nat.reduceAdd, Nat.reduceLeDiff, Nat.reducePow, Nat.reduceDiv, Nat.reduceMod, decide_true, e1, Bool.not_true, k5]
              refine use1 hd.1 (hd.2 F H2 p _ da2) ?_
              simp only [go_sem, reduceIte, Nat.reduceEqDiff, Nat.reduceAdd, Nat.reduceLeDiff, Nat.reducePow, Nat.reduceDiv, Nat.reduceMod, decide_true]
              refine use1 hi.1 (hi.2 nof H2 _ _ _ _ (rd_aints _ _ _) (rd_aints _ _ _) dlen) ?_
              simp only [go_sem, reduceIte, Nat.reduceEqDiff, Nat.reduceAdd, Nat.reduceLeDiff, Nat.reducePow, Nat.reduceDiv, Nat.reduceMod, decide_true, e2, Bool.not_true, k8, ew]
              exact nxt _ (by simp [lk_ins, k0]) (by simp [lk_ins, k5]) (by simp [lk_ins, k7]) (by simp [lk_ins])
            · simp only [go_sem, reduceIte, Nat.reduceEqDiff, Nat.reduceAdd, Nat.reduceLeDiff, Nat.reducePow, Nat.reduceDiv, Nat.reduceMod, decide_true, ne, decide_eq_false c10, decide_eq_false ce, Bool.not_true, Bool.not_false, k5, k7]
              refine use1 hs.1 (hs.2 F H2 p _ da2) ?_
              simp only [go_sem, reduceIte, Nat.reduceEqDiff, Nat.reduceAdd, Nat.reduceLeDiff, Nat.reducePow, Nat.reduceDiv, Nat.reduceMod, decide_true]
              refine use1 he.1 (he.2 H2 _ _ sm1 sm2) ?_
              simp only [go_sem, reduceIte, Nat.reduceEqDiff, Nat.reduceAdd, Nat.reduceLeDiff, Nat.reducePow, Nat.reduceDiv, Nat.reduceMod, decide_true, e1, Bool.not_true, k5]
              refine use1 hd.1 (hd.2 F H2 p _ da2) ?_
              simp only [go_sem, reduceIte, Nat.reduceEqDiff, Nat.reduceAdd, Nat.reduceLeDiff, Nat.reducePow, Nat.reduceDiv, Nat.reduceMod, decide_true]
              refine use1 hi.1 (hi.2 nof H2 _ _ _ _ (rd_aints _ _ _) (rd_aints _ _ _) dlen) ?_
              simp only [go_sem, reduceIte, Nat.reduceEqDiff, Nat.reduceAdd, Nat.reduceLeDiff, Nat.reducePow, Nat.reduceDiv, Nat.reduceMod, decide_true, e2, Bool.not_true, k8, ew]
              exact nxt _ (by simp [lk_ins, k0]) (by simp [lk_ins, k5]) (by simp [lk_ins, k7]) (by simp [lk_ins])
        · simp only [go_sem, reduceIte, Nat.reduceEqDiff, Nat.reduceAdd, Nat.reduceLeDiff, Nat.reducePow, Nat.reduceDiv, Nat.reduceMod, decide_true, k0, k5, k7, k8, z1, z2, z3, z6, decide_eq_false q0, decide_eq_true q1, Bool.not_true, Bool.not_false]
          refine use1 hs.1 (hs.2 F H p d da) ?_
          simp only [go_sem, reduceIte, Nat.reduceEqDiff, Nat.reduceAdd, Nat.reduceLeDiff, Nat.reducePow, Nat.reduceDiv, Nat.reduceMod, decide_true, k5]
          refine use1 hd.1 (hd.2 F H p d da) ?_
          simp only [go_sem, reduceIte, Nat.reduceEqDiff, Nat.reduceAdd, Nat.reduceLeDiff, Nat.reducePow, Nat.reduceDiv, Nat.reduceMod, decide_true, k0, k5, k8, z1, z2]
          refine wCall_use ⟨hr.1, hr.2 F H p d l[i] da (hfew _ hm) (hR _ hm) hFH⟩ ?_
          rintro _ H2 ⟨rfl, da2, x2⟩
          have s3n : ¬ (d.op l[i]).1.left < 0 := by omega
          have nxt : ∀ E' : Env, lk 0 E' = aops l → lk 5 E' = .ptr p 6 0 0 → lk 7 E' = .int .i64 (d.op l[i]).1.left → lk 8 E' = .int .i64 ((i : Int) + 1) → ∃ m', m' < l.length - i ∧ I m' E' H2 := fun E' r0 r5 r7 r8 =>
            ⟨_, by omega, (hI _ _ _).2 ⟨i + 1, _, r0, r5, r7, r8, da2, by have := x2.1; omega, s3, s4, ci, rfl⟩⟩
          by_cases ce : (d.op l[i]).2 = 0
          · have t1 := s1 ce
            rw [t1] at s3n nxt
            have ce10 : ¬ (d.op l[i]).2 = 10 := by omega
            simp only [go_sem, reduceIte, Nat.reduceEqDiff, Nat.reduceAdd, Nat.reduceLeDiff, Nat.reducePow, Nat.reduceDiv, Nat.reduceMod, decide_true, decide_eq_true ce, k5, k7, dw, decide_eq_false s3n]
            refine use1 ho.1 (ho.2 F H2 p _ da2) ?_
            rw [← s5]
            simp only [go_sem, reduceIte, Nat.reduceEqDiff, Nat.reduceAdd, Nat.reduceLeDiff, Nat.reducePow, Nat.reduceDiv, Nat.reduceMod, decide_true, ne, decide_eq_false ce10, decide_eq_true ce, Bool.not_true, k8, ew]
            exact nxt _ (by simp [lk_ins, k0]) (by simp [lk_ins, k5]) (by simp [lk_ins]) (by simp [lk_ins])
          · obtain ⟨t1, t2, t3⟩ := s2 ce
            have e1 : decide (d.shown = (d.op l[i]).1.shown) = true := by rw [t2]; simp
            have e2 : decide (d.dirty = (d.op l[i]).1.dirty) = true := by rw [t3]; simp
            have dlen : d.dirty.length ≤ 2^40 := by have := da.ok.clen; simp [Dk.dirty]; omega
            rw [t1] at s3n nxt s4
            simp only [go_sem, reduceIte, Nat.reduceEqDiff, Nat.reduceAdd, Nat.reduceLeDiff, Nat.reducePow, Nat.reduceDiv, Nat.reduceMod, decide_true, decide_eq_false ce, k5, k7, decide_eq_false s3n]
            refine use1 ho.1 (ho.2 F H2 p _ da2) ?_
            rw [← s5] at s4 ⊢
            by_cases c10 : (d.op l[i]).2 = 10
            · have l0 : d.left = 0 := s4 (by simp [c10])
              simp only [go_sem, reduceIte, Nat.reduceEqDiff, Nat.reduceAdd, Nat.reduceLeDiff, Nat.reducePow, Nat.reduceDiv, Nat.reduceMod, decide_true, ne, decide_eq_true c10, decide_eq_true l0, decide_eq_false ce, Bool.not_true, Bool.not_false, k5, k7]
              refine use1 hs.1 (hs.2 F H2 p _ da2) ?_
              simp only [go_sem, reduceIte, Nat.reduceEqDiff, Nat.reduceAdd, Nat.reduceLeDiff, Nat.reducePow, Nat.reduceDiv, Nat.reduceMod, decide_true]
              refine use1 he.1 (he.2 H2 _ _ sm1 sm2) ?_
              simp only [go_sem, reduceIte, Nat.reduceEqDiff, Nat.reduceAdd, Nat.reduceLeDiff, Nat.reducePow, Nat.reduceDiv, Nat.reduceMod, decide_true, e1, Bool.not_true, k5]
              refine use1 hd.1 (hd.2 F H2 p _ da2) ?_
              simp only [go_sem, reduceIte, Nat.reduceEqDiff, Nat.reduceAdd, Nat.reduceLeDiff, Nat.reducePow, Nat.reduceDiv, Nat.reduceMod, decide_true]
              refine use1 hi.1 (hi.2 nof H2 _ _ _ _ (rd_aints _ _ _) (rd_aints _ _ _) dlen) ?_
              simp only [go_sem, reduceIte, Nat.reduceEqDiff, Nat.reduceAdd, Nat.reduceLeDiff, Nat.reducePow, Nat.reduceDiv, Nat.reduceMod, decide_true, e2, Bool.not_true, k8, ew]
              exact nxt _ (by simp [lk_ins, k0]) (by simp [lk_ins, k5]) (by simp [lk_ins, k7]) (by simp [lk_ins])
            · simp only [go_sem, reduceIte, Nat.reduceEqDiff, Nat.reduceAdd, Nat.reduceLeDiff, Nat.reducePow, Nat.reduceDiv, Nat.reduceMod, decide_true, ne, decide_eq_false c10, decide_eq_false ce, Bool.not_true, Bool.not_false, k5, k7]
              refine use1 hs.1 (hs.2 F H2 p _ da2) ?_
              simp only [go_sem, reduceIte, Nat.reduceEqDiff, Nat.reduceAdd, Nat.reduceLeDiff, Nat.reducePow, Nat.reduceDiv, Nat.reduceMod, decide_true]
              refine use1 he.1 (he.2 H2 _ _ sm1 sm2) ?_
              simp only [go_sem, reduceIte, Nat.reduceEqDiff, Nat.reduceAdd, Nat.reduceLeDiff, Nat.reducePow, Nat.reduceDiv, Nat.reduceMod, decide_true, e1, Bool.not_true, k5]
              refine use1 hd.1 (hd.2 F H2 p _ da2) ?_
              simp only [go_sem, reduceIte, Nat.reduceEqDiff, Nat.reduceAdd, Nat.reduceLeDiff, Nat.reducePow, Nat.reduceDiv, Nat.reduceMod, decide_true]
              refine use1 hi.1 (hi.2 nof H2 _ _ _ _ (rd_aints _ _ _) (rd_aints _ _ _) dlen) ?_
              simp only [go_sem, reduceIte, Nat.reduceEqDiff, Nat.reduceAdd, Nat.reduceLeDiff, Nat.reducePow, Nat.reduceDiv, Nat.reduceMod, decide_true, e2, Bool.not_true, k8, ew]
              exact nxt _ (by simp [lk_ins, k0]) (by simp [lk_ins, k5]) (by simp [lk_ins, k7]) (by simp [lk_ins])
      · have q0 : ¬ l[i].kind = 0 := fun x => hk (.inl x)
        have q1 : ¬ l[i].kind = 1 := fun x => hk (.inr x)
        simp only [go_sem, reduceIte, Nat.reduceEqDiff, Nat.reduceAdd, Nat.reduceLeDiff, Nat.reducePow, Nat.reduceDiv, Nat.reduceMod, decide_true, k0, k5, k7, k8, z1, z2, z3, z6, decide_eq_false q0, decide_eq_false q1, ew, Bool.not_false]
        exact ⟨_, by omega, (hI _ _ _).2 ⟨i + 1, d, by simp [lk_ins, k0], by simp [lk_ins, k5], by simp [lk_ins, k7], by simp [lk_ins], da, lq, d0, do_, ci, rfl⟩⟩
    · simp only [go_sem, reduceIte, Nat.reduceEqDiff, Nat.reduceAdd, Nat.reduceLeDiff, Nat.reducePow, Nat.reduceDiv, Nat.reduceMod, decide_true]

end Glb

/-
  Layer 4: the law SectorCrashed.
-/
namespace Glb
open Go
set_option maxRecDepth 10000
set_option maxHeartbeats 16000000

end Glb
