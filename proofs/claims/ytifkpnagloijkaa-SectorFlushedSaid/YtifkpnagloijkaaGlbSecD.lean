/-
  A library of its own: its parts, one behind the other.
-/
import Derived.Test.YtifkpnagloijkaaGlbSecC
set_option linter.unusedSimpArgs false
set_option linter.unusedVariables false
/-
  Layer 4: Row, SameRows, shown and in.
-/
namespace Glb
open Go
set_option maxRecDepth 10000
set_option maxHeartbeats 8000000

def rowB (n : Nat) : List Int := (List.range n).map fun (i : Nat) => IntKind.u8.wrap ((i : Int) * 7 + 1)
theorem rowB_length (n : Nat) : (rowB n).length = n := by simp [rowB]
def RowOk (P : Program) (f : FuncId) : Prop := isFn P f = true ∧ ∀ (h : AHeap) (n : Nat), n ≤ 2^40 → ACalls P f [.int .i64 n] h fun r h' => r = abytes (rowB n) ∧ h' = h

theorem amax0 {n : Int} (hn : 0 ≤ n) : amnmx true [.int .i64 0, .int .i64 n] = some (.int .i64 n) := by
  simp only [amnmx, amnmx.aux]
  by_cases c : n = 0
  · subst c; rfl
  · simp [show (0:Int) < n by omega]

theorem row_ok {P : Program} {f : FuncId} (hf : Is P f c_glebekit_Row) : RowOk P f := by
  refine ⟨hf.2, fun h n hn => ACalls.freeze (K := fun r h' => Own (dBytes (rowB n)) (fun m => h.length ≤ m) h' r ∧ Ext nof h h') (fun_sound hf.1 (Nat.le_of_ble_eq_true rfl) ?_) (fun _ _ hk => ⟨hk.2, _, Frz.d (Own.fz (dBytes _) (fun _ x => x) _ hk.1), rfl⟩)⟩
  show vc P c_glebekit_Row.code ⟨[(0, .int .i64 n)], [], h⟩ (atEnd c_glebekit_Row.res _)
  have hm := amks_int (h := h) (sz := 1) (bytes := 1) (zero := [.int .u8 0]) (k := .i64) (k' := .i64) (l := ((n : Nat) : Int)) (c := ((n : Nat) : Int)) (by omega) (by omega) (by omega)
  simp only [Int.toNat_natCast] at hm
  simp only [c_glebekit_Row, go_sem, reduceIte, Nat.reduceEqDiff, Nat.reduceAdd, Nat.reduceLeDiff, Nat.reducePow, Nat.reduceDiv, Nat.reduceMod, decide_true, rev_mnmx, List.map_cons, List.map_nil, amax0 (Int.natCast_nonneg n), hev_mks, hm]
  obtain ⟨I, hI⟩ : ∃ I : Nat → Env → AHeap → Prop, ∀ m E h', I m E h' ↔ ∃ (i : Nat) (row : List (List AV)), lk 3 E = .ref h.length 1 0 n (some n) ∧ lk 4 E = .int .i64 i ∧ h' = h ++ [some (.arr 1 row false)] ∧ row.length = n ∧
    (∀ j, j < n → ∃ v, row[j]? = some [.int .u8 v]) ∧ (∀ j, j < i → row[j]? = some [.int .u8 (IntKind.u8.wrap ((j : Int) * 7 + 1))]) ∧ i ≤ n ∧ m = n - i := ⟨_, fun _ _ _ => Iff.rfl⟩
  refine vc_loop I n ((hI _ _ _).2 ⟨0, _, by simp [lk_ins, lk_cons], by simp [lk_ins], rfl, by simp, fun j hj => ⟨0, by simp [hj]⟩, fun j hj => by omega, by omega, by omega⟩) ?_
  intro m E h' hh
  obtain ⟨i, row, k3, k4, rfl, hr, hv, hd, hi, rfl⟩ := (hI _ _ _).1 hh
  have la3 : alen (.ref h.length 1 0 n (some n)) = some (.int .i64 n) := rfl
  simp only [c_glebekit_Row_l0, go_sem, reduceIte, Nat.reduceEqDiff, Nat.reduceAdd, Nat.reduceLeDiff, Nat.reducePow, Nat.reduceDiv, Nat.reduceMod, decide_true, k3, k4, la3]
  refine wCond_split (fun ci => ?_) (fun ci => ?_)
  · simp at ci
    have ci' : i < n := by omega
    obtain ⟨v, hvi⟩ := hv i ci'
    have e2 : IntKind.i64.wrap (↑i + 1) = (i : Int) + 1 := wrap_i64 (by omega)
    have e7 : IntKind.i64.wrap ((i : Int) * 7) = (i : Int) * 7 := wrap_i64 (by omega)
    have e8 : IntKind.i64.wrap ((i : Int) * 7 + 1) = (i : Int) * 7 + 1 := wrap_i64 (by omega)
    have hix : aindex 1 (.ref h.length 1 0 n (some n)) (.int .i64 i) = some (.ptr h.length 1 i 0) := by simp only [aindex]; rw [if_pos ⟨trivial, by omega, by omega⟩]; simp
    have st : ∀ (u : Int), astore (h ++ [some (.arr 1 row false)]) 1 (.ptr h.length 1 i 0) (.int .u8 u) = some (h ++ [some (.arr 1 (row.set i [.int .u8 u]) false)]) := fun u => by
      have := astore_elem (x := .int .u8 u) (bx10 h (some (.arr 1 row false))) hvi rfl rfl rfl rfl
      rw [this, sx10]
    simp only [go_sem, reduceIte, Nat.reduceEqDiff, Nat.reduceAdd, Nat.reduceLeDiff, Nat.reducePow, Nat.reduceDiv, Nat.reduceMod, decide_true, k3, k4, hix, e7, e8, e2, st]
    refine ⟨_, by omega, (hI _ _ _).2 ⟨i + 1, _, by simp [lk_ins, k3], by simp [lk_ins], rfl, by simpa using hr, fun j hj => ?_, fun j hj => ?_, by omega, rfl⟩⟩
    · by_cases e : j = i
      · subst e; exact ⟨_, List.getElem?_set_self (by omega)⟩
      · rw [List.getElem?_set_ne (fun x => e x.symm)]; exact hv j hj
    · by_cases e : j = i
      · subst e; exact List.getElem?_set_self (by omega)
      · rw [List.getElem?_set_ne (fun x => e x.symm)]; exact hd j (by omega)
  · simp at ci
    obtain rfl : i = n := by omega
    have hrow : row = (rowB i).map fun n => [.int .u8 n] := by
      apply List.ext_getElem?
      intro j
      rcases Nat.lt_or_ge j i with hj | hj
      · rw [hd j hj]; simp [rowB, hj]
      · rw [List.getElem?_eq_none (by omega), List.getElem?_eq_none (by simp [rowB_length]; omega)]
    subst hrow
    simp only [go_sem, reduceIte, Nat.reduceEqDiff, Nat.reduceAdd, Nat.reduceLeDiff, Nat.reducePow, Nat.reduceDiv, Nat.reduceMod, decide_true, k3]
    refine ⟨?_, Ext.b1 _⟩
    simp only [dBytes, Own, List.length_map, rowB_length]
    exact .inr (.inr ⟨_, 0, _, _, false, rfl, Nat.le_refl _, bx10 _ _, by simp [rowB_length], (fun c hc => by cases hc; omega), by rw [List.drop_zero, List.take_of_length_le (by simp [rowB_length])]; exact ownLL_ints .u8 _ _ _⟩)

def dRows (l : List (List Int)) : D := .sl 1 (l.map fun b => [dBytes b])
def arows (l : List (List Int)) : AV := (dRows l).av
theorem rd_arows (F : Nat → Prop) (h : AHeap) (l : List (List Int)) : Rd F h (dRows l) (arows l) := rd_av _ _ _
theorem len_arows (l : List (List Int)) : alen (arows l) = some (.int .i64 l.length) := by simpa using (rd_arows nof [] l).len
theorem rows_at {l : List (List Int)} {i : Nat} (hi : i < l.length) : ∃ p, aindex 1 (arows l) (.int .i64 i) = some p ∧ ∀ h, aload h false 1 p = some (abytes l[i]) := by
  obtain ⟨p, hp1, hp2⟩ := index_av 1 (fun b => [dBytes b]) l .i64 hi
  exact ⟨p, hp1, fun h => by rw [aload_p (hp2 h)]; rfl⟩

def SameRowsOk (P : Program) (f : FuncId) : Prop := isFn P f = true ∧ ∀ (h : AHeap) (x y : List (List Int)), x.length ≤ 2^40 → (∀ b ∈ x, b.length ≤ 2^40) →
  ACalls P f [arows x, arows y] h fun r h' => r = .bool (decide (x = y)) ∧ h' = h

theorem samerows_ok {P : Program} {f g : FuncId} (hf : Is P f (c_glebekit_SameRows g)) (hg : SameOk P g .u8) : SameRowsOk P f := by
  refine ⟨hf.2, fun h x y hx hxb => fun_sound hf.1 (Nat.le_of_ble_eq_true rfl) ?_⟩
  show vc P (c_glebekit_SameRows g).code ⟨[(0, arows x), (1, arows y)], [], h⟩ (atEnd (c_glebekit_SameRows g).res _)
  by_cases c : x.length = y.length
  · have c' : (x.length : Int) = (y.length : Int) := by omega
    simp only [c_glebekit_SameRows, go_sem, reduceIte, Nat.reduceEqDiff, Nat.reduceAdd, Nat.reduceLeDiff, Nat.reducePow, Nat.reduceDiv, Nat.reduceMod, decide_true, len_arows, decide_eq_true c']
    obtain ⟨I, hI⟩ : ∃ I : Nat → Env → AHeap → Prop, ∀ m E h', I m E h' ↔ ∃ (i : Nat), lk 0 E = arows x ∧ lk 1 E = arows y ∧ lk 5 E = .int .i64 i ∧ h' = h ∧ x.take i = y.take i ∧ i ≤ x.length ∧ m = x.length - i := ⟨_, fun _ _ _ => Iff.rfl⟩
    refine vc_loop I x.length ((hI _ _ _).2 ⟨0, by simp [lk_ins, lk_cons], by simp [lk_ins, lk_cons], by simp [lk_ins], rfl, by simp, by omega, by omega⟩) ?_
    intro m E h2 hh
    obtain ⟨i, k0, k1, k5, rfl, ht, hi, rfl⟩ := (hI _ _ _).1 hh
    simp only [c_glebekit_SameRows_l0, go_sem, reduceIte, Nat.reduceEqDiff, Nat.reduceAdd, Nat.reduceLeDiff, Nat.reducePow, Nat.reduceDiv, Nat.reduceMod, decide_true, k0, k1, k5, len_arows]
    refine wCond_split (fun ci => ?_) (fun ci => ?_)
    · simp at ci
      have ci2 : i < y.length := by omega
      obtain ⟨p, p1, p2⟩ := rows_at ci
      obtain ⟨q, q1, q2⟩ := rows_at ci2
      have ew : IntKind.i64.wrap (↑i + 1) = (i : Int) + 1 := wrap_i64 (by omega)
      simp only [go_sem, reduceIte, Nat.reduceEqDiff, Nat.reduceAdd, Nat.reduceLeDiff, Nat.reducePow, Nat.reduceDiv, Nat.reduceMod, decide_true, k0, k1, k5, p1, p2, q1, q2]
      refine use1 hg.1 (hg.2 nof h2 _ _ _ _ (rd_abytes _ _ x[i]) (rd_abytes _ _ y[i]) (hxb _ (List.getElem_mem ci))) ?_
      by_cases e : x[i] = y[i]
      · simp only [go_sem, reduceIte, Nat.reduceEqDiff, Nat.reduceAdd, Nat.reduceLeDiff, Nat.reducePow, Nat.reduceDiv, Nat.reduceMod, decide_true, decide_eq_true e, k0, k1, k5, p1, p2, q1, q2, ew]
        refine ⟨_, by omega, (hI _ _ _).2 ⟨i + 1, by simp [lk_ins, k0], by simp [lk_ins, k1], by simp [lk_ins], rfl, ?_, ci, rfl⟩⟩
        rw [List.take_succ_eq_append_getElem ci, List.take_succ_eq_append_getElem ci2, ht, e]
      · have ne : ¬ x = y := by rintro rfl; exact e rfl
        simp only [go_sem, reduceIte, Nat.reduceEqDiff, Nat.reduceAdd, Nat.reduceLeDiff, Nat.reducePow, Nat.reduceDiv, Nat.reduceMod, decide_true, decide_eq_false e, decide_eq_false ne, p1, p2, q1, q2]
    · simp at ci
      obtain rfl : i = x.length := by omega
      have e : x = y := by rw [List.take_length, c, List.take_length] at ht; exact ht
      simp only [go_sem, reduceIte, Nat.reduceEqDiff, Nat.reduceAdd, Nat.reduceLeDiff, Nat.reducePow, Nat.reduceDiv, Nat.reduceMod, decide_true, decide_eq_true e]
  · have c' : ¬ (x.length : Int) = (y.length : Int) := by omega
    have ne : ¬ x = y := by rintro rfl; exact c rfl
    simp only [c_glebekit_SameRows, go_sem, reduceIte, Nat.reduceEqDiff, Nat.reduceAdd, Nat.reduceLeDiff, Nat.reducePow, Nat.reduceDiv, Nat.reduceMod, decide_true, len_arows, decide_eq_false c', decide_eq_false ne, Bool.not_false]

end Glb

/-
  Layer 4: shown, in, and the laws of reading, in plain lists.
-/
namespace Glb
open Go
set_option maxRecDepth 10000
set_option maxHeartbeats 8000000

def Dk.cell (d : Dk) (i : Int) : List Int := if (d.read i).2 = 0 then (d.read i).1 else rowB 65
def Dk.shown (d : Dk) : List (List Int) := (List.range (min d.n.toNat 64)).map fun (i : Nat) => d.cell (i : Int)

def ShownOk (P : Program) (f : FuncId) : Prop := isFn P f = true ∧ ∀ (F : Nat → Prop) (h : AHeap) (p : Nat) (d : Dk), DiskAt F h p d → ACalls P f [.ptr p 6 0 0] h fun r h' => r = arows d.shown ∧ h' = h
theorem shown_ok {P : Program} {f g1 g2 g3 : FuncId} (hf : Is P f (c_glebelaw04_shown g1 g2 g3)) (h1 : DLenOk P g1) (h2 : ReadDP P g2) (h3 : RowOk P g3) : ShownOk P f := by
  refine ⟨hf.2, fun F h p d da => ACalls.freeze (K := fun r h' => OwnO h.length h' 1 r (D.avLL (d.shown.map fun b => [dBytes b])) ∧ Ext nof h h') (fun_sound hf.1 (Nat.le_of_ble_eq_true rfl) ?_) (fun _ _ hk => ⟨hk.2, _, Frz.d (OwnO.fz hk.1 (Nat.le_refl _)), rfl⟩)⟩
  show vc P (c_glebelaw04_shown g1 g2 g3).code ⟨[(0, .ptr p 6 0 0)], [], h⟩ (atEnd (c_glebelaw04_shown g1 g2 g3).res _)
  have dn := da.ok.n
  have sl : d.shown.length = min d.n.toNat 64 := by simp [Dk.shown]
  simp only [c_glebelaw04_shown, go_sem, reduceIte, Nat.reduceEqDiff, Nat.reduceAdd, Nat.reduceLeDiff, Nat.reducePow, Nat.reduceDiv, Nat.reduceMod, decide_true]
  obtain ⟨I, hI⟩ : ∃ I : Nat → Env → AHeap → Prop, ∀ m E h', I m E h' ↔ ∃ (i : Nat) (o : AV), lk 0 E = .ptr p 6 0 0 ∧ lk 3 E = o ∧ lk 4 E = .int .i64 i ∧ OwnO h.length h' 1 o (D.avLL ((d.shown.take i).map fun b => [dBytes b])) ∧ Ext nof h h' ∧ i ≤ d.shown.length ∧ m = d.shown.length - i := ⟨_, fun _ _ _ => Iff.rfl⟩
  refine vc_loop I d.shown.length ((hI _ _ _).2 ⟨0, .nils, by simp [lk_ins, lk_cons], by simp [lk_ins, lk_cons], by simp [lk_ins], .inl ⟨rfl, by simp [D.avLL]⟩, Ext.refl _ _, by omega, by omega⟩) ?_
  intro m E h2' hh
  obtain ⟨i, o, k0, k3, k4, hO, hE, hi, rfl⟩ := (hI _ _ _).1 hh
  have da2 := da.up hE
  simp only [c_glebelaw04_shown_l0, go_sem, reduceIte, Nat.reduceEqDiff, Nat.reduceAdd, Nat.reduceLeDiff, Nat.reducePow, Nat.reduceDiv, Nat.reduceMod, decide_true, k0, k3, k4]
  refine use1 h1.1 (h1.2 F h2' p d da2) ?_
  by_cases ci : i < d.shown.length
  · have c1 : (i : Int) < d.n := by omega
    have c2 : (i : Int) < 64 := by omega
    have ew : IntKind.i64.wrap (↑i + 1) = (i : Int) + 1 := wrap_i64 (by omega)
    have ec : d.shown[i] = d.cell i := by simp [Dk.shown]
    have tk : D.avLL ((d.shown.take (i + 1)).map fun b => [dBytes b]) = D.avLL ((d.shown.take i).map fun b => [dBytes b]) ++ [[abytes (d.cell i)]] := by
      rw [List.take_succ_eq_append_getElem ci, ec, avLL_map, avLL_map]; simp only [List.map_append, List.map_cons, List.map_nil]; rfl
    have sc : (abytes (d.cell i)).scalar = true := scalar_abytes _
    obtain ⟨o2, h3', s1, s2, s3⟩ := acc_app (bytes := 24) (h := h2' ++ [some (.arr 1 [[abytes (d.cell i)]] false)]) (ys := [[abytes (d.cell i)]]) hO (Ext.b1 _) hE.1 (by simp [avLL_length]; omega)
    have s1' := s1
    rw [← aappend_of (aelems_new h2' 1 [[abytes (d.cell i)]] false (some 1) (len := 1) rfl)] at s1'
    have fin : ∃ m', m' < d.shown.length - i ∧ ∀ E, lk 0 E = .ptr p 6 0 0 → lk 3 E = o2 → lk 4 E = .int .i64 ((i : Int) + 1) → I m' E h3' :=
      ⟨_, by omega, fun E q0 q3 q4 => (hI _ _ _).2 ⟨i + 1, o2, q0, q3, q4, by rw [tk]; exact s2, (hE.tr (Ext.b1 _)).then s3 (fun m hm hm' => by omega), ci, rfl⟩⟩
    obtain ⟨m', f1, f2⟩ := fin
    simp only [go_sem, reduceIte, Nat.reduceEqDiff, Nat.reduceAdd, Nat.reduceLeDiff, Nat.reducePow, Nat.reduceDiv, Nat.reduceMod, decide_true, k0, k3, k4, decide_eq_true c1, decide_eq_true c2]
    refine use1 h2.1 (h2.2 F h2' p d i da2) ?_
    by_cases c3 : (d.read i).2 = 0
    · have e0 : d.cell i = (d.read i).1 := if_pos c3
      rw [e0] at s1'
      simp only [go_sem, reduceIte, Nat.reduceEqDiff, Nat.reduceAdd, Nat.reduceLeDiff, Nat.reducePow, Nat.reduceDiv, Nat.reduceMod, decide_true, k0, k3, k4, decide_eq_true c3, s1', ew]
      exact ⟨m', f1, f2 _ (by simp [lk_ins, k0]) (by simp [lk_ins]) (by simp [lk_ins])⟩
    · have e0 : d.cell i = rowB 65 := if_neg c3
      rw [e0] at s1'
      simp only [go_sem, reduceIte, Nat.reduceEqDiff, Nat.reduceAdd, Nat.reduceLeDiff, Nat.reducePow, Nat.reduceDiv, Nat.reduceMod, decide_true, k0, k3, k4, decide_eq_false c3, Bool.not_false]
      refine use1 h3.1 (h3.2 h2' 65 (by omega)) ?_
      simp only [go_sem, reduceIte, Nat.reduceEqDiff, Nat.reduceAdd, Nat.reduceLeDiff, Nat.reducePow, Nat.reduceDiv, Nat.reduceMod, decide_true, k0, k3, k4, s1', ew]
      exact ⟨m', f1, f2 _ (by simp [lk_ins, k0]) (by simp [lk_ins]) (by simp [lk_ins])⟩
  · obtain rfl : i = d.shown.length := by omega
    rw [List.take_length] at hO
    by_cases c1 : (d.shown.length : Int) < d.n
    · have c2 : ¬ (d.shown.length : Int) < 64 := by omega
      simp only [go_sem, reduceIte, Nat.reduceEqDiff, Nat.reduceAdd, Nat.reduceLeDiff, Nat.reducePow, Nat.reduceDiv, Nat.reduceMod, decide_true, k0, k3, k4, decide_eq_true c1, decide_eq_false c2]
      exact ⟨hO, hE⟩
    · simp only [go_sem, reduceIte, Nat.reduceEqDiff, Nat.reduceAdd, Nat.reduceLeDiff, Nat.reducePow, Nat.reduceDiv, Nat.reduceMod, decide_true, k0, k3, k4, decide_eq_false c1]
      exact ⟨hO, hE⟩

/-! the plain laws -/

theorem sfind_fold {c l : List Sec} (hc : rises c) (hl : rises l) (k : Int) : sfind (c.foldl sput l) k = match sfind c k with | some s => some s | none => sfind l k := by
  induction c generalizing l with
  | nil => rfl
  | cons y r ih =>
    unfold rises at hc ih
    rw [List.pairwise_cons] at hc
    rw [List.foldl_cons, ih hc.2 (rises_sput hl y)]
    simp only [sfind]
    by_cases e : y.no = k
    · rw [if_pos e]
      have hn : sfind r k = none := sfind_none.2 fun s hs => by have := hc.1 s hs; omega
      rw [hn, sfind_sput hl]
      simp only
      rw [if_pos e.symm]
    · rw [if_neg e]
      cases sfind r k with
      | some s => rfl
      | none => simp only; rw [sfind_sput hl, if_neg (fun x => e x.symm)]

theorem Dk.read_eq {d e : Dk} (hn : e.n = d.n) (h1 : ∀ i, sfind e.cache i = sfind d.cache i) (h2 : ∀ i, sfind e.lasts i = sfind d.lasts i) (i : Int) : e.read i = d.read i := by
  unfold Dk.read; rw [hn, h1, h2]
theorem Dk.shown_eq {d e : Dk} (hn : e.n = d.n) (h : ∀ i, e.read i = d.read i) : e.shown = d.shown := by
  unfold Dk.shown; rw [hn]; congr 1; funext i; unfold Dk.cell; rw [h]
theorem Dk.flush_read {d : Dk} (h : d.ok) (i : Int) : d.flush.1.read i = d.read i := by
  have key : ∀ e : Dk, e.n = d.n → e.cache = [] → e.lasts = d.cache.foldl sput d.lasts → e.read i = d.read i := by
    intro e e1 e2 e3
    unfold Dk.read
    rw [e1, e2, e3]
    split
    · rfl
    · simp only [sfind]
      rw [sfind_fold h.cache.1 h.lasts.1]
      cases e4 : sfind d.cache i with
      | none => rfl
      | some s => simp only [readL]; rw [(h.cache.2 s (sfind_some e4).1).2.2.2]; rfl
  unfold Dk.flush
  split
  · rfl
  · split
    · exact key _ (Dk.spend_n d) rfl rfl
    · exact Dk.read_eq (Dk.spend_n d) (fun i => by rw [Dk.spend_cache]) (fun i => by rw [Dk.spend_lasts]) i
theorem Dk.flush_n (d : Dk) : d.flush.1.n = d.n := by unfold Dk.flush; split; rfl; split; exact Dk.spend_n d; exact Dk.spend_n d
theorem Dk.flush_shown {d : Dk} (h : d.ok) : d.flush.1.shown = d.shown := Dk.shown_eq (Dk.flush_n d) (Dk.flush_read h)
theorem Dk.spend_down {d : Dk} (h : d.spend.1 = false) : d.spend.2.off = true := by
  unfold Dk.spend at h ⊢
  split
  · rfl
  · rename_i c; rw [if_neg c] at h; split at h <;> simp at h
theorem Dk.flush_no {d : Dk} (h : d.flush.2 ≠ 0) : d.flush.1.off = true := by
  unfold Dk.flush at h ⊢
  split
  · rename_i c; exact c
  · rename_i c
    rw [if_neg c] at h
    cases e : d.spend.1 with
    | true => rw [e, if_pos rfl] at h; simp at h
    | false => rw [if_neg (by simp)]; exact Dk.spend_down e
theorem Dk.flush_yes {d : Dk} (h : d.flush.2 = 0) : d.flush.1.cache = [] := by
  unfold Dk.flush at h ⊢
  split
  · rename_i c; rw [if_pos c] at h; simp at h
  · rename_i c
    rw [if_neg c] at h
    split
    · rfl
    · rename_i e; rw [if_neg e] at h; simp at h
theorem Dk.crash_clean {d : Dk} (h : d.cache = []) (how : List Int) : (d.crash how).shown = d.shown := by
  refine Dk.shown_eq rfl fun i => Dk.read_eq (d := d) (e := d.crash how) rfl (fun i => ?_) (fun i => ?_) i
  · rw [h]; rfl
  · show sfind (crashed d.cache how d.lasts) i = _
    rw [h]; rfl

end Glb

/-
  Layer 4: the laws SectorFlushed and SectorFails.
-/
namespace Glb
open Go
set_option maxRecDepth 10000
set_option maxHeartbeats 8000000

theorem flushed_ok {P : Program} {f fw fl fp fn fr fs ff fo fe fd fc : FuncId} (hf : Is P f (c_glebelaw04_SectorFlushed fw fl fp fn fr fs ff fo fe fd fc)) (hw : YesOk P fw) (hl : Long4Ok P fl) (hp : PickOk P fp) (hn : NewDOk P fn) (hr : Run4Ok P fr) (hs : ShownOk P fs) (hff : FlushDOk P ff)
    (ho : DownOk P fo) (he : SameRowsOk P fe) (hd : DirtyP P fd) (hc : CrashDOk P fc) (n : Int) (l : List Op4) (how : List Int) (hR : ∀ o ∈ l, o.R) (h : AHeap) :
    ACalls P f [.int .i64 n, aops l, aints how] h fun r _ => r = .bool true := by
  refine fun_sound hf.1 (Nat.le_of_ble_eq_true rfl) ?_
  show vc P (c_glebelaw04_SectorFlushed fw fl fp fn fr fs ff fo fe fd fc).code ⟨[(0, .int .i64 n), (1, aops l), (2, aints how)], [], h⟩ (atEnd (c_glebelaw04_SectorFlushed fw fl fp fn fr fs ff fo fe fd fc).res _)
  simp only [c_glebelaw04_SectorFlushed, go_sem, reduceIte, Nat.reduceEqDiff, Nat.reduceAdd, Nat.reduceLeDiff, Nat.reducePow, Nat.reduceDiv, Nat.reduceMod, decide_true]
  refine use1 hw.1 (hw.2 h) ?_
  simp only [go_sem, reduceIte, Nat.reduceEqDiff, Nat.reduceAdd, Nat.reduceLeDiff, Nat.reducePow, Nat.reduceDiv, Nat.reduceMod, decide_true]
  refine wCall_use ⟨hl.1, hl.2 h l⟩ ?_
  rintro _ h ⟨⟨b, rfl, hfew⟩, rfl⟩
  cases b with
  | true => simp only [go_sem, reduceIte, Nat.reduceEqDiff, Nat.reduceAdd, Nat.reduceLeDiff, Nat.reducePow, Nat.reduceDiv, Nat.reduceMod, decide_true]
  | false =>
    obtain ⟨h200, hfew⟩ := hfew rfl
    simp only [go_sem, reduceIte, Nat.reduceEqDiff, Nat.reduceAdd, Nat.reduceLeDiff, Nat.reducePow, Nat.reduceDiv, Nat.reduceMod, decide_true]
    refine use1 hp.1 (hp.2 n 64 (by omega) h) ?_
    have pr := pick_lt (k := n) (n := 64) (by omega)
    generalize pick n 64 = k at *
    have ek : IntKind.i64.wrap (1 + k) = 1 + k := wrap_i64 (by omega)
    simp only [go_sem, reduceIte, Nat.reduceEqDiff, Nat.reduceAdd, Nat.reduceLeDiff, Nat.reducePow, Nat.reduceDiv, Nat.reduceMod, decide_true, ek]
    refine wCall_use ⟨hn.1, hn.2 h (1 + k)⟩ ?_
    rintro r h1 ⟨a1, -, x1⟩
    obtain ⟨p, rfl, da⟩ := a1 (by omega)
    obtain ⟨F, da, hF⟩ : ∃ F : Nat → Prop, DiskAt F h1 p (Dk.new (1 + k)) ∧ (∀ m, F m → m < h1.length) := ⟨_, da, fun m x => x.2⟩
    have en : (Dk.new (1 + k)).n = 1 + k := rfl
    simp only [go_sem, reduceIte, Nat.reduceEqDiff, Nat.reduceAdd, Nat.reduceLeDiff, Nat.reducePow, Nat.reduceDiv, Nat.reduceMod, decide_true]
    obtain ⟨I, hI⟩ : ∃ I : Nat → Env → AHeap → Prop, ∀ m E h', I m E h' ↔ ∃ (i : Nat) (d : Dk), lk 1 E = aops l ∧ lk 2 E = aints how ∧ lk 7 E = .ptr p 6 0 0 ∧ lk 9 E = .int .i64 i ∧ DiskAt F h' p d ∧ h1.length ≤ h'.length ∧ i ≤ l.length ∧ m = l.length - i := ⟨_, fun _ _ _ => Iff.rfl⟩
    refine vc_loop I l.length ((hI _ _ _).2 ⟨0, _, by simp [lk_ins, lk_cons], by simp [lk_ins, lk_cons], by simp [lk_ins, lk_cons], by simp [lk_ins], da, by omega, by omega, by omega⟩) ?_
    clear da
    intro m E H hh'
    obtain ⟨i, d, k1, k2, k7, k9, da, lq, hi, rfl⟩ := (hI _ _ _).1 hh'
    have hFH : ∀ m, F m → m < H.length := fun m hm => by have := hF m hm; omega
    simp only [c_glebelaw04_SectorFlushed_l0, go_sem, reduceIte, Nat.reduceEqDiff, Nat.reduceAdd, Nat.reduceLeDiff, Nat.reducePow, Nat.reduceDiv, Nat.reduceMod, decide_true, k1, k2, k7, k9, len_aops]
    refine wCond_split (fun ci => ?_) (fun ci => ?_)
    · simp at ci
      obtain ⟨pp, z1, z2, z3, z4, z5, -⟩ := ops_at ci
      have ew : IntKind.i64.wrap (↑i + 1) = (i : Int) + 1 := wrap_i64 (by omega)
      have hm := List.getElem_mem ci
      simp only [go_sem, reduceIte, Nat.reduceEqDiff, Nat.reduceAdd, Nat.reduceLeDiff, Nat.reducePow, Nat.reduceDiv, Nat.reduceMod, decide_true, k1, k2, k7, k9, z1, z2]
      refine wCall_use ⟨hr.1, hr.2 F H p d l[i] da (hfew _ hm) (hR _ hm) hFH⟩ ?_
      rintro _ H2 ⟨rfl, da2, x2⟩
      simp only [go_sem, reduceIte, Nat.reduceEqDiff, Nat.reduceAdd, Nat.reduceLeDiff, Nat.reducePow, Nat.reduceDiv, Nat.reduceMod, decide_true, k1, k2, k7, k9, ew]
      exact ⟨_, by omega, (hI _ _ _).2 ⟨i + 1, _, by simp [lk_ins, k1], by simp [lk_ins, k2], by simp [lk_ins, k7], by simp [lk_ins], da2, by have := x2.1; omega, ci, rfl⟩⟩
    · have sml : d.shown.length ≤ 2^40 := by simp [Dk.shown]; omega
      have smb : ∀ b ∈ d.shown, b.length ≤ 2^40 := by
        intro b hb
        simp only [Dk.shown, List.mem_map] at hb
        obtain ⟨i, -, rfl⟩ := hb
        unfold Dk.cell
        split
        · have := Dk.read_len da.ok i; omega
        · rw [rowB_length]; omega
      simp only [go_sem, reduceIte, Nat.reduceEqDiff, Nat.reduceAdd, Nat.reduceLeDiff, Nat.reducePow, Nat.reduceDiv, Nat.reduceMod, decide_true, k2, k7]
      refine use1 hs.1 (hs.2 F H p d da) ?_
      simp only [go_sem, reduceIte, Nat.reduceEqDiff, Nat.reduceAdd, Nat.reduceLeDiff, Nat.reducePow, Nat.reduceDiv, Nat.reduceMod, decide_true, k7]
      refine wCall_use ⟨hff.1, hff.2 F H p d da⟩ ?_
      rintro _ H2 ⟨rfl, da2, x2⟩
      have es : decide (d.shown = d.flush.1.shown) = true := by rw [Dk.flush_shown da.ok]; simp
      by_cases c : d.flush.2 = 0
      · have ed := Dk.flush_yes c
        have edd : d.flush.1.dirty = [] := by unfold Dk.dirty; rw [ed]; rfl
        simp only [go_sem, reduceIte, Nat.reduceEqDiff, Nat.reduceAdd, Nat.reduceLeDiff, Nat.reducePow, Nat.reduceDiv, Nat.reduceMod, decide_true, decide_eq_true c, k2, k7]
        refine use1 hd.1 (hd.2 F H2 p _ da2) ?_
        rw [edd]
        simp only [go_sem, reduceIte, Nat.reduceEqDiff, Nat.reduceAdd, Nat.reduceLeDiff, Nat.reducePow, Nat.reduceDiv, Nat.reduceMod, decide_true, List.length_nil, show (!decide (((0 : Nat) : Int) = 0)) = false from rfl, k7]
        refine use1 hs.1 (hs.2 F H2 p _ da2) ?_
        simp only [go_sem, reduceIte, Nat.reduceEqDiff, Nat.reduceAdd, Nat.reduceLeDiff, Nat.reducePow, Nat.reduceDiv, Nat.reduceMod, decide_true]
        refine use1 he.1 (he.2 H2 _ _ sml smb) ?_
        simp only [go_sem, reduceIte, Nat.reduceEqDiff, Nat.reduceAdd, Nat.reduceLeDiff, Nat.reducePow, Nat.reduceDiv, Nat.reduceMod, decide_true, es, k2, k7]
        refine wCall_use ⟨hc.1, hc.2 F nof H2 p _ how _ da2 (rd_aints _ _ _) (fun _ x => x.elim)⟩ ?_
        rintro _ H3 ⟨da3, x3⟩
        have es3 : decide (d.shown = (d.flush.1.crash how).shown) = true := by rw [Dk.crash_clean ed, Dk.flush_shown da.ok]; simp
        simp only [go_sem, reduceIte, Nat.reduceEqDiff, Nat.reduceAdd, Nat.reduceLeDiff, Nat.reducePow, Nat.reduceDiv, Nat.reduceMod, decide_true, k7]
        refine use1 hs.1 (hs.2 F H3 p _ da3) ?_
        simp only [go_sem, reduceIte, Nat.reduceEqDiff, Nat.reduceAdd, Nat.reduceLeDiff, Nat.reducePow, Nat.reduceDiv, Nat.reduceMod, decide_true]
        refine use1 he.1 (he.2 H3 _ _ sml smb) ?_
        simp only [go_sem, reduceIte, Nat.reduceEqDiff, Nat.reduceAdd, Nat.reduceLeDiff, Nat.reducePow, Nat.reduceDiv, Nat.reduceMod, decide_true, es3, k7]
        refine use1 ho.1 (ho.2 F H3 p _ da3) ?_
        rw [show (d.flush.1.crash how).off = false from rfl]
        simp only [go_sem, reduceIte, Nat.reduceEqDiff, Nat.reduceAdd, Nat.reduceLeDiff, Nat.reducePow, Nat.reduceDiv, Nat.reduceMod, decide_true, Bool.not_false]
      · have eo := Dk.flush_no c
        simp only [go_sem, reduceIte, Nat.reduceEqDiff, Nat.reduceAdd, Nat.reduceLeDiff, Nat.reducePow, Nat.reduceDiv, Nat.reduceMod, decide_true, decide_eq_false c, Bool.not_false, k7]
        refine use1 ho.1 (ho.2 F H2 p _ da2) ?_
        rw [eo]
        simp only [go_sem, reduceIte, Nat.reduceEqDiff, Nat.reduceAdd, Nat.reduceLeDiff, Nat.reducePow, Nat.reduceDiv, Nat.reduceMod, decide_true, k7]
        refine use1 hs.1 (hs.2 F H2 p _ da2) ?_
        simp only [go_sem, reduceIte, Nat.reduceEqDiff, Nat.reduceAdd, Nat.reduceLeDiff, Nat.reducePow, Nat.reduceDiv, Nat.reduceMod, decide_true]
        refine use1 he.1 (he.2 H2 _ _ sml smb) ?_
        simp only [go_sem, reduceIte, Nat.reduceEqDiff, Nat.reduceAdd, Nat.reduceLeDiff, Nat.reducePow, Nat.reduceDiv, Nat.reduceMod, decide_true, es]

end Glb

/-
  Layer 4: the law SectorFails.
-/
namespace Glb
open Go
set_option maxRecDepth 10000
set_option maxHeartbeats 8000000

end Glb

/-
  Layer 4: the law SectorCrashed.
-/
namespace Glb
open Go
set_option maxRecDepth 10000
set_option maxHeartbeats 16000000

end Glb
