/-
  A library of its own: its parts, one behind the other.
-/
import Derived.Test.YthbhbgnngmfpiaaGlbSecC
set_option linter.unusedSimpArgs false
set_option linter.unusedVariables false
/-
  Layer 4: Row, SameRows, shown and in.
-/
namespace Glb
open Go
set_option maxRecDepth 10000
set_option maxHeartbeats 8000000

def rowB (n : Nat) : List Int := (List.range n).map fun (i : Nat) => IntKind.u8.wrap ((i : Int) * 7 + 1)
theorem rowB_length (n : Nat) : (rowB n).length = n := by simp [rowB]
def RowOk (P : Program) (f : FuncId) : Prop := isFn P f = true ∧ ∀ (h : AHeap) (n : Nat), n ≤ 2^40 → ACalls P f [.int .i64 n] h fun r h' => r = abytes (rowB n) ∧ h' = h

theorem amax0 {n : Int} (hn : 0 ≤ n) : amnmx true [.int .i64 0, .int .i64 n] = some (.int .i64 n) := by
  simp only [amnmx, amnmx.aux]
  by_cases c : n = 0
  · subst c; rfl
  · simp [show (0:Int) < n by omega]

theorem row_ok {P : Program} {f : FuncId} (hf : Is P f c_glebekit_Row) : RowOk P f := by
  refine ⟨hf.2, fun h n hn => ACalls.freeze (K := fun r h' => Own (dBytes (rowB n)) (fun m => h.length ≤ m) h' r ∧ Ext nof h h') (fun_sound hf.1 (Nat.le_of_ble_eq_true rfl) ?_) (fun _ _ hk => ⟨hk.2, _, Frz.d (Own.fz (dBytes _) (fun _ x => x) _ hk.1), rfl⟩)⟩
  show vc P c_glebekit_Row.code ⟨[(0, .int .i64 n)], [], h⟩ (atEnd c_glebekit_Row.res _)
  have hm := amks_int (h := h) (sz := 1) (bytes := 1) (zero := [.int .u8 0]) (k := .i64) (k' := .i64) (l := ((n : Nat) : Int)) (c := ((n : Nat) : Int)) (by omega) (by omega) (by omega)
  simp only [Int.toNat_natCast] at hm
  simp only [c_glebekit_Row, go_sem, reduceIte, Nat.reduceEqDiff, Nat.reduceAdd, Nat.reduceLeDiff, Nat.reducePow, Nat.reduceDiv, Nat.reduceMod, decide_true, rev_mnmx, List.map_cons, List.map_nil, amax0 (Int.natCast_nonneg n), hev_mks, hm]
  obtain ⟨I, hI⟩ : ∃ I : Nat → Env → AHeap → Prop, ∀ m E h', I m E h' ↔ ∃ (i : Nat) (row : List (List AV)), lk 3 E = .ref h.length 1 0 n (some n) ∧ lk 4 E = .int .i64 i ∧ h' = h ++ [some (.arr 1 row false)] ∧ row.length = n ∧
    (∀ j, j < n → ∃ v, row[j]? = some [.int .u8 v]) ∧ (∀ j, j < i → row[j]? = some [.int .u8 (IntKind.u8.wrap ((j : Int) * 7 + 1))]) ∧ i ≤ n ∧ m = n - i := ⟨_, fun _ _ _ => Iff.rfl⟩
  refine vc_loop I n ((hI _ _ _).2 ⟨0, _, by simp [lk_ins, lk_cons], by simp [lk_ins], rfl, by simp, fun j hj => ⟨0, by simp [hj]⟩, fun j hj => by omega, by omega, by omega⟩) ?_
  intro m E h' hh
  obtain ⟨i, row, k3, k4, rfl, hr, hv, hd, hi, rfl⟩ := (hI _ _ _).1 hh
  have la3 : alen (.ref h.length 1 0 n (some n)) = some (.int .i64 n) := rfl
  simp only [c_glebekit_Row_l0, go_sem, reduceIte, Nat.reduceEqDiff, Nat.reduceAdd, Nat.reduceLeDiff, Nat.reducePow, Nat.reduceDiv, Nat.reduceMod, decide_true, k3, k4, la3]
  refine wCond_split (fun ci => ?_) (fun ci => ?_)
  · simp at ci
    have ci' : i < n := by omega
    obtain ⟨v, hvi⟩ := hv i ci'
    have e2 : IntKind.i64.wrap (↑i + 1) = (i : Int) + 1 := wrap_i64 (by omega)
    have e7 : IntKind.i64.wrap ((i : Int) * 7) = (i : Int) * 7 := wrap_i64 (by omega)
    have e8 : IntKind.i64.wrap ((i : Int) * 7 + 1) = (i : Int) * 7 + 1 := wrap_i64 (by omega)
    have hix : aindex 1 (.ref h.length 1 0 n (some n)) (.int .i64 i) = some (.ptr h.length 1 i 0) := by simp only [aindex]; rw [if_pos ⟨trivial, by omega, by omega⟩]; simp
    have st : ∀ (u : Int), astore (h ++ [some (.arr 1 row false)]) 1 (.ptr h.length 1 i 0) (.int .u8 u) = some (h ++ [some (.arr 1 (row.set i [.int .u8 u]) false)]) := fun u => by
      have := astore_elem (x := .int .u8 u) (bx10 h (some (.arr 1 row false))) hvi rfl rfl rfl rfl
      rw [this, sx10]
    simp only [go_sem, reduceIte, Nat.reduceEqDiff, Nat.reduceAdd, Nat.reduceLeDiff, Nat.reducePow, Nat.reduceDiv, Nat.reduceMod, decide_true, k3, k4, hix, e7, e8, e2, st]
    refine ⟨_, by omega, (hI _ _ _).2 ⟨i + 1, _, by simp [lk_ins, k3], by simp [lk_ins], rfl, by simpa using hr, fun j hj => ?_, fun j hj => ?_, by omega, rfl⟩⟩
    · by_cases e : j = i
      · subst e; exact ⟨_, List.getElem?_set_self (by omega)⟩
      · rw [List.getElem?_set_ne (fun x => e x.symm)]; exact hv j hj
    · by_cases e : j = i
      · subst e; exact List.getElem?_set_self (by omega)
      · rw [List.getElem?_set_ne (fun x => e x.symm)]; exact hd j (by omega)
  · simp at ci
    obtain rfl : i = n := by omega
    have hrow : row = (rowB i).map fun n => [.int .u8 n] := by
      apply List.ext_getElem?
      intro j
      rcases Nat.lt_or_ge j i with hj | hj
      · rw [hd j hj]; simp [rowB, hj]
      · rw [List.getElem?_eq_none (by omega), List.getElem?_eq_none (by simp [rowB_length]; omega)]
    subst hrow
    simp only [go_sem, reduceIte, Nat.reduceEqDiff, Nat.reduceAdd, Nat.reduceLeDiff, Nat.reducePow, Nat.reduceDiv, Nat.reduceMod, decide_true, k3]
    refine ⟨?_, Ext.b1 _⟩
    simp only [dBytes, Own, List.length_map, rowB_length]
    exact .inr (.inr ⟨_, 0, _, _, false, rfl, Nat.le_refl _, bx10 _ _, by simp [rowB_length], (fun c hc => by cases hc; omega), by rw [List.drop_zero, List.take_of_length_le (by simp [rowB_length])]; exact ownLL_ints .u8 _ _ _⟩)

def dRows (l : List (List Int)) : D := .sl 1 (l.map fun b => [dBytes b])
def arows (l : List (List Int)) : AV := (dRows l).av
theorem rd_arows (F : Nat → Prop) (h : AHeap) (l : List (List Int)) : Rd F h (dRows l) (arows l) := rd_av _ _ _
theorem len_arows (l : List (List Int)) : alen (arows l) = some (.int .i64 l.length) := by simpa using (rd_arows nof [] l).len
theorem rows_at {l : List (List Int)} {i : Nat} (hi : i < l.length) : ∃ p, aindex 1 (arows l) (.int .i64 i) = some p ∧ ∀ h, aload h false 1 p = some (abytes l[i]) := by
  obtain ⟨p, hp1, hp2⟩ := index_av 1 (fun b => [dBytes b]) l .i64 hi
  exact ⟨p, hp1, fun h => by rw [aload_p (hp2 h)]; rfl⟩

end Glb

/-
  Layer 4: shown, in, and the laws of reading, in plain lists.
-/
namespace Glb
open Go
set_option maxRecDepth 10000
set_option maxHeartbeats 8000000

/-! the plain laws -/

theorem sfind_fold {c l : List Sec} (hc : rises c) (hl : rises l) (k : Int) : sfind (c.foldl sput l) k = match sfind c k with | some s => some s | none => sfind l k := by
  induction c generalizing l with
  | nil => rfl
  | cons y r ih =>
    unfold rises at hc ih
    rw [List.pairwise_cons] at hc
    rw [List.foldl_cons, ih hc.2 (rises_sput hl y)]
    simp only [sfind]
    by_cases e : y.no = k
    · rw [if_pos e]
      have hn : sfind r k = none := sfind_none.2 fun s hs => by have := hc.1 s hs; omega
      rw [hn, sfind_sput hl]
      simp only
      rw [if_pos e.symm]
    · rw [if_neg e]
      cases sfind r k with
      | some s => rfl
      | none => simp only; rw [sfind_sput hl, if_neg (fun x => e x.symm)]

theorem Dk.read_eq {d e : Dk} (hn : e.n = d.n) (h1 : ∀ i, sfind e.cache i = sfind d.cache i) (h2 : ∀ i, sfind e.lasts i = sfind d.lasts i) (i : Int) : e.read i = d.read i := by
  unfold Dk.read; rw [hn, h1, h2]
end Glb

/-
  Layer 4: the laws SectorFlushed and SectorFails.
-/
namespace Glb
open Go
set_option maxRecDepth 10000
set_option maxHeartbeats 8000000

end Glb

/-
  Layer 4: the law SectorFails.
-/
namespace Glb
open Go
set_option maxRecDepth 10000
set_option maxHeartbeats 8000000

end Glb

/-
  Layer 4: the law SectorCrashed.
-/
namespace Glb
open Go
set_option maxRecDepth 10000
set_option maxHeartbeats 16000000

def cwant (x : Option Int) (c : Sec) (o : Option Sec) : Option Sec :=
  match x with
  | none => o
  | some v => if v = 0 then o else if v = 1 then some c else some ⟨c.no, [], true⟩
theorem sfind_cstep {l : List Sec} (hl : rises l) (x : Option Int) (c : Sec) (k : Int) : sfind (cstep x c l) k = if k = c.no then cwant x c (sfind l k) else sfind l k := by
  cases x with
  | none => simp [cstep, cwant]
  | some v =>
    simp only [cstep, cwant]
    by_cases h0 : v = 0
    · simp [h0]
    · by_cases h1 : v = 1
      · simp only [if_neg h0, if_pos h1]; rw [sfind_sput hl]
      · simp only [if_neg h0, if_neg h1]; rw [sfind_sput hl]
theorem rises_cstep {l : List Sec} (hl : rises l) (x : Option Int) (c : Sec) : rises (cstep x c l) := by
  cases x with
  | none => exact hl
  | some v => simp only [cstep]; split; exact hl; split <;> exact rises_sput hl _

theorem crashed_not {c l : List Sec} {how : List Int} (hl : rises l) {k : Int} (hk : ∀ s ∈ c, s.no ≠ k) : sfind (crashed c how l) k = sfind l k := by
  induction c generalizing l how with
  | nil => rfl
  | cons y r ih =>
    simp only [crashed]
    rw [ih (rises_cstep hl _ _) fun s hs => hk s (List.mem_cons_of_mem _ hs), sfind_cstep hl, if_neg]
    exact fun x => hk y (by simp) x.symm
theorem crash_read (d : Dk) (how : List Int) {i : Int} (hi : 0 ≤ i ∧ i < d.n) : (d.crash how).read i = readL (sfind (crashed d.cache how d.lasts) i) := by
  unfold Dk.read
  rw [if_neg (by show ¬ (i < 0 ∨ d.n ≤ i); omega)]
  rfl
end Glb
