/-
  A library of its own: its parts, one behind the other.
-/
import Derived.Test.YtgjgniadldlmiaaGlbChkA
import Derived.Test.YtgjgniadldlmiaaGlbInA
import Derived.Test.YtgjgniadldlmiaaGlbCjournal
import Derived.Test.YtgjgniadldlmiaaGlbSecD
import Derived.Test.YtgjgniadldlmiaaGlbChkB
import Derived.Test.YtgjgniadldlmiaaGlbTurA
import Derived.Test.YtgjgniadldlmiaaGlbLibB
set_option linter.unusedSimpArgs false
set_option linter.unusedVariables false
/-
  Layer 7: records on sectors, in plain lists.
-/
namespace Glb
open Go
set_option maxRecDepth 10000

/-- the k-th sector of a record -/
def rowJ (e c : Int) (p : List Int) (k : Nat) : List Int := num e ++ (num c ++ (num (2 * k + if k + 1 = many p then 1 else 0) ++ cutAt p k))
structure Jn where
  at' : Int
  fin : Int
  epoch : Int
  count : Int
def Dk.jwr (d : Dk) (j : Jn) (p : List Int) (k : Nat) : Dk × Int := d.write (j.at' + k) (rowJ j.epoch (j.count + 1) p k)
/-- sectors from k on, so many -/
def Dk.jrest (d : Dk) (j : Jn) (p : List Int) : Nat → Nat → Dk × Int
  | 0, _ => (d, 0)
  | m + 1, k => if (d.jwr j p k).2 = 0 then Dk.jrest (d.jwr j p k).1 j p m (k + 1) else d.jwr j p k
def Dk.jdone (d : Dk) (j : Jn) (p : List Int) : Dk × Int := if (d.jrest j p (many p) 0).2 = 0 then (d.jrest j p (many p) 0).1.flush else d.jrest j p (many p) 0
def Dk.japp (d : Dk) (j : Jn) (p : List Int) : Dk × Jn × Int :=
  if 32768 < p.length then (d, j, 2) else if j.fin - j.at' < many p then (d, j, 8) else
  ((d.jdone j p).1, if (d.jdone j p).2 = 0 then { j with at' := j.at' + many p, count := j.count + 1 } else j, (d.jdone j p).2)

def Dk.jright (d : Dk) (a n e : Int) : Prop := 0 ≤ a ∧ 1 ≤ n ∧ a + n ≤ d.n ∧ 1 ≤ e ∧ e ≤ maxNo
instance (d : Dk) (a n e : Int) : Decidable (d.jright a n e) := by unfold Dk.jright; infer_instance
def jnew (a n e : Int) : Jn := ⟨a, a + n, e, 0⟩

/-- bytes as a sector of a record: its bytes and its tag -/
def pcJ (b : List Int) (e c : Int) : Option (List Int × Int) :=
  if 24 ≤ b.length ∧ valOf (b.take 8) = e ∧ valOf ((b.drop 8).take 8) = c then some (b.drop 24, valOf ((b.drop 16).take 8)) else none
def Dk.pj (d : Dk) (i e c : Int) : Option (List Int × Int) := if (d.read i).2 = 0 then pcJ (d.read i).1 e c else none
/-- does a sector not go on with what has been? -/
def badJ (p b : List Int) (k : Nat) (tag : Int) : Prop := (tag ≠ 2 * k + 1 ∧ tag ≠ 2 * k) ∨ (tag ≠ 2 * k + 1 ∧ b.length ≠ 40) ∨ (tag = 2 * k + 1 ∧ 0 < k ∧ b.length = 0) ∨ 32768 < p.length + b.length
instance (p b : List Int) (k : Nat) (tag : Int) : Decidable (badJ p b k tag) := by unfold badJ; infer_instance
def scanJ (g : Int → Int → Option (List Int × Int)) : Nat → Int → List (List Int) → List Int → Nat → List (List Int)
  | 0, _, l, _, _ => l
  | m + 1, i, l, p, k => match g i (l.length + 1) with
    | none => l
    | some (b, tag) => if badJ p b k tag then l else if tag = 2 * k + 1 then scanJ g m (i + 1) (l ++ [p ++ b]) [] 0 else scanJ g m (i + 1) l (p ++ b) (k + 1)
def Dk.scan (d : Dk) (a n e : Int) : List (List Int) × Int := if d.jright a n e then (scanJ (fun i c => d.pj i e c) n.toNat a [] [] 0, 0) else ([], 3)

theorem rowJ_len (e c : Int) (p : List Int) (k : Nat) : (rowJ e c p k).length = 24 + (cutAt p k).length := by simp [rowJ, num_length]; omega
theorem rowJ_le (e c : Int) (p : List Int) (k : Nat) : (rowJ e c p k).length ≤ 64 := by rw [rowJ_len]; have := cut_len p k; omega
theorem rowJ_bytes {p : List Int} (h : bytesOk p) (e c : Int) (k : Nat) : bytesOk (rowJ e c p k) := (num_bytes _).app ((num_bytes _).app ((num_bytes _).app (cut_bytes h k)))

end Glb

/-
  Layer 7: the program's sectors of a record: an iterator.
-/
namespace Glb
open Go
set_option maxRecDepth 10000
set_option maxHeartbeats 8000000

theorem atEndI_normal (Kn : AHeap → Prop) (Ks : AX → AHeap → Prop) (st : St) : atEndI Kn Ks .normal ⟨none, false, st⟩ = Kn st.h := by simp [atEndI]
theorem atEndI_ret (Kn : AHeap → Prop) (Ks : AX → AHeap → Prop) (x : AX) (st : St) : atEndI Kn Ks .ret ⟨some x, false, st⟩ = Ks x st.h := by simp [atEndI]
attribute [go_sem] atEndI_normal atEndI_ret

def NeedOk (P : Program) (f : FuncId) : Prop := isFn P f = true ∧ ∀ (h : AHeap) (l : List Int), l.length ≤ 2^40 → ACalls P f [.int .i64 l.length] h fun r h' => r = .int .i64 (many l) ∧ h' = h

theorem need_ok {P : Program} {f : FuncId} (hf : Is P f c_journal_need) : NeedOk P f := by
  refine ⟨hf.2, fun h l hl => fun_sound hf.1 (Nat.le_of_ble_eq_true rfl) ?_⟩
  show vc P c_journal_need.code ⟨[(0, .int .i64 l.length)], [], h⟩ (atEnd c_journal_need.res _)
  have e1 : IntKind.i64.wrap ((l.length : Int) + 40) = (l.length : Int) + 40 := wrap_i64 (by omega)
  have e2 : IntKind.i64.wrap ((l.length : Int) + 40 - 1) = (l.length : Int) + 39 := by rw [wrap_i64 (by omega)]; omega
  simp only [c_journal_need, go_sem, reduceIte, Nat.reduceEqDiff, Nat.reduceAdd, Nat.reduceLeDiff, Nat.reducePow, Nat.reduceDiv, Nat.reduceMod, decide_true, e1, e2, quo64]
  rw [if_neg (by omega)]
  have e3 : IntKind.i64.wrap (((l.length : Int) + 39).tdiv 40) = (((l.length + 39) / 40 : Nat) : Int) := by rw [Int.tdiv_eq_ediv_of_nonneg (by omega), wrap_i64 (by omega)]; omega
  have e4 : max (1 : Int) (((l.length + 39) / 40 : Nat) : Int) = (many l : Nat) := by unfold many; omega
  simp only [go_sem, reduceIte, Nat.reduceEqDiff, Nat.reduceAdd, Nat.reduceLeDiff, Nat.reducePow, Nat.reduceDiv, Nat.reduceMod, decide_true, e3, rev_mnmx, mnmx_max, e4]

/-- the iterator: for a body that leads from J k to J (k + 1), or stops with Ks -/
def SeqOk (P : Program) (f : FuncId) : Prop := isFn P f = true ∧ ∀ (Y : Yl) (J : Nat → AHeap → Prop) (Ks : AX → AHeap → Prop) (G : Nat → Prop) (h : AHeap) (nb ne nc : Nat) (a : AV) (l : List Int) (e c : Int),
  (∀ avs h (R R' : Option AX → AHeap → Prop), (∀ j h, R j h → R' j h) → Y avs h R → Y avs h R') → l.length ≤ 2^40 → J 0 h →
  (∀ k h', J k h' → box1 h' nb a ∧ box1 h' ne (.int .i64 e) ∧ box1 h' nc (.int .i64 c) ∧ Rd G h' (dBytes l) a) →
  (∀ k h' H b (R : Option AX → AHeap → Prop), k < many l → J k h' → Own (dBytes (rowJ e c l k)) (fun m => h'.length ≤ m) H b → Ext nof h' H → (∀ h2, J (k + 1) h2 → R none h2) → (∀ x h2, Ks x h2 → R (some x) h2) → Y [.int .i64 k, b] H R) →
  AIter P f [.ptr nb 1 0 0, .ptr ne 1 0 0, .ptr nc 1 0 0] h Y (J (many l)) Ks

theorem seq_ok {P : Program} {f g1 g2 : FuncId} (hf : IsR P true f (y_journal_sectors_f1 g1 g2)) (h1 : NeedOk P g1) (h2 : IntOk P g2) : SeqOk P f := by
  refine ⟨hf.1, fun Y J Ks G h nb ne nc a l e c hY hl hJ0 hJ hB => riter_sound hf.2 rfl (Nat.le_of_ble_eq_true rfl) fun y => ?_⟩
  show rvc P y Y (y_journal_sectors_f1 g1 g2).code ⟨none, false, ⟨[(0, .raw (.func (.yield y) #[] #[])), (1, .ptr nb 1 0 0), (2, .ptr ne 1 0 0), (3, .ptr nc 1 0 0)], [], h⟩⟩ (atEndI (J (many l)) Ks)
  obtain ⟨b1, b2, b3, hr⟩ := hJ 0 h hJ0
  unfold box1 at b1 b2 b3
  have la := hr.bytes_len
  have mp : many l ≤ 2^40 := by unfold many; omega
  have mpos := many_pos l
  have hp := h2.p
  simp only [y_journal_sectors_f1, go_sem, reduceIte, Nat.reduceEqDiff, Nat.reduceAdd, Nat.reduceLeDiff, Nat.reducePow, Nat.reduceDiv, Nat.reduceMod, decide_true, b1, la]
  refine use1 h1.1 (h1.2 h l hl) ?_
  simp only [go_sem, reduceIte, Nat.reduceEqDiff, Nat.reduceAdd, Nat.reduceLeDiff, Nat.reducePow, Nat.reduceDiv, Nat.reduceMod, decide_true]
  obtain ⟨I, hI⟩ : ∃ I : Nat → Env → AHeap → Prop, ∀ m L h', I m L h' ↔ ∃ k : Nat, lk 0 L = .raw (.func (.yield y) #[] #[]) ∧ lk 1 L = .ptr nb 1 0 0 ∧ lk 2 L = .ptr ne 1 0 0 ∧ lk 3 L = .ptr nc 1 0 0 ∧ lk 5 L = .int .i64 (many l) ∧ lk 12 L = .int .i64 (many l) ∧ lk 13 L = .int .i64 k ∧ J k h' ∧ k ≤ many l ∧ m = many l - k := ⟨_, fun _ _ _ => Iff.rfl⟩
  refine rvc_loop hY I (many l) ((hI _ _ _).2 ⟨0, by simp [lk_ins, lk_cons], by simp [lk_ins, lk_cons], by simp [lk_ins, lk_cons], by simp [lk_ins, lk_cons], by simp [lk_ins, lk_cons], by simp [lk_ins, lk_cons], by simp [lk_ins, lk_cons], hJ0, by omega, by omega⟩) ?_
  intro m L h' hh
  obtain ⟨k, k0, k1, k2, k3, k5, k12, k13, hJk, hk, rfl⟩ := (hI _ _ _).1 hh
  obtain ⟨b1, b2, b3, hr⟩ := hJ k h' hJk
  unfold box1 at b1 b2 b3
  simp only [go_sem, reduceIte, Nat.reduceEqDiff, Nat.reduceAdd, Nat.reduceLeDiff, Nat.reducePow, Nat.reduceDiv, Nat.reduceMod, decide_true, k12, k13]
  refine wCond_split (fun ck => ?_) (fun ck => ?_)
  · simp at ck
    have e1 : IntKind.i64.wrap (2 * (k : Int)) = 2 * k := wrap_i64 (by omega)
    have e2 : IntKind.i64.wrap ((many l : Int) - 1) = many l - 1 := wrap_i64 (by omega)
    have e3 : IntKind.i64.wrap (2 * (k : Int) + 1) = 2 * k + 1 := wrap_i64 (by omega)
    have e4 : IntKind.i64.wrap ((k : Int) * 40) = 40 * k := by rw [wrap_i64 (by omega)]; omega
    have e5 : IntKind.i64.wrap ((k : Int) + 1) = k + 1 := wrap_i64 (by omega)
    have e6 : IntKind.i64.wrap (((k : Int) + 1) * 40) = 40 * k + 40 := by rw [wrap_i64 (by omega)]; omega
    simp only [go_sem, reduceIte, Nat.reduceEqDiff, Nat.reduceAdd, Nat.reduceLeDiff, Nat.reducePow, Nat.reduceDiv, Nat.reduceMod, decide_true, k0, k1, k2, k3, k5, k12, k13, e1, e2]
    have hkl : 40 * k ≤ l.length := by unfold many at ck; omega
    by_cases c1 : (k : Int) = many l - 1
    · have et : (2 * (k : Int) + if k + 1 = many l then 1 else 0) = 2 * (k : Int) + 1 := by split <;> omega
      simp only [go_sem, reduceIte, Nat.reduceEqDiff, Nat.reduceAdd, Nat.reduceLeDiff, Nat.reducePow, Nat.reduceDiv, Nat.reduceMod, decide_true, decide_eq_true c1, k0, k1, k2, k3, k5, k12, k13, e1, e2, e3, b1, b2, b3]
      refine use1 hp.1 (hp.2 (fun _ => True) h' [] .nils e (nl_rd8 h') (by simp)) ?_
      simp only [go_sem, reduceIte, Nat.reduceEqDiff, Nat.reduceAdd, Nat.reduceLeDiff, Nat.reducePow, Nat.reduceDiv, Nat.reduceMod, decide_true, b1, b2, b3]
      refine use1 hp.1 (hp.2 (fun _ => True) h' (num e) _ c (rd_abytes _ _ _) (by simp [num_length])) ?_
      simp only [go_sem, reduceIte, Nat.reduceEqDiff, Nat.reduceAdd, Nat.reduceLeDiff, Nat.reducePow, Nat.reduceDiv, Nat.reduceMod, decide_true, b1, b2, b3]
      refine wCall_use ⟨h2.1, h2.2 (fun _ => True) h' (num e ++ num c) _ (2 * (k : Int) + 1) (rd_abytes _ _ _) (by simp [num_length])⟩ ?_
      rintro b H ⟨ho, hc, hx⟩
      have B1 := hx.get b1
      have B2 := hx.get b2
      have B3 := hx.get b3
      have hr2 := hr.up hx
      have lb := hr2.bytes_len
      obtain ⟨q, s1, hq⟩ := Rd.slice hr2 (lo := some (40 * (k : Int))) (hi := some (min (l.length : Int) (40 * (k : Int) + 40))) (mx := none) (by simp; omega) (by simp; omega) (by simp; omega) (by simp) (by simp; omega) (by simp)
      have ec : (((l.map fun n => [D.int .u8 n]).take (min (l.length : Int) (40 * (k : Int) + 40)).toNat).drop (40 * (k : Int)).toNat) = (cutAt l k).map fun n => [D.int .u8 n] := by
        rw [← List.map_take, ← List.map_drop]
        congr 1
        unfold cutAt
        rw [show (min (l.length : Int) (40 * (k : Int) + 40)).toNat = min l.length (40 * k + 40) by omega, show (40 * (k : Int)).toNat = 40 * k by omega, List.drop_take, List.take_eq_take_iff, List.length_drop]; omega
      simp only [Option.getD_some] at hq
      rw [ec] at hq
      obtain ⟨ys, hys, hyr⟩ := hq.elems
      obtain ⟨o, H', hap, ho', hc', he'⟩ := own_app (lo := h'.length) (sz := 1) (bytes := 1) ho hc (Ext.refl _ _) (own_ints1 hyr) hx.1 (by have := cut_len l k; simp [num_length]; omega)
      have ha2 := aappend_of hys 1 b
      rw [hap] at ha2
      have ho2 : Own (dBytes (rowJ e c l k)) (fun m => h'.length ≤ m) H' o := by
        have := ho'
        simpa [dBytes, rowJ, et] using this
      simp only [go_sem, reduceIte, Nat.reduceEqDiff, Nat.reduceAdd, Nat.reduceLeDiff, Nat.reducePow, Nat.reduceDiv, Nat.reduceMod, decide_true, B1, B2, B3, lb, e4, e5, e6, rev_mnmx, mnmx_min, s1, ha2, k0, k1, k2, k3, k5, k12, k13]
      refine hB k h' H' o _ ck hJk ho2 (hx.then he' (fun m hm hm' => by omega)) ?_ ?_
      · intro h2 hj2
        simp only [go_sem, reduceIte, Nat.reduceEqDiff, Nat.reduceAdd, Nat.reduceLeDiff, Nat.reducePow, Nat.reduceDiv, Nat.reduceMod, decide_true, Option.isNone_none, Bool.not_true, k13, e5]
        exact ⟨_, by omega, (hI _ _ _).2 ⟨k + 1, by simp [lk_ins, k0], by simp [lk_ins, k1], by simp [lk_ins, k2], by simp [lk_ins, k3], by simp [lk_ins, k5], by simp [lk_ins, k12], by simp [lk_ins], hj2, by omega, rfl⟩⟩
      · intro x h2 hk2
        simp only [go_sem, reduceIte, Nat.reduceEqDiff, Nat.reduceAdd, Nat.reduceLeDiff, Nat.reducePow, Nat.reduceDiv, Nat.reduceMod, decide_true, Option.isNone_some, Bool.not_false]
        exact hk2
    · have et : (2 * (k : Int) + if k + 1 = many l then 1 else 0) = 2 * (k : Int) := by split <;> omega
      simp only [go_sem, reduceIte, Nat.reduceEqDiff, Nat.reduceAdd, Nat.reduceLeDiff, Nat.reducePow, Nat.reduceDiv, Nat.reduceMod, decide_true, decide_eq_false c1, k0, k1, k2, k3, k5, k12, k13, e1, e2, e3, b1, b2, b3]
      refine use1 hp.1 (hp.2 (fun _ => True) h' [] .nils e (nl_rd8 h') (by simp)) ?_
      simp only [go_sem, reduceIte, Nat.reduceEqDiff, Nat.reduceAdd, Nat.reduceLeDiff, Nat.reducePow, Nat.reduceDiv, Nat.reduceMod, decide_true, b1, b2, b3]
      refine use1 hp.1 (hp.2 (fun _ => True) h' (num e) _ c (rd_abytes _ _ _) (by simp [num_length])) ?_
      simp only [go_sem, reduceIte, Nat.reduceEqDiff, Nat.reduceAdd, Nat.reduceLeDiff, Nat.reducePow, Nat.reduceDiv, Nat.reduceMod, decide_true, b1, b2, b3]
      refine wCall_use ⟨h2.1, h2.2 (fun _ => True) h' (num e ++ num c) _ (2 * (k : Int)) (rd_abytes _ _ _) (by simp [num_length])⟩ ?_
      rintro b H ⟨ho, hc, hx⟩
      have B1 := hx.get b1
      have B2 := hx.get b2
      have B3 := hx.get b3
      have hr2 := hr.up hx
      have lb := hr2.bytes_len
      obtain ⟨q, s1, hq⟩ := Rd.slice hr2 (lo := some (40 * (k : Int))) (hi := some (min (l.length : Int) (40 * (k : Int) + 40))) (mx := none) (by simp; omega) (by simp; omega) (by simp; omega) (by simp) (by simp; omega) (by simp)
      have ec : (((l.map fun n => [D.int .u8 n]).take (min (l.length : Int) (40 * (k : Int) + 40)).toNat).drop (40 * (k : Int)).toNat) = (cutAt l k).map fun n => [D.int .u8 n] := by
        rw [← List.map_take, ← List.map_drop]
        congr 1
        unfold cutAt
        rw [show (min (l.length : Int) (40 * (k : Int) + 40)).toNat = min l.length (40 * k + 40) by omega, show (40 * (k : Int)).toNat = 40 * k by omega, List.drop_take, List.take_eq_take_iff, List.length_drop]; omega
      simp only [Option.getD_some] at hq
      rw [ec] at hq
      obtain ⟨ys, hys, hyr⟩ := hq.elems
      obtain ⟨o, H', hap, ho', hc', he'⟩ := own_app (lo := h'.length) (sz := 1) (bytes := 1) ho hc (Ext.refl _ _) (own_ints1 hyr) hx.1 (by have := cut_len l k; simp [num_length]; omega)
      have ha2 := aappend_of hys 1 b
      rw [hap] at ha2
      have ho2 : Own (dBytes (rowJ e c l k)) (fun m => h'.length ≤ m) H' o := by
        have := ho'
        simpa [dBytes, rowJ, et] using this
      simp only [go_sem, reduceIte, Nat.reduceEqDiff, Nat.reduceAdd, Nat.reduceLeDiff, Nat.reducePow, Nat.reduceDiv, Nat.reduceMod, decide_true, B1, B2, B3, lb, e4, e5, e6, rev_mnmx, mnmx_min, s1, ha2, k0, k1, k2, k3, k5, k12, k13]
      refine hB k h' H' o _ ck hJk ho2 (hx.then he' (fun m hm hm' => by omega)) ?_ ?_
      · intro h2 hj2
        simp only [go_sem, reduceIte, Nat.reduceEqDiff, Nat.reduceAdd, Nat.reduceLeDiff, Nat.reducePow, Nat.reduceDiv, Nat.reduceMod, decide_true, Option.isNone_none, Bool.not_true, k13, e5]
        exact ⟨_, by omega, (hI _ _ _).2 ⟨k + 1, by simp [lk_ins, k0], by simp [lk_ins, k1], by simp [lk_ins, k2], by simp [lk_ins, k3], by simp [lk_ins, k5], by simp [lk_ins, k12], by simp [lk_ins], hj2, by omega, rfl⟩⟩
      · intro x h2 hk2
        simp only [go_sem, reduceIte, Nat.reduceEqDiff, Nat.reduceAdd, Nat.reduceLeDiff, Nat.reducePow, Nat.reduceDiv, Nat.reduceMod, decide_true, Option.isNone_some, Bool.not_false]
        exact hk2
  · simp at ck
    have : k = many l := by omega
    subst this
    simp only [go_sem, reduceIte, Nat.reduceEqDiff, Nat.reduceAdd, Nat.reduceLeDiff, Nat.reducePow, Nat.reduceDiv, Nat.reduceMod, decide_true]
    exact hJk

end Glb

/-
  Layer 7: the program's journal: New, Room, Count, Append.
-/
namespace Glb
open Go
set_option maxRecDepth 10000
set_option maxHeartbeats 8000000

def jrowV (p : Nat) (j : Jn) : List AV := [.ptr p 6 0 0, .int .i64 j.at', .int .i64 j.fin, .int .i64 j.epoch, .int .i64 j.count]
def JAt (h : AHeap) (q p : Nat) (j : Jn) : Prop := h[q]? = some (some (.arr 5 [jrowV p j] false))
structure Jn.ok (j : Jn) (n : Int) : Prop where
  at' : 0 ≤ j.at' ∧ j.at' ≤ j.fin
  fin : j.fin ≤ n
  epoch : 1 ≤ j.epoch ∧ j.epoch ≤ maxNo
  count : 0 ≤ j.count ∧ j.count ≤ j.at'

def JRightOk (P : Program) (f : FuncId) : Prop := isFn P f = true ∧ ∀ (F : Nat → Prop) (h : AHeap) (p : Nat) (d : Dk) (a n e : Int), DiskAt F h p d →
  ACalls P f [.ptr p 6 0 0, .int .i64 a, .int .i64 n, .int .i64 e] h fun r h' => r = .bool (decide (d.jright a n e)) ∧ h' = h
def JNewOk (P : Program) (f : FuncId) : Prop := isFn P f = true ∧ ∀ (F : Nat → Prop) (h : AHeap) (p : Nat) (d : Dk) (a n e : Int), DiskAt F h p d →
  ACalls P f [.ptr p 6 0 0, .int .i64 a, .int .i64 n, .int .i64 e] h fun r h' => (d.jright a n e → r = .tup [.ptr h.length 5 0 0, .int .i64 0] ∧ JAt h' h.length p (jnew a n e)) ∧ (¬ d.jright a n e → r = .tup [.raw (.pointer none), .int .i64 3]) ∧ Ext nof h h'
def JRoomOk (P : Program) (f : FuncId) : Prop := isFn P f = true ∧ ∀ (h : AHeap) (q p : Nat) (j : Jn) (n : Int), JAt h q p j → j.ok n → n ≤ 16384 → ACalls P f [.ptr q 5 0 0] h fun r h' => r = .int .i64 (j.fin - j.at') ∧ h' = h
def JCountOk (P : Program) (f : FuncId) : Prop := isFn P f = true ∧ ∀ (h : AHeap) (q p : Nat) (j : Jn), JAt h q p j → ACalls P f [.ptr q 5 0 0] h fun r h' => r = .int .i64 j.count ∧ h' = h
def SecsOk (P : Program) (f sf : FuncId) : Prop := isFn P f = true ∧ ∀ (h : AHeap) (e c : Int) (a : AV), a.scalar = true → ACalls P f [.int .i64 e, .int .i64 c, a] h fun r h' =>
  r = .clo sf [] [.ptr (h.length + 2) 1 0 0, .ptr h.length 1 0 0, .ptr (h.length + 1) 1 0 0] ∧ box1 h' (h.length + 2) a ∧ box1 h' h.length (.int .i64 e) ∧ box1 h' (h.length + 1) (.int .i64 c) ∧ Ext nof h h'
def AppJOk (P : Program) (f : FuncId) : Prop := isFn P f = true ∧ ∀ (F G : Nat → Prop) (h : AHeap) (q p : Nat) (d : Dk) (j : Jn) (l : List Int) (a : AV), DiskAt F h p d → JAt h q p j → j.ok d.n → ¬ F q → (∀ m, F m → m < h.length) → Rd G h (dBytes l) a → (∀ m, G m → ¬ F m ∧ m ≠ q) →
  ACalls P f [.ptr q 5 0 0, a] h fun r h' => r = .int .i64 (d.japp j l).2.2 ∧ DiskAt F h' p (d.japp j l).1 ∧ JAt h' q p (d.japp j l).2.1 ∧ Ext (fun m => F m ∨ m = q) h h'

theorem jright_ok {P : Program} {f g : FuncId} (hf : Is P f (c_journal_right g)) (hg : DLenOk P g) : JRightOk P f := by
  refine ⟨hf.2, fun F h p d a n e hd => fun_sound hf.1 (Nat.le_of_ble_eq_true rfl) ?_⟩
  show vc P (c_journal_right g).code ⟨[(0, .ptr p 6 0 0), (1, .int .i64 a), (2, .int .i64 n), (3, .int .i64 e)], [], h⟩ (atEnd (c_journal_right g).res _)
  have hn := hd.ok.n
  by_cases c1 : 0 ≤ a
  · by_cases c2 : 1 ≤ n
    · simp only [c_journal_right, go_sem, reduceIte, Nat.reduceEqDiff, Nat.reduceAdd, Nat.reduceLeDiff, Nat.reducePow, Nat.reduceDiv, Nat.reduceMod, decide_true, decide_eq_true c1, decide_eq_true c2]
      refine use1 hg.1 (hg.2 F h p d hd) ?_
      by_cases c3 : a ≤ d.n
      · simp only [go_sem, reduceIte, Nat.reduceEqDiff, Nat.reduceAdd, Nat.reduceLeDiff, Nat.reducePow, Nat.reduceDiv, Nat.reduceMod, decide_true, decide_eq_true c3]
        refine use1 hg.1 (hg.2 F h p d hd) ?_
        have e1 : IntKind.i64.wrap (d.n - a) = d.n - a := wrap_i64 (by omega)
        by_cases c4 : n ≤ d.n - a
        · by_cases c5 : 1 ≤ e
          · have hm : decide (d.jright a n e) = decide (e ≤ 1099511627776) := decide_eq_decide.2 ⟨fun x => x.2.2.2.2, fun x => ⟨c1, c2, by omega, c5, x⟩⟩
            simp only [go_sem, reduceIte, Nat.reduceEqDiff, Nat.reduceAdd, Nat.reduceLeDiff, Nat.reducePow, Nat.reduceDiv, Nat.reduceMod, decide_true, e1, decide_eq_true c4, decide_eq_true c5, hm]
          · have hm : decide (d.jright a n e) = false := decide_eq_false (by unfold Dk.jright; omega)
            simp only [go_sem, reduceIte, Nat.reduceEqDiff, Nat.reduceAdd, Nat.reduceLeDiff, Nat.reducePow, Nat.reduceDiv, Nat.reduceMod, decide_true, e1, decide_eq_true c4, decide_eq_false c5, hm]
        · have hm : decide (d.jright a n e) = false := decide_eq_false (by unfold Dk.jright; omega)
          simp only [go_sem, reduceIte, Nat.reduceEqDiff, Nat.reduceAdd, Nat.reduceLeDiff, Nat.reducePow, Nat.reduceDiv, Nat.reduceMod, decide_true, e1, decide_eq_false c4, hm]
      · have hm : decide (d.jright a n e) = false := decide_eq_false (by unfold Dk.jright; omega)
        simp only [go_sem, reduceIte, Nat.reduceEqDiff, Nat.reduceAdd, Nat.reduceLeDiff, Nat.reducePow, Nat.reduceDiv, Nat.reduceMod, decide_true, decide_eq_false c3, hm]
    · have hm : decide (d.jright a n e) = false := decide_eq_false (by unfold Dk.jright; omega)
      simp only [c_journal_right, go_sem, reduceIte, Nat.reduceEqDiff, Nat.reduceAdd, Nat.reduceLeDiff, Nat.reducePow, Nat.reduceDiv, Nat.reduceMod, decide_true, decide_eq_true c1, decide_eq_false c2, hm]
  · have hm : decide (d.jright a n e) = false := decide_eq_false (by unfold Dk.jright; omega)
    simp only [c_journal_right, go_sem, reduceIte, Nat.reduceEqDiff, Nat.reduceAdd, Nat.reduceLeDiff, Nat.reducePow, Nat.reduceDiv, Nat.reduceMod, decide_true, decide_eq_false c1, hm]

theorem jnew_ok {P : Program} {f g : FuncId} (hf : Is P f (c_journal_New g)) (hg : JRightOk P g) : JNewOk P f := by
  refine ⟨hf.2, fun F h p d a n e hd => fun_sound hf.1 (Nat.le_of_ble_eq_true rfl) ?_⟩
  show vc P (c_journal_New g).code ⟨[(0, .ptr p 6 0 0), (1, .int .i64 a), (2, .int .i64 n), (3, .int .i64 e)], [], h⟩ (atEnd (c_journal_New g).res _)
  have hn := hd.ok.n
  simp only [c_journal_New, go_sem, reduceIte, Nat.reduceEqDiff, Nat.reduceAdd, Nat.reduceLeDiff, Nat.reducePow, Nat.reduceDiv, Nat.reduceMod, decide_true]
  refine use1 hg.1 (hg.2 F h p d a n e hd) ?_
  by_cases c : d.jright a n e
  · have e1 : IntKind.i64.wrap (a + n) = a + n := wrap_i64 (by unfold Dk.jright at c; omega)
    simp only [go_sem, reduceIte, Nat.reduceEqDiff, Nat.reduceAdd, Nat.reduceLeDiff, Nat.reducePow, Nat.reduceDiv, Nat.reduceMod, decide_true, decide_eq_true c, Bool.not_true, e1]
    exact ⟨fun _ => bx10 _ _, fun x => absurd c x, Ext.b1 _⟩
  · simp only [go_sem, reduceIte, Nat.reduceEqDiff, Nat.reduceAdd, Nat.reduceLeDiff, Nat.reducePow, Nat.reduceDiv, Nat.reduceMod, decide_true, decide_eq_false c, Bool.not_false]
    exact ⟨fun x => absurd x c, fun _ => trivial, Ext.refl _ _⟩

theorem jroom_ok {P : Program} {f : FuncId} (hf : Is P f c_journal_Journal_Room) : JRoomOk P f := by
  refine ⟨hf.2, fun h q p j n hj ho hn => fun_sound hf.1 (Nat.le_of_ble_eq_true rfl) ?_⟩
  show vc P c_journal_Journal_Room.code ⟨[(0, .ptr q 5 0 0)], [], h⟩ (atEnd c_journal_Journal_Room.res _)
  unfold JAt at hj
  have e1 : IntKind.i64.wrap (j.fin - j.at') = j.fin - j.at' := wrap_i64 (by have := ho.at'; have := ho.fin; omega)
  simp only [c_journal_Journal_Room, go_sem, reduceIte, Nat.reduceEqDiff, Nat.reduceAdd, Nat.reduceLeDiff, Nat.reducePow, Nat.reduceDiv, Nat.reduceMod, decide_true, hj, jrowV, e1]

theorem jcount_ok {P : Program} {f : FuncId} (hf : Is P f c_journal_Journal_Count) : JCountOk P f := by
  refine ⟨hf.2, fun h q p j hj => fun_sound hf.1 (Nat.le_of_ble_eq_true rfl) ?_⟩
  show vc P c_journal_Journal_Count.code ⟨[(0, .ptr q 5 0 0)], [], h⟩ (atEnd c_journal_Journal_Count.res _)
  unfold JAt at hj
  simp only [c_journal_Journal_Count, go_sem, reduceIte, Nat.reduceEqDiff, Nat.reduceAdd, Nat.reduceLeDiff, Nat.reducePow, Nat.reduceDiv, Nat.reduceMod, decide_true, hj, jrowV]

theorem secs_ok {P : Program} {f sf : FuncId} (hf : Is P f (c_journal_sectors sf)) : SecsOk P f sf := by
  refine ⟨hf.2, fun h e c a sa => fun_sound hf.1 (Nat.le_of_ble_eq_true rfl) ?_⟩
  show vc P (c_journal_sectors sf).code ⟨[(0, .int .i64 e), (1, .int .i64 c), (2, a)], [], h⟩ (atEnd (c_journal_sectors sf).res _)
  simp only [c_journal_sectors, go_sem, reduceIte, Nat.reduceEqDiff, Nat.reduceAdd, Nat.reduceLeDiff, Nat.reducePow, Nat.reduceDiv, Nat.reduceMod, decide_true, sa, cells_of sa]
  exact ⟨bx32 h _ _ _, bx30 h _ _ _, bx31 h _ _ _, Ext.b3 _ _ _⟩

theorem jrest_step (d : Dk) (j : Jn) (p : List Int) (m k : Nat) : d.jrest j p (m + 1) k = if (d.jwr j p k).2 = 0 then (d.jwr j p k).1.jrest j p m (k + 1) else d.jwr j p k := rfl
theorem appj_ok {P : Program} {f g1 g2 g3 g4 g5 sf : FuncId} (hf : IsR P false f (r_journal_Journal_Append g1 g2 g3 g4 g5)) (h1 : NeedOk P g1) (h2 : JRoomOk P g2) (h3 : SecsOk P g3 sf) (hs : SeqOk P sf) (h4 : WriteOk P g4) (h5 : FlushDOk P g5) : AppJOk P f := by
  refine ⟨hf.1, fun F G h q p d j l a hd hj ho hq hF ha hG => rfun_sound hf.2 (Nat.le_of_ble_eq_true rfl) ?_⟩
  show rvc P 0 (fun _ _ _ => False) (r_journal_Journal_Append g1 g2 g3 g4 g5).code ⟨none, false, ⟨[(0, .ptr q 5 0 0), (1, a)], [], h⟩⟩ (atEndR (r_journal_Journal_Append g1 g2 g3 g4 g5).res _)
  have la := ha.bytes_len
  have sa := ha.scalar
  have hn := hd.ok.n
  have hqh : q < h.length := (List.getElem?_eq_some_iff.1 hj).1
  simp only [r_journal_Journal_Append, go_sem, reduceIte, Nat.reduceEqDiff, Nat.reduceAdd, Nat.reduceLeDiff, Nat.reducePow, Nat.reduceDiv, Nat.reduceMod, decide_true, la]
  have B0 : box1 (h ++ [some (ABlk.arr 1 [[AV.ptr q 5 0 0]] false)] ++ [some (ABlk.arr 1 [[AV.int .i64 0]] false)]) h.length (.ptr q 5 0 0) := bx20 h _ _
  have B1 : box1 (h ++ [some (ABlk.arr 1 [[AV.ptr q 5 0 0]] false)] ++ [some (ABlk.arr 1 [[AV.int .i64 0]] false)]) (h.length + 1) (.int .i64 0) := bx21 h _ _
  have X2 : Ext nof h (h ++ [some (ABlk.arr 1 [[AV.ptr q 5 0 0]] false)] ++ [some (ABlk.arr 1 [[AV.int .i64 0]] false)]) := Ext.b2 _ _
  obtain ⟨n2, hn2⟩ : ∃ x, x = h.length := ⟨_, rfl⟩
  rw [← hn2] at B0 B1 hqh hF ⊢
  have L2 : (h ++ [some (ABlk.arr 1 [[AV.ptr q 5 0 0]] false)] ++ [some (ABlk.arr 1 [[AV.int .i64 0]] false)]).length = n2 + 2 := by simp [hn2]
  unfold box1 at B0 B1
  generalize h ++ [some (ABlk.arr 1 [[AV.ptr q 5 0 0]] false)] ++ [some (ABlk.arr 1 [[AV.int .i64 0]] false)] = H at *
  have hd2 := hd.up X2
  have hj2 : JAt H q p j := X2.get hj
  have ha2 := ha.up X2
  have stay : Ext (fun m => F m ∨ m = q) h H := X2.weak (fun _ _ x => x.elim)
  -- a box of ours is written
  have wr : ∀ (H' : AHeap) (p' : Nat) (d' : Dk) (j' : Jn) (v : AV), Ext (fun m => F m ∨ m = q) H H' → DiskAt F H' p' d' → JAt H' q p' j' → DiskAt F (H'.set (n2 + 1) (some (.arr 1 [[v]] false))) p' d' ∧ JAt (H'.set (n2 + 1) (some (.arr 1 [[v]] false))) q p' j' ∧
      Ext (fun m => F m ∨ m = q) h (H'.set (n2 + 1) (some (.arr 1 [[v]] false))) := by
    intro H' p' d' j' v hx hd' hj'
    have hx1 : Ext (fun m => m = n2 + 1) H' (H'.set (n2 + 1) (some (.arr 1 [[v]] false))) := Ext.set _ (fun _ => rfl)
    refine ⟨hd'.mono (fun _ x => x) (hx1.keepOff (F' := F) fun m _ hm x => by have := hF m hm; omega), ?_, ?_⟩
    · unfold JAt; rw [List.getElem?_set_ne (by omega)]; exact hj'
    · refine ⟨by have := X2.1; have := hx.1; simp; omega, fun m hm hm' => ?_⟩
      rw [List.getElem?_set_ne (by omega), hx.2 m (by have := X2.1; omega) hm', X2.2 m hm (fun x => x)]
  unfold Dk.japp
  by_cases c1 : 32768 < l.length
  · have c1' : (32768 : Int) < l.length := by omega
    rw [if_pos c1]
    simp only [go_sem, reduceIte, Nat.reduceEqDiff, Nat.reduceAdd, Nat.reduceLeDiff, Nat.reducePow, Nat.reduceDiv, Nat.reduceMod, decide_true, decide_eq_true c1', B1, L2]
    exact wr H p d j _ (Ext.refl _ _) hd2 hj2
  · have c1' : ¬ (32768 : Int) < l.length := by omega
    rw [if_neg c1]
    have hl : l.length ≤ 2^40 := by omega
    simp only [go_sem, reduceIte, Nat.reduceEqDiff, Nat.reduceAdd, Nat.reduceLeDiff, Nat.reducePow, Nat.reduceDiv, Nat.reduceMod, decide_true, decide_eq_false c1', la]
    refine use1 h1.1 (h1.2 H l hl) ?_
    simp only [go_sem, reduceIte, Nat.reduceEqDiff, Nat.reduceAdd, Nat.reduceLeDiff, Nat.reducePow, Nat.reduceDiv, Nat.reduceMod, decide_true, B0]
    refine use1 h2.1 (h2.2 H q p j _ hj2 ho (by omega)) ?_
    by_cases c2 : j.fin - j.at' < many l
    · rw [if_pos c2]
      simp only [go_sem, reduceIte, Nat.reduceEqDiff, Nat.reduceAdd, Nat.reduceLeDiff, Nat.reducePow, Nat.reduceDiv, Nat.reduceMod, decide_true, decide_eq_true c2, B1, L2]
      exact wr H p d j _ (Ext.refl _ _) hd2 hj2
    · rw [if_neg c2]
      have hj2' := hj2
      unfold JAt jrowV at hj2'
      have oa := ho.at'
      have of := ho.fin
      have oc := ho.count
      have e1 : IntKind.i64.wrap (j.count + 1) = j.count + 1 := wrap_i64 (by omega)
      simp only [go_sem, reduceIte, Nat.reduceEqDiff, Nat.reduceAdd, Nat.reduceLeDiff, Nat.reducePow, Nat.reduceDiv, Nat.reduceMod, decide_true, decide_eq_false c2, B0, hj2', e1]
      refine wCall_use ⟨h3.1, h3.2 H _ _ a sa⟩ ?_
      rintro _ H3 ⟨rfl, D1, D2, D3, X3⟩
      have C0 := X3.get B0
      have C1 := X3.get B1
      have C2 := X3.get hj2'
      simp only [go_sem, reduceIte, Nat.reduceEqDiff, Nat.reduceAdd, Nat.reduceLeDiff, Nat.reducePow, Nat.reduceDiv, Nat.reduceMod, decide_true, C0, C2]
      have LH : H.length = n2 + 2 := L2
      rw [LH] at D1 D2 D3 ⊢
      have hd3 := hd2.up X3
      have ha3 := ha2.up X3
      have hF' : ∀ m, n2 ≤ m → ¬ F m := fun m hm x => by have := hF m x; omega
      have st3 : ∀ {h' : AHeap} {m : Nat} {v : Option ABlk}, Ext F H3 h' → H3[m]? = some v → ¬ F m → h'[m]? = some v := fun x hv hm => (x.2 _ (List.getElem?_eq_some_iff.1 hv).1 hm).trans hv
      have mpos := many_pos l
      have nq : ∀ m, n2 ≤ m → m ≠ q := fun m hm => by omega
      have XH : Ext (fun m => F m ∨ m = q) H H3 := X3.weak (fun _ _ x => x.elim)
      have hF3 : ∀ m, F m → m < H3.length := fun m hm => by have := hF m hm; have := X3.1; omega
      -- what is so amid the rounds
      obtain ⟨J, hJ⟩ : ∃ J : Nat → AHeap → Prop, ∀ k h', J k h' ↔ ∃ d1, DiskAt F h' p d1 ∧ Ext F H3 h' ∧ d.jrest j l (many l) 0 = d1.jrest j l (many l - k) k ∧ k ≤ many l := ⟨_, fun _ _ => Iff.rfl⟩
      obtain ⟨Ks, hKs⟩ : ∃ Ks : AX → AHeap → Prop, ∀ x h', Ks x h' ↔ x = .ret ∧ ∃ d1 er h1, er ≠ 0 ∧ d.jrest j l (many l) 0 = (d1, er) ∧ DiskAt F h1 p d1 ∧ Ext F H3 h1 ∧ h' = h1.set (n2 + 1) (some (.arr 1 [[.int .i64 er]] false)) := ⟨_, fun _ _ => Iff.rfl⟩
      refine rvc_range (gf := sf) (cs := [.ptr (n2 + 2 + 2) 1 0 0, .ptr (n2 + 2) 1 0 0, .ptr (n2 + 2 + 1) 1 0 0]) (Kn := J (many l)) (Ks := Ks) (by simp [St.get, lk_ins]) hs.1 (hs.2 _ J Ks G H3 _ _ _ a l j.epoch (j.count + 1) (bodyY_mono _ _ _ _) hl ((hJ _ _).2 ⟨d, hd3, Ext.refl _ _, rfl, by omega⟩) ?_ ?_) ?_ ?_
      · intro k h' hk
        obtain ⟨d1, hd1, hx1, -, -⟩ := (hJ _ _).1 hk
        exact ⟨st3 hx1 D1 (hF' _ (by omega)), st3 hx1 D2 (hF' _ (by omega)), st3 hx1 D3 (hF' _ (by omega)), ha3.mono (fun _ x => x) (hx1.keepOff (F' := G) fun m _ hm => (hG m hm).1)⟩
      · intro k h' H' b R hk hjk ho' hx' hn' hs'
        obtain ⟨d1, hd1, hx1, er, -⟩ := (hJ _ _).1 hjk
        rw [bodyY_mk _ _ _ _ _ _ _ rfl]
        have E0 := hx'.get (st3 hx1 C0 (hF' _ (by omega)))
        have E1 := hx'.get (st3 hx1 C1 (hF' _ (by omega)))
        have E2 := hx'.get (st3 hx1 C2 hq)
        have ew : IntKind.i64.wrap (j.at' + (k : Int)) = j.at' + k := wrap_i64 (by omega)
        simp only [insL, List.zip_cons_cons, List.zip_nil_right, go_sem, reduceIte, Nat.reduceEqDiff, Nat.reduceAdd, Nat.reduceLeDiff, Nat.reducePow, Nat.reduceDiv, Nat.reduceMod, decide_true, E0, E2, ew]
        refine wCall_use ⟨h4.1, h4.2 F (fun m => h'.length ≤ m) H' p d1 (j.at' + k) (rowJ j.epoch (j.count + 1) l k) b (hd1.up hx') (Own.rd _ (fun _ x => x) _ ho') (fun m hm x => by have := hF3 m x; have := hx1.1; omega) (by have := rowJ_le j.epoch (j.count + 1) l k; omega)⟩ ?_
        rintro _ H2 ⟨rfl, hd2', hx2⟩
        have Y2 : Ext F H3 H2 := (hx1.trans hx' (fun _ _ x => x) (fun _ _ x => x.elim)).trans hx2 (fun _ _ x => x) (fun _ _ x => x)
        have er2 : d.jrest j l (many l) 0 = if (d1.jwr j l k).2 = 0 then (d1.jwr j l k).1.jrest j l (many l - (k + 1)) (k + 1) else d1.jwr j l k := by
          rw [er, show many l - k = (many l - (k + 1)) + 1 by omega, jrest_step]
        have F1 := st3 Y2 C1 (hF' _ (by omega))
        have lF1 : n2 + 1 < H2.length := (List.getElem?_eq_some_iff.1 F1).1
        by_cases c3 : (d1.jwr j l k).2 = 0
        · rw [if_pos c3] at er2
          have c3' : (d1.write (j.at' + k) (rowJ j.epoch (j.count + 1) l k)).2 = 0 := c3
          simp only [go_sem, reduceIte, Nat.reduceEqDiff, Nat.reduceAdd, Nat.reduceLeDiff, Nat.reducePow, Nat.reduceDiv, Nat.reduceMod, decide_true, c3', decide_eq_true (Eq.refl (0 : Int)), Bool.not_true]
          exact hn' _ ((hJ _ _).2 ⟨_, hd2', Y2, er2, by omega⟩)
        · rw [if_neg c3] at er2
          have c3' : ¬ (d1.write (j.at' + k) (rowJ j.epoch (j.count + 1) l k)).2 = 0 := c3
          simp only [go_sem, reduceIte, Nat.reduceEqDiff, Nat.reduceAdd, Nat.reduceLeDiff, Nat.reducePow, Nat.reduceDiv, Nat.reduceMod, decide_true, decide_eq_false c3', Bool.not_false, F1, lF1]
          exact hs' _ _ ((hKs _ _).2 ⟨rfl, _, _, H2, c3, er2, hd2', Y2, rfl⟩)
      · intro h' hk
        obtain ⟨d1, hd1, hx1, er, -⟩ := (hJ _ _).1 hk
        rw [Nat.sub_self] at er
        have er : d.jrest j l (many l) 0 = (d1, 0) := er
        have E0 := st3 hx1 C0 (hF' _ (by omega))
        have E1 := st3 hx1 C1 (hF' _ (by omega))
        have E2 := st3 hx1 C2 hq
        have xa : Ext (fun m => F m ∨ m = q) H h' := XH.trans hx1 (fun _ _ x => x) (fun _ _ x => .inl x)
        unfold Dk.jdone
        rw [er, if_pos rfl]
        simp only [go_sem, reduceIte, Nat.reduceEqDiff, Nat.reduceAdd, Nat.reduceLeDiff, Nat.reducePow, Nat.reduceDiv, Nat.reduceMod, decide_true, E0, E2]
        refine wCall_use ⟨h5.1, h5.2 F h' p d1 hd1⟩ ?_
        rintro _ H4 ⟨rfl, hd4, hx4⟩
        have st4 : ∀ {m : Nat} {v : Option ABlk}, h'[m]? = some v → ¬ F m → H4[m]? = some v := fun hv hm => (hx4.2 _ (List.getElem?_eq_some_iff.1 hv).1 hm).trans hv
        have G0 := st4 E0 (hF' _ (by omega))
        have G1 := st4 E1 (hF' _ (by omega))
        have G2 := st4 E2 hq
        have xb : Ext (fun m => F m ∨ m = q) H H4 := xa.trans hx4 (fun _ _ x => x) (fun _ _ x => .inl x)
        by_cases c4 : d1.flush.2 = 0
        · have lq : q < H4.length := (List.getElem?_eq_some_iff.1 G2).1
          have l1 : n2 + 1 < H4.length := (List.getElem?_eq_some_iff.1 G1).1
          have l0 : n2 < H4.length := by omega
          have e2 : IntKind.i64.wrap (j.at' + (many l : Int)) = j.at' + many l := wrap_i64 (by omega)
          have q0 : ¬ q = n2 := by omega
          have q1 : ¬ q = n2 + 1 := by omega
          simp only [go_sem, reduceIte, Nat.reduceEqDiff, Nat.reduceAdd, Nat.reduceLeDiff, Nat.reducePow, Nat.reduceDiv, Nat.reduceMod, decide_true, c4, decide_eq_true (Eq.refl (0 : Int)), Bool.not_true, G0, G1, G2, e1, e2, lq, l0, l1, q0, q1, List.length_set, List.set_set]
          have wq : Ext (fun m => m = q) H4 (H4.set q (some (.arr 5 [jrowV p { j with at' := j.at' + many l, count := j.count + 1 }] false))) := Ext.set _ (fun _ => rfl)
          exact wr (H4.set q (some (.arr 5 [jrowV p { j with at' := j.at' + many l, count := j.count + 1 }] false))) p d1.flush.1 { j with at' := j.at' + many l, count := j.count + 1 } _
            (xb.trans wq (fun _ _ x => x) (fun _ _ x => .inr x)) (hd4.mono (fun _ x => x) (wq.keepOff (F' := F) fun m _ hm x => hq (x ▸ hm))) (List.getElem?_set_self lq)
        · have l1 : n2 + 1 < H4.length := (List.getElem?_eq_some_iff.1 G1).1
          simp only [go_sem, reduceIte, Nat.reduceEqDiff, Nat.reduceAdd, Nat.reduceLeDiff, Nat.reducePow, Nat.reduceDiv, Nat.reduceMod, decide_true, decide_eq_false c4, Bool.not_false, G1, l1]
          rw [if_neg c4]
          exact wr H4 p _ j _ xb hd4 G2
      · intro x h' hk
        obtain ⟨rfl, d1, er, h1', hne, hr, hd1, hx1, rfl⟩ := (hKs _ _).1 hk
        have E1 := st3 hx1 C1 (hF' _ (by omega))
        have E2 := st3 hx1 C2 hq
        have xa : Ext (fun m => F m ∨ m = q) H h1' := XH.trans hx1 (fun _ _ x => x) (fun _ _ x => .inl x)
        have lE : n2 + 1 < h1'.length := (List.getElem?_eq_some_iff.1 E1).1
        refine ⟨by simp, ?_⟩
        unfold Dk.jdone
        rw [hr, if_neg (by exact hne)]
        simp only [go_sem, reduceIte, Nat.reduceEqDiff, Nat.reduceAdd, Nat.reduceLeDiff, Nat.reducePow, Nat.reduceDiv, Nat.reduceMod, decide_true, lE]
        rw [if_neg (by exact hne)]
        exact wr h1' p d1 j _ xa hd1 E2

end Glb

/-
  Layer 7: what stands in a journal.
-/
namespace Glb
open Go
set_option maxRecDepth 10000
set_option maxHeartbeats 8000000

def JPieceOk (P : Program) (f : FuncId) : Prop := isFn P f = true ∧ ∀ (F : Nat → Prop) (h : AHeap) (p : Nat) (d : Dk) (i e c : Int), DiskAt F h p d → d.bts →
  ACalls P f [.ptr p 6 0 0, .int .i64 i, .int .i64 e, .int .i64 c] h fun r h' => (∃ b t ok, r = .tup [abytes b, .int .i64 t, .bool ok] ∧ d.pj i e c = (if ok then some (b, t) else none)) ∧ h' = h
def ScanOk (P : Program) (f : FuncId) : Prop := isFn P f = true ∧ ∀ (F : Nat → Prop) (h : AHeap) (p : Nat) (d : Dk) (a n e : Int), DiskAt F h p d → d.bts →
  ACalls P f [.ptr p 6 0 0, .int .i64 a, .int .i64 n, .int .i64 e] h fun r h' => r = .tup [arows (d.scan a n e).1, .int .i64 (d.scan a n e).2] ∧ h' = h

theorem jpiece_ok {P : Program} {f g1 g2 g3 : FuncId} (hf : Is P f (c_journal_piece g1 g2 g3)) (h1 : ReadDOk P g1) (h2 : ReadR P g2) (h3 : IntR P g3) : JPieceOk P f := by
  refine ⟨hf.2, fun F h p d i e c hd hb => ACalls.freeze (K := fun r h' => (∃ b t a ok, r = .tup [a, .int .i64 t, .bool ok] ∧ Own (dBytes b) (fun m => h.length ≤ m) h' a ∧ d.pj i e c = (if ok then some (b, t) else none)) ∧ Ext nof h h') (fun_sound hf.1 (Nat.le_of_ble_eq_true rfl) ?_) ?_⟩
  · show vc P (c_journal_piece g1 g2 g3).code ⟨[(0, .ptr p 6 0 0), (1, .int .i64 i), (2, .int .i64 e), (3, .int .i64 c)], [], h⟩ (atEnd (c_journal_piece g1 g2 g3).res _)
    simp only [c_journal_piece, go_sem, reduceIte, Nat.reduceEqDiff, Nat.reduceAdd, Nat.reduceLeDiff, Nat.reducePow, Nat.reduceDiv, Nat.reduceMod, decide_true]
    refine wCall_use ⟨h1.1, h1.2 F h p d i hd⟩ ?_
    rintro _ H ⟨a, rfl, ho, hx⟩
    unfold Dk.pj
    have hB := Dk.read_bytes hb i
    have hL := Dk.read_len8 hd.ok i
    generalize (d.read i).1 = b at *
    generalize (d.read i).2 = er at *
    have lb := (Own.rd (F := fun m => h.length ≤ m) _ (fun _ x => x) _ ho).bytes_len
    have no : ∀ {X : Option (List Int × Int)} {H' : AHeap}, X = none → (∃ b t a ok, AV.tup [.nils, .int .i64 0, .bool false] = .tup [a, .int .i64 t, .bool ok] ∧ Own (dBytes b) (fun m => h.length ≤ m) H' a ∧ X = (if ok then some (b, t) else none)) := fun hX => ⟨[], 0, .nils, false, rfl, Own.nils 1, hX⟩
    by_cases c0 : er = 0
    · subst c0
      rw [if_pos rfl]
      by_cases c1 : b.length < 24
      · have c1' : (b.length : Int) < 24 := by omega
        simp only [decide_eq_true (Eq.refl (0:Int)), Bool.not_true, go_sem, reduceIte, Nat.reduceEqDiff, Nat.reduceAdd, Nat.reduceLeDiff, Nat.reducePow, Nat.reduceDiv, Nat.reduceMod, decide_true, lb, decide_eq_true c1']
        exact ⟨no (by unfold pcJ; rw [if_neg (by omega)]), hx⟩
      · have c1' : ¬ (b.length : Int) < 24 := by omega
        simp only [decide_eq_true (Eq.refl (0:Int)), Bool.not_true, go_sem, reduceIte, Nat.reduceEqDiff, Nat.reduceAdd, Nat.reduceLeDiff, Nat.reducePow, Nat.reduceDiv, Nat.reduceMod, decide_true, lb, decide_eq_false c1']
        refine wCall_use ⟨h2.1, h2.2 _ H b a (Own.rd _ (fun _ x => x) _ ho) hB (by omega)⟩ ?_
        rintro _ H2 ⟨q, rfl, hq, hr, hx2⟩
        simp only [go_sem, reduceIte, Nat.reduceEqDiff, Nat.reduceAdd, Nat.reduceLeDiff, Nat.reducePow, Nat.reduceDiv, Nat.reduceMod, decide_true]
        refine wCall_use ⟨h3.1, h3.2 _ H2 q _ hr (by omega)⟩ ?_
        rintro _ H3 ⟨rfl, hr3, hx3⟩
        rw [rInt_some (l := b) (by omega)] at hr3 ⊢
        have hX3 : Ext nof h H3 := (hx.tr hx2).then hx3 (fun m hm hm' => by have := hx.1; omega)
        have hY3 : Ext nof H H3 := hx2.then hx3 (fun m hm hm' => by omega)
        have hpc : pcJ b e c = if valOf (b.take 8) = e ∧ valOf ((b.drop 8).take 8) = c then some (b.drop 24, valOf ((b.drop 16).take 8)) else none := by
          unfold pcJ
          simp only [show (24 ≤ b.length) = True from eq_true (by omega), true_and]
        rw [hpc]
        simp only at hr3 ⊢
        by_cases c2 : valOf (b.take 8) = e
        · simp only [go_sem, reduceIte, Nat.reduceEqDiff, Nat.reduceAdd, Nat.reduceLeDiff, Nat.reducePow, Nat.reduceDiv, Nat.reduceMod, decide_true, decide_eq_true c2, Bool.not_true]
          refine wCall_use ⟨h3.1, h3.2 _ H3 q _ hr3 (by omega)⟩ ?_
          rintro _ H4 ⟨rfl, hr4, hx4⟩
          rw [rInt_some (l := b.drop 8) (by simp; omega), List.drop_drop] at hr4 ⊢
          have hX4 : Ext nof h H4 := hX3.then hx4 (fun m hm hm' => by have := hx.1; omega)
          have hY4 : Ext nof H H4 := hY3.then hx4 (fun m hm hm' => by omega)
          simp only at hr4 ⊢
          by_cases c3 : valOf ((b.drop 8).take 8) = c
          · simp only [go_sem, reduceIte, Nat.reduceEqDiff, Nat.reduceAdd, Nat.reduceLeDiff, Nat.reducePow, Nat.reduceDiv, Nat.reduceMod, decide_true, decide_eq_true c3, Bool.not_true]
            refine wCall_use ⟨h3.1, h3.2 _ H4 q _ hr4 (by omega)⟩ ?_
            rintro _ H5 ⟨rfl, hr5, hx5⟩
            rw [rInt_some (l := b.drop (8 + 8)) (by simp; omega), List.drop_drop] at hr5 ⊢
            have hX5 : Ext nof h H5 := hX4.then hx5 (fun m hm hm' => by have := hx.1; omega)
            have hY5 : Ext nof H H5 := hY4.then hx5 (fun m hm hm' => by omega)
            obtain ⟨a5, s5, o5⟩ := own_from (ho.up hY5) (k := 24) (by omega) (by simp; omega)
            have o5' : Own (dBytes (b.drop 24)) (fun m => h.length ≤ m) H5 a5 := by simpa [dBytes, List.map_drop] using o5
            simp only [go_sem, reduceIte, Nat.reduceEqDiff, Nat.reduceAdd, Nat.reduceLeDiff, Nat.reducePow, Nat.reduceDiv, Nat.reduceMod, decide_true, aslc, s5]
            rw [if_pos ⟨c2, c3⟩]
            exact ⟨⟨b.drop 24, _, a5, true, rfl, o5', rfl⟩, hX5⟩
          · simp only [go_sem, reduceIte, Nat.reduceEqDiff, Nat.reduceAdd, Nat.reduceLeDiff, Nat.reducePow, Nat.reduceDiv, Nat.reduceMod, decide_true, decide_eq_false c3, Bool.not_false]
            exact ⟨no (if_neg (fun x => c3 x.2)), hX4⟩
        · simp only [go_sem, reduceIte, Nat.reduceEqDiff, Nat.reduceAdd, Nat.reduceLeDiff, Nat.reducePow, Nat.reduceDiv, Nat.reduceMod, decide_true, decide_eq_false c2, Bool.not_false]
          exact ⟨no (if_neg (fun x => c2 x.1)), hX3⟩
    · rw [if_neg c0]
      simp only [decide_eq_false c0, Bool.not_false, go_sem, reduceIte, Nat.reduceEqDiff, Nat.reduceAdd, Nat.reduceLeDiff, Nat.reducePow, Nat.reduceDiv, Nat.reduceMod, decide_true]
      exact ⟨no rfl, hx⟩
  · rintro r H ⟨⟨b, t, a, ok, rfl, ho, hq⟩, hx⟩
    refine ⟨hx, _, Frz.tup3 (Frz.d (Own.fz (dBytes _) (fun _ x => x) _ ho)) (Frz.int _ _) (Frz.bool _), b, t, ok, rfl, hq⟩

theorem jscan_ok {P : Program} {f g1 g2 : FuncId} (hf : Is P f (c_journal_Scan g1 g2)) (h1 : JRightOk P g1) (h2 : JPieceOk P g2) : ScanOk P f := by
  refine ⟨hf.2, fun F h p d a n e hd hb => ACalls.freeze (K := fun r h' => (∃ o, r = .tup [o, .int .i64 (d.scan a n e).2] ∧ Own (dRows (d.scan a n e).1) (fun m => h.length ≤ m) h' o) ∧ Ext nof h h') (fun_sound hf.1 (Nat.le_of_ble_eq_true rfl) ?_) ?_⟩
  · show vc P (c_journal_Scan g1 g2).code ⟨[(0, .ptr p 6 0 0), (1, .int .i64 a), (2, .int .i64 n), (3, .int .i64 e)], [], h⟩ (atEnd (c_journal_Scan g1 g2).res _)
    have hn := hd.ok.n
    simp only [c_journal_Scan, go_sem, reduceIte, Nat.reduceEqDiff, Nat.reduceAdd, Nat.reduceLeDiff, Nat.reducePow, Nat.reduceDiv, Nat.reduceMod, decide_true]
    refine use1 h1.1 (h1.2 F h p d a n e hd) ?_
    unfold Dk.scan
    by_cases c : d.jright a n e
    · have hc := c
      unfold Dk.jright maxNo at hc
      rw [if_pos c]
      simp only [go_sem, reduceIte, Nat.reduceEqDiff, Nat.reduceAdd, Nat.reduceLeDiff, Nat.reducePow, Nat.reduceDiv, Nat.reduceMod, decide_true, decide_eq_true c, Bool.not_true]
      generalize hg : (fun i c => d.pj i e c) = g at *
      obtain ⟨I, hI⟩ : ∃ I : Nat → Env → AHeap → Prop, ∀ m L h', I m L h' ↔ ∃ (i : Nat) (l : List (List Int)) (q : List Int) (k : Nat) (o pv : AV) (Hm : AHeap), lk 0 L = .ptr p 6 0 0 ∧ lk 1 L = .int .i64 a ∧ lk 2 L = .int .i64 n ∧ lk 3 L = .int .i64 e ∧ lk 10 L = o ∧ lk 11 L = pv ∧ lk 12 L = .int .i64 k ∧ lk 13 L = .int .i64 (a + i) ∧
        Own (dRows l) (fun m => h.length ≤ m) Hm o ∧ canApp Hm o ∧ Ext nof h Hm ∧ Ext nof Hm h' ∧ Own (dBytes q) (fun m => Hm.length ≤ m) h' pv ∧ canApp h' pv ∧ q.length ≤ 32768 ∧ k ≤ i ∧ l.length ≤ i ∧
        scanJ g (n.toNat - i) (a + i) l q k = scanJ g n.toNat a [] [] 0 ∧ i ≤ n.toNat ∧ m = n.toNat - i := ⟨_, fun _ _ _ => Iff.rfl⟩
      refine vc_loop I n.toNat ((hI _ _ _).2 ⟨0, [], [], 0, .nils, .nils, h, by simp [lk_ins, lk_cons], by simp [lk_ins, lk_cons], by simp [lk_ins, lk_cons], by simp [lk_ins, lk_cons], by simp [lk_ins, lk_cons], by simp [lk_ins, lk_cons], by simp [lk_ins, lk_cons], by simp [lk_ins, lk_cons], Own.nils 1, trivial, Ext.refl _ _, Ext.refl _ _, Own.nils 1, trivial, by simp, by omega, by simp, by simp, by omega, by omega⟩) ?_
      intro m L H hh
      obtain ⟨i, l, q, k, o, pv, Hm, k0, k1, k2, k3, k10, k11, k12, k13, ho, hco, hxm, hxh, hp, hcp, hql, hki, hli, hs, hi, rfl⟩ := (hI _ _ _).1 hh
      have e1 : IntKind.i64.wrap (a + n) = a + n := wrap_i64 (by omega)
      simp only [c_journal_Scan_l0, go_sem, reduceIte, Nat.reduceEqDiff, Nat.reduceAdd, Nat.reduceLeDiff, Nat.reducePow, Nat.reduceDiv, Nat.reduceMod, decide_true, k0, k1, k2, k3, k10, k11, k12, k13, e1]
      have fin : ∀ {ls : List (List Int)}, ls = l → ∃ o', AV.tup [o, .int .i64 0] = .tup [o', .int .i64 0] ∧ Own (dRows ls) (fun m => h.length ≤ m) H o' := fun h => ⟨o, rfl, h ▸ ho.up hxh⟩
      refine wCond_split (fun ci => ?_) (fun ci => ?_)
      · simp at ci
        have lo := (Own.rd (F := fun m => h.length ≤ m) _ (fun _ x => x) _ (ho.up hxh)).len
        simp only [List.length_map] at lo
        have e2 : IntKind.i64.wrap ((l.length : Int) + 1) = l.length + 1 := wrap_i64 (by omega)
        have e3 : IntKind.i64.wrap (2 * (k : Int)) = 2 * k := wrap_i64 (by omega)
        have e4 : IntKind.i64.wrap (2 * (k : Int) + 1) = 2 * k + 1 := wrap_i64 (by omega)
        have e5 : IntKind.i64.wrap (a + (i : Int) + 1) = a + ((i + 1 : Nat) : Int) := by rw [wrap_i64 (by omega)]; omega
        have e6 : IntKind.i64.wrap ((k : Int) + 1) = ((k + 1 : Nat) : Int) := by rw [wrap_i64 (by omega)]; omega
        simp only [go_sem, reduceIte, Nat.reduceEqDiff, Nat.reduceAdd, Nat.reduceLeDiff, Nat.reducePow, Nat.reduceDiv, Nat.reduceMod, decide_true, k0, k1, k2, k3, k10, k11, k12, k13, lo, e2]
        refine wCall_use ⟨h2.1, h2.2 F H p d (a + i) e (l.length + 1) (hd.up (hxm.tr hxh)) hb⟩ ?_
        rintro _ H' ⟨⟨b, t, ok, rfl, hpj⟩, hH⟩
        rw [hH]
        have hs' : scanJ g n.toNat a [] [] 0 = match d.pj (a + i) e (l.length + 1) with
            | none => l
            | some (b, tag) => if badJ q b k tag then l else if tag = 2 * k + 1 then scanJ g (n.toNat - (i + 1)) (a + i + 1) (l ++ [q ++ b]) [] 0 else scanJ g (n.toNat - (i + 1)) (a + i + 1) l (q ++ b) (k + 1) := by
          rw [← hs, show n.toNat - i = (n.toNat - (i + 1)) + 1 by omega, ← hg]; rfl
        rw [hpj] at hs'
        simp only [go_sem, reduceIte, Nat.reduceEqDiff, Nat.reduceAdd, Nat.reduceLeDiff, Nat.reducePow, Nat.reduceDiv, Nat.reduceMod, decide_true, k12, e3, e4]
        cases ok with
        | false =>
          simp only [go_sem, reduceIte, Nat.reduceEqDiff, Nat.reduceAdd, Nat.reduceLeDiff, Nat.reducePow, Nat.reduceDiv, Nat.reduceMod, decide_true, Bool.not_false, k10]
          exact ⟨fin (by simpa using hs'), hxm.tr hxh⟩
        | true =>
          simp only [Bool.false_eq_true, if_true] at hs'
          have hbl : b.length ≤ 40 := by
            unfold Dk.pj at hpj
            split at hpj
            · unfold pcJ at hpj
              split at hpj
              · have := Dk.read_len8 hd.ok (a + i)
                simp only [if_true, Option.some.injEq, Prod.mk.injEq] at hpj
                rw [← hpj.1, List.length_drop]; omega
              · simp at hpj
            · simp at hpj
          have lb := (rd_abytes nof H b).bytes_len
          have lp := (Own.rd (F := fun m => Hm.length ≤ m) _ (fun _ x => x) _ hp).bytes_len
          have es : IntKind.i64.wrap ((q.length : Int) + b.length) = q.length + b.length := wrap_i64 (by omega)
          obtain ⟨ys, hys, hyr⟩ := (rd_abytes nof H b).elems
          obtain ⟨pv2, H2, hap, hp2, hcp2, hxp⟩ := own_app (lo := Hm.length) (sz := 1) (bytes := 1) hp hcp (Ext.refl _ _) (own_ints1 hyr) hxh.1 (by simp; omega)
          have ha2 := aappend_of hys 1 pv
          rw [hap] at ha2
          have hp2' : Own (dBytes (q ++ b)) (fun m => Hm.length ≤ m) H2 pv2 := by simpa [dBytes] using hp2
          have hxh2 : Ext nof Hm H2 := hxh.then hxp (fun m hm hm' => by omega)
          by_cases c1 : t = 2 * k + 1
          · by_cases cb : badJ q b k t
            · rw [if_pos cb] at hs'
              by_cases c2 : 0 < (k : Int)
              · by_cases c3 : (b.length : Int) = 0
                · simp only [Bool.not_true, go_sem, reduceIte, Nat.reduceEqDiff, Nat.reduceAdd, Nat.reduceLeDiff, Nat.reducePow, Nat.reduceDiv, Nat.reduceMod, decide_true, k10, k11, k12, lb, lp, e3, e4, es, decide_eq_true c1, decide_eq_true c2, decide_eq_true c3]
                  exact ⟨fin hs', hxm.tr hxh⟩
                · have c4 : 32768 < (q.length : Int) + b.length := by unfold badJ at cb; omega
                  simp only [Bool.not_true, Bool.not_false, go_sem, reduceIte, Nat.reduceEqDiff, Nat.reduceAdd, Nat.reduceLeDiff, Nat.reducePow, Nat.reduceDiv, Nat.reduceMod, decide_true, k10, k11, k12, lb, lp, e3, e4, es, decide_eq_true c1, decide_eq_true c2, decide_eq_false c3, decide_eq_true c4]
                  exact ⟨fin hs', hxm.tr hxh⟩
              · have c4 : 32768 < (q.length : Int) + b.length := by unfold badJ at cb; omega
                simp only [Bool.not_true, Bool.not_false, go_sem, reduceIte, Nat.reduceEqDiff, Nat.reduceAdd, Nat.reduceLeDiff, Nat.reducePow, Nat.reduceDiv, Nat.reduceMod, decide_true, k10, k11, k12, lb, lp, e3, e4, es, decide_eq_true c1, decide_eq_false c2, decide_eq_true c4]
                exact ⟨fin hs', hxm.tr hxh⟩
            · rw [if_neg cb, if_pos c1] at hs'
              have c4 : ¬ 32768 < (q.length : Int) + b.length := by unfold badJ at cb; omega
              have B3 : (H2 ++ [some (ABlk.arr 1 [] false)])[H2.length]? = some (some (.arr 1 [] false)) := bx10 H2 _
              have X3 : Ext nof H2 (H2 ++ [some (ABlk.arr 1 [] false)]) := Ext.b1 _
              have zo : Own (.sl 1 []) (fun m => H2.length ≤ m) (H2 ++ [some (ABlk.arr 1 [] false)]) (.ref H2.length 1 0 0 (some 0)) := by
                simp only [Own]
                exact .inr (.inr ⟨_, 0, _, [], false, rfl, Nat.le_refl _, B3, by simp, (fun c hc => by cases hc; simp), by simp [OwnLL]⟩)
              have zc : canApp (H2 ++ [some (ABlk.arr 1 [] false)]) (.ref H2.length 1 0 0 (some 0)) := ⟨_, _, B3, fun _ => rfl, fun c hc => by cases hc; simp⟩
              obtain ⟨ys3, hys3, hyr3⟩ := ((Own.rd (F := fun m => Hm.length ≤ m) _ (fun _ x => x) _ hp2').up X3).elems
              obtain ⟨r3, H4, hap3, ho3, -, hx3⟩ := own_app (lo := H2.length) (sz := 1) (bytes := 1) zo zc (Ext.refl _ _) (own_ints1 hyr3) X3.1 (by simp; omega)
              have ha3 := aappend_of hys3 1 (.ref H2.length 1 0 0 (some 0))
              rw [hap3] at ha3
              have ho3' : Own (dBytes (q ++ b)) (fun m => H2.length ≤ m) H4 r3 := by simpa [dBytes] using ho3
              have hx4 : Ext nof Hm H4 := (hxh2.tr X3).then hx3 (fun m hm hm' => by have := hxh2.1; omega)
              have hx5 : Ext nof Hm (H4 ++ [some (.arr 1 [[r3]] false)]) := hx4.tr (Ext.b1 _)
              obtain ⟨o2, H5, hap5, ho5, hco5, hx6⟩ := own_app (bytes := 24) (es := [[dBytes (q ++ b)]]) (h := H4 ++ [some (.arr 1 [[r3]] false)]) ho hco hx5 (ys := [[r3]])
                (by
                  simp only [OwnLL, OwnL]
                  exact ⟨_, _, rfl, ⟨_, _, rfl, Own.mono _ (fun m hm => by have := hxh2.1; omega) (fun m hm y hy => (Ext.b1 _).get hy) _ ho3', rfl⟩, rfl⟩) hxm.1 (by simp; omega)
              have ho5' : Own (dRows (l ++ [q ++ b])) (fun m => h.length ≤ m) H5 o2 := by simpa [dRows] using ho5
              have ha5 : aappend (H4 ++ [some (.arr 1 [[r3]] false)]) 1 24 o (.ref H4.length 1 0 1 (some 1)) = some (o2, H5) := by
                rw [aappend_of (aelems_new H4 1 [[r3]] false (some 1) (len := 1) rfl)]; exact hap5
              have s3 := ho3'.scalar
              by_cases c2 : 0 < (k : Int)
              · have c3 : ¬ (b.length : Int) = 0 := by unfold badJ at cb; omega
                simp only [Bool.not_true, Bool.not_false, go_sem, reduceIte, Nat.reduceEqDiff, Nat.reduceAdd, Nat.reduceLeDiff, Nat.reducePow, Nat.reduceDiv, Nat.reduceMod, decide_true, k0, k1, k2, k3, k10, k11, k12, k13, lb, lp, e3, e4, e5, es, decide_eq_true c1, decide_eq_true c2, decide_eq_false c3, decide_eq_false c4, ha2, ha3, s3, cells_of s3, ha5]
                refine ⟨_, by omega, (hI _ _ _).2 ⟨i + 1, l ++ [q ++ b], [], 0, o2, .nils, H5, by simp [lk_ins, k0], by simp [lk_ins, k1], by simp [lk_ins, k2], by simp [lk_ins, k3], by simp [lk_ins], by simp [lk_ins], by simp [lk_ins], by simp [lk_ins], ho5', hco5, ?_, Ext.refl _ _, Own.nils 1, trivial, by simp, by omega, by simp; omega, ?_, by omega, rfl⟩⟩
                · exact (hxm.tr hx5).then hx6 (fun m hm hm' => by omega)
                · rw [hs']
                  congr 1
                  omega
              · have c3 : ¬ 0 < (k : Int) := c2
                simp only [Bool.not_true, Bool.not_false, go_sem, reduceIte, Nat.reduceEqDiff, Nat.reduceAdd, Nat.reduceLeDiff, Nat.reducePow, Nat.reduceDiv, Nat.reduceMod, decide_true, k0, k1, k2, k3, k10, k11, k12, k13, lb, lp, e3, e4, e5, es, decide_eq_true c1, decide_eq_false c2, decide_eq_false c3, decide_eq_false c4, ha2, ha3, s3, cells_of s3, ha5]
                refine ⟨_, by omega, (hI _ _ _).2 ⟨i + 1, l ++ [q ++ b], [], 0, o2, .nils, H5, by simp [lk_ins, k0], by simp [lk_ins, k1], by simp [lk_ins, k2], by simp [lk_ins, k3], by simp [lk_ins], by simp [lk_ins], by simp [lk_ins], by simp [lk_ins], ho5', hco5, ?_, Ext.refl _ _, Own.nils 1, trivial, by simp, by omega, by simp; omega, ?_, by omega, rfl⟩⟩
                · exact (hxm.tr hx5).then hx6 (fun m hm hm' => by omega)
                · rw [hs']
                  congr 1
                  omega
          · by_cases c2 : t = 2 * (k : Int)
            · by_cases c3 : (b.length : Int) = 40
              · by_cases c4 : 32768 < (q.length : Int) + b.length
                · simp only [Bool.not_true, Bool.not_false, go_sem, reduceIte, Nat.reduceEqDiff, Nat.reduceAdd, Nat.reduceLeDiff, Nat.reducePow, Nat.reduceDiv, Nat.reduceMod, decide_true, k10, k11, k12, lb, lp, e3, e4, es, decide_eq_false c1, decide_eq_true c2, decide_eq_true c3, decide_eq_true c4]
                  rw [if_pos (show badJ q b k t by unfold badJ; omega)] at hs'
                  exact ⟨fin hs', hxm.tr hxh⟩
                · rw [if_neg (show ¬ badJ q b k t by unfold badJ; omega), if_neg c1] at hs'
                  simp only [Bool.not_true, Bool.not_false, go_sem, reduceIte, Nat.reduceEqDiff, Nat.reduceAdd, Nat.reduceLeDiff, Nat.reducePow, Nat.reduceDiv, Nat.reduceMod, decide_true, k0, k1, k2, k3, k10, k11, k12, k13, lb, lp, e3, e4, e5, e6, es, decide_eq_false c1, decide_eq_true c2, decide_eq_true c3, decide_eq_false c4, ha2]
                  refine ⟨_, by omega, (hI _ _ _).2 ⟨i + 1, l, q ++ b, k + 1, o, pv2, Hm, by simp [lk_ins, k0], by simp [lk_ins, k1], by simp [lk_ins, k2], by simp [lk_ins, k3], by simp [lk_ins, k10], by simp [lk_ins], by simp [lk_ins], by simp [lk_ins], ho, hco, hxm, hxh2, hp2', hcp2, by simp; omega, by omega, by omega, ?_, by omega, rfl⟩⟩
                  rw [hs']
                  congr 1
                  omega
              · simp only [Bool.not_true, Bool.not_false, go_sem, reduceIte, Nat.reduceEqDiff, Nat.reduceAdd, Nat.reduceLeDiff, Nat.reducePow, Nat.reduceDiv, Nat.reduceMod, decide_true, k10, k11, k12, lb, lp, e3, e4, es, decide_eq_false c1, decide_eq_true c2, decide_eq_false c3]
                rw [if_pos (show badJ q b k t by unfold badJ; omega)] at hs'
                exact ⟨fin hs', hxm.tr hxh⟩
            · simp only [Bool.not_true, Bool.not_false, go_sem, reduceIte, Nat.reduceEqDiff, Nat.reduceAdd, Nat.reduceLeDiff, Nat.reducePow, Nat.reduceDiv, Nat.reduceMod, decide_true, k10, k11, k12, lb, lp, e3, e4, es, decide_eq_false c1, decide_eq_false c2]
              rw [if_pos (show badJ q b k t by unfold badJ; omega)] at hs'
              exact ⟨fin hs', hxm.tr hxh⟩
      · simp at ci
        have : i = n.toNat := by omega
        subst this
        simp only [go_sem, reduceIte, Nat.reduceEqDiff, Nat.reduceAdd, Nat.reduceLeDiff, Nat.reducePow, Nat.reduceDiv, Nat.reduceMod, decide_true, k10]
        rw [Nat.sub_self] at hs
        have hs : l = scanJ g n.toNat a [] [] 0 := hs
        exact ⟨fin hs.symm, hxm.tr hxh⟩
    · rw [if_neg c]
      simp only [go_sem, reduceIte, Nat.reduceEqDiff, Nat.reduceAdd, Nat.reduceLeDiff, Nat.reducePow, Nat.reduceDiv, Nat.reduceMod, decide_true, decide_eq_false c, Bool.not_false]
      exact ⟨⟨_, rfl, Own.nils 1⟩, Ext.refl _ _⟩
  · rintro r H ⟨⟨o, rfl, ho⟩, hx⟩
    exact ⟨hx, _, Frz.tup2 (Frz.d (Own.fz (dRows _) (fun _ x => x) _ ho)) (Frz.int _ _), rfl⟩

end Glb

/-
  Layer 7: what an Append leaves, and what a Scan tells of it, in plain lists.
-/
namespace Glb
open Go
set_option maxRecDepth 10000
set_option maxHeartbeats 4000000

/-! one sector -/

def pjS (s : Option Sec) (e c : Int) : Option (List Int × Int) := if (readL s).2 = 0 then pcJ (readL s).1 e c else none
/-- of no epoch from e on -/
def eld (e : Int) (s : Option Sec) : Prop := ∀ x, s = some x → x.torn = true ∨ valOf (x.b.take 8) < e
theorem eld.none {e e' : Int} {s : Option Sec} (h : eld e s) (he : e ≤ e') (h1 : 1 ≤ e') (c : Int) : pjS s e' c = none := by
  unfold pjS pcJ
  cases s with
  | none => simp [readL]
  | some x =>
    obtain ⟨no, b, tn⟩ := x
    have t := h _ rfl
    cases tn
    · simp only [Bool.false_eq_true, false_or] at t
      simp only [readL, Bool.false_eq_true, if_false, if_true]
      rw [if_neg (fun q => by have := q.2.1; omega)]
    · simp [readL]
theorem eld.up {e e' : Int} {s : Option Sec} (h : eld e s) (he : e ≤ e') : eld e' s := fun x hx => (h x hx).imp id (fun t => by omega)
theorem eld_none (e : Int) : eld e none := fun x hx => by cases hx
theorem eld_torn (e i : Int) : eld e (some ⟨i, [], true⟩) := fun x hx => by cases hx; exact .inl rfl

theorem rowJ_take (e c : Int) (p : List Int) (k : Nat) : (rowJ e c p k).take 8 = num e := List.take_left' (num_length e)
theorem eld_row {e c i : Int} {p : List Int} {k : Nat} (he : 1 ≤ e ∧ e ≤ maxNo) : eld (e + 1) (some ⟨i, rowJ e c p k, false⟩) := fun x hx => by
  cases hx
  right
  rw [rowJ_take, valOf_num (by unfold i64ok; unfold maxNo at he; omega)]
  omega

theorem pjS_row {e c i : Int} {p : List Int} {k : Nat} (he : 1 ≤ e ∧ e ≤ maxNo) (hc : 0 ≤ c ∧ c ≤ maxNo) (hk : k < many p) (hp : p.length ≤ 32768) :
    pjS (some ⟨i, rowJ e c p k, false⟩) e c = some (cutAt p k, 2 * (k : Int) + if k + 1 = many p then 1 else 0) := by
  have hm : i64ok (2 * (k : Int) + if k + 1 = many p then 1 else 0) := by unfold i64ok; unfold many at *; split <;> omega
  have h0 : i64ok e := by unfold i64ok; unfold maxNo at he; omega
  have h1 : i64ok c := by unfold i64ok; unfold maxNo at hc; omega
  have e2 : (rowJ e c p k).drop 8 = num c ++ (num (2 * k + if k + 1 = many p then 1 else 0) ++ cutAt p k) := List.drop_left' (num_length e)
  have e3 : (rowJ e c p k).drop 16 = num (2 * k + if k + 1 = many p then 1 else 0) ++ cutAt p k := by
    rw [show (16 : Nat) = 8 + 8 from rfl, ← List.drop_drop, e2]; exact List.drop_left' (num_length c)
  have e4 : (rowJ e c p k).drop 24 = cutAt p k := by
    rw [show (24 : Nat) = 16 + 8 from rfl, ← List.drop_drop, e3]; exact List.drop_left' (num_length _)
  have e5 : (num c ++ (num (2 * (k : Int) + if k + 1 = many p then 1 else 0) ++ cutAt p k)).take 8 = num c := List.take_left' (num_length c)
  have e6 : (num (2 * (k : Int) + if k + 1 = many p then 1 else 0) ++ cutAt p k).take 8 = num (2 * k + if k + 1 = many p then 1 else 0) := List.take_left' (num_length _)
  unfold pjS pcJ
  simp only [readL, Bool.false_eq_true, if_false, if_true]
  rw [rowJ_take, e2, e3, e4, e5, e6, valOf_num h0, valOf_num h1, valOf_num hm, if_pos ⟨by rw [rowJ_len]; omega, rfl, rfl⟩]

/-! Scan -/

theorem scanJ_congr {g g' : Int → Int → Option (List Int × Int)} : ∀ (m : Nat) (i : Int) (l : List (List Int)) (p : List Int) (k : Nat), (∀ x c, i ≤ x → x < i + m → g x c = g' x c) → scanJ g m i l p k = scanJ g' m i l p k
  | 0, _, _, _, _, _ => rfl
  | m + 1, i, l, p, k, h => by
    simp only [scanJ, h i _ (by omega) (by omega)]
    split
    · rfl
    · split
      · rfl
      · split
        · exact scanJ_congr m _ _ _ _ fun x c h1 h2 => h x c (by omega) (by omega)
        · exact scanJ_congr m _ _ _ _ fun x c h1 h2 => h x c (by omega) (by omega)

variable {G : Int → Option Sec} {e : Int}

theorem scan_stop {i : Int} {l : List (List Int)} {p : List Int} {k : Nat} (h : ∀ c, pjS (G i) e c = none) (m : Nat) : scanJ (fun i c => pjS (G i) e c) m i l p k = l := by
  cases m with
  | zero => rfl
  | succ m => simp only [scanJ, h]

theorem take_cut (p : List Int) (k : Nat) : p.take (40 * k) ++ cutAt p k = p.take (40 * (k + 1)) := by
  unfold cutAt
  rw [show 40 * (k + 1) = 40 * k + 40 by omega, List.take_add]
theorem take_many {p : List Int} {k : Nat} (h : k + 1 = many p) : p.take (40 * (k + 1)) = p := List.take_of_length_le (by unfold many at h; omega)

theorem scan_step {i : Int} {l : List (List Int)} {p : List Int} {k : Nat} (he : 1 ≤ e ∧ e ≤ maxNo) (hl : (l.length : Int) + 1 ≤ maxNo) (hk : k < many p) (hp : p.length ≤ 32768) (hG : G i = some ⟨i, rowJ e (l.length + 1) p k, false⟩) (m : Nat) :
    scanJ (fun i c => pjS (G i) e c) (m + 1) i l (p.take (40 * k)) k = if k + 1 = many p then scanJ (fun i c => pjS (G i) e c) m (i + 1) (l ++ [p]) [] 0 else scanJ (fun i c => pjS (G i) e c) m (i + 1) l (p.take (40 * (k + 1))) (k + 1) := by
  simp only [scanJ, hG]
  rw [pjS_row he (by omega) hk hp]
  simp only
  have hlen : (p.take (40 * k)).length + (cutAt p k).length ≤ p.length := by
    rw [← List.length_append, take_cut, List.length_take]; omega
  by_cases c : k + 1 = many p
  · have hcl : 0 < k → (cutAt p k).length ≠ 0 := by intro h0; unfold cutAt; rw [List.length_take, List.length_drop]; unfold many at c; omega
    rw [if_pos c, if_pos c, if_neg (by unfold badJ; omega), if_pos rfl, take_cut, take_many c]
  · have hcl : (cutAt p k).length = 40 := cut_full (by omega)
    rw [if_neg c, if_neg c, if_neg (by unfold badJ; omega), if_neg (by omega), take_cut]

/-- sectors k .. t of a record -/
theorem scan_part {i : Int} {l : List (List Int)} {p : List Int} (he : 1 ≤ e ∧ e ≤ maxNo) (hl : (l.length : Int) + 1 ≤ maxNo) (hp : p.length ≤ 32768) (m : Nat) : ∀ (n k : Nat), k + n < many p → (∀ q : Nat, k ≤ q → q < k + n → G (i + q) = some ⟨i + q, rowJ e (l.length + 1) p q, false⟩) →
    scanJ (fun i c => pjS (G i) e c) (m + n) (i + k) l (p.take (40 * k)) k = scanJ (fun i c => pjS (G i) e c) m (i + (k + n : Nat)) l (p.take (40 * (k + n))) (k + n)
  | 0, k, _, _ => rfl
  | n + 1, k, h, hG => by
    rw [show m + (n + 1) = (m + n) + 1 by omega, scan_step he hl (by omega) hp (hG k (by omega) (by omega)), if_neg (by omega), show i + (k : Int) + 1 = i + (k + 1 : Nat) by omega,
      scan_part he hl hp m n (k + 1) (by omega) fun q h1 h2 => hG q (by omega) (by omega), show k + 1 + n = k + (n + 1) by omega]
/-- a whole record -/
theorem scan_rec {i : Int} {l : List (List Int)} {p : List Int} (he : 1 ≤ e ∧ e ≤ maxNo) (hl : (l.length : Int) + 1 ≤ maxNo) (hp : p.length ≤ 32768) (hG : ∀ q : Nat, q < many p → G (i + q) = some ⟨i + q, rowJ e (l.length + 1) p q, false⟩) (m : Nat) :
    scanJ (fun i c => pjS (G i) e c) (m + many p) i l [] 0 = scanJ (fun i c => pjS (G i) e c) m (i + many p) (l ++ [p]) [] 0 := by
  have mp := many_pos p
  have h := scan_part (G := G) (i := i) he hl hp (m + 1) (many p - 1) 0 (by omega) fun q h1 h2 => hG q (by omega)
  rw [show m + 1 + (many p - 1) = m + many p by omega, show i + ((0 : Nat) : Int) = i by omega] at h
  simp only [Nat.mul_zero, List.take_zero, Nat.zero_add] at h
  rw [h, scan_step he hl (by omega) hp (hG _ (by omega)), if_pos (by omega)]
  congr 1
  omega
/-- a record that is cut off -/
theorem scan_cut {i : Int} {l : List (List Int)} {p : List Int} (he : 1 ≤ e ∧ e ≤ maxNo) (hl : (l.length : Int) + 1 ≤ maxNo) (hp : p.length ≤ 32768) {t : Nat} (ht : t < many p) (hG : ∀ q : Nat, q < t → G (i + q) = some ⟨i + q, rowJ e (l.length + 1) p q, false⟩)
    (hs : ∀ c, pjS (G (i + t)) e c = none) (m : Nat) : scanJ (fun i c => pjS (G i) e c) m i l [] 0 = l := by
  by_cases c : t ≤ m
  · obtain ⟨m', rfl⟩ : ∃ m', m = m' + t := ⟨m - t, by omega⟩
    have h := scan_part (G := G) (i := i) he hl hp m' t 0 (by omega) fun q h1 h2 => hG q (by omega)
    simp only [Nat.mul_zero, List.take_zero, Nat.zero_add, Int.ofNat_zero, Int.add_zero, Int.natCast_zero] at h
    rw [h]
    exact scan_stop hs m'
  · have h := scan_part (G := G) (i := i) he hl hp 0 m 0 (by omega) fun q h1 h2 => hG q (by omega)
    simp only [Nat.mul_zero, List.take_zero, Nat.zero_add, Int.ofNat_zero, Int.add_zero, Int.natCast_zero] at h
    rw [h]
    rfl

/-- records that stand one behind the other, the first one's number c -/
def Held (G : Int → Option Sec) (e : Int) : Int → Nat → List (List Int) → Int → Prop
  | i, _, [], i' => i' = i
  | i, c, p :: R, i' => (∀ k : Nat, k < many p → G (i + k) = some ⟨i + k, rowJ e (c + 1) p k, false⟩) ∧ Held G e (i + many p) (c + 1) R i'

theorem Held.le : ∀ {R : List (List Int)} {i i' : Int} {c : Nat}, Held G e i c R i' → i + R.length ≤ i'
  | [], i, i', c, h => by simp only [Held] at h; simp [h]
  | p :: R, i, i', c, h => by have := Held.le h.2; have := many_pos p; simp only [List.length_cons]; omega
theorem Held.snoc {p : List Int} : ∀ {R : List (List Int)} {i i' : Int} {c : Nat}, Held G e i c R i' → (∀ k : Nat, k < many p → G (i' + k) = some ⟨i' + k, rowJ e ((c + R.length : Nat) + 1) p k, false⟩) → Held G e i c (R ++ [p]) (i' + many p)
  | [], i, i', c, h, hp => by simp only [Held] at h; subst h; exact ⟨by simpa using hp, rfl⟩
  | q :: R, i, i', c, h, hp => ⟨h.1, Held.snoc h.2 fun k hk => by rw [hp k hk, List.length_cons, show c + (R.length + 1) = c + 1 + R.length by omega]⟩
theorem Held.congr {G' : Int → Option Sec} : ∀ {R : List (List Int)} {i i' : Int} {c : Nat}, Held G e i c R i' → (∀ j, i ≤ j → j < i' → G' j = G j) → Held G' e i c R i'
  | [], i, i', c, h, hg => h
  | p :: R, i, i', c, h, hg => by
    have := Held.le h.2
    refine ⟨fun k hk => by rw [hg _ (by omega) (by omega)]; exact h.1 k hk, Held.congr h.2 fun j h1 h2 => hg j (by have := many_pos p; omega) h2⟩
theorem Held.eld (he : 1 ≤ e ∧ e ≤ maxNo) : ∀ {R : List (List Int)} {i i' : Int} {c : Nat}, Held G e i c R i' → ∀ j, i ≤ j → j < i' → eld (e + 1) (G j)
  | [], i, i', c, h, j, h1, h2 => by simp only [Held] at h; omega
  | p :: R, i, i', c, h, j, h1, h2 => by
    by_cases q : j < i + many p
    · obtain ⟨k, rfl⟩ : ∃ k : Nat, j = i + k := ⟨(j - i).toNat, by omega⟩
      rw [h.1 k (by omega)]
      exact eld_row he
    · exact Held.eld he h.2 j (by omega) h2
theorem Held.scan (he : 1 ≤ e ∧ e ≤ maxNo) (m : Nat) {R : List (List Int)} : ∀ {i i' : Int} {l : List (List Int)}, Held G e i l.length R i' → (∀ p ∈ R, p.length ≤ 32768) → (l.length : Int) + R.length ≤ maxNo →
    scanJ (fun i c => pjS (G i) e c) (m + (i' - i).toNat) i l [] 0 = scanJ (fun i c => pjS (G i) e c) m i' (l ++ R) [] 0 := by
  induction R with
  | nil => intro i i' l h _ _; simp only [Held] at h; subst h; simp
  | cons p R ih =>
    intro i i' l h hR hl
    have h1 := Held.le h.2
    simp only [List.length_cons] at hl
    have h2 := ih (i := i + many p) (i' := i') (l := l ++ [p]) (by simpa using h.2) (fun q hq => hR q (List.mem_cons_of_mem _ hq)) (by simp; omega)
    rw [show m + (i' - i).toNat = (m + (i' - (i + many p)).toNat) + many p by omega, scan_rec he (by omega) (hR p (by simp)) h.1, h2]
    simp

end Glb

/-
  Layer 7: an Append onto a disk of which all lasts; a crash amid one.
-/
namespace Glb
open Go
set_option maxRecDepth 10000
set_option maxHeartbeats 4000000

theorem Dk.jrest_cases {p : List Int} {j : Jn} : ∀ (m k : Nat) {d : Dk}, d.off = false → rises d.cache → 0 ≤ j.at' + k → j.at' + k + m ≤ d.n →
    (∃ d', d.jrest j p m k = (d', 0) ∧ d'.n = d.n ∧ d'.off = false ∧ d'.lasts = d.lasts ∧ rises d'.cache ∧ (d.left < 0 → d'.left < 0) ∧
      (∀ q : Nat, k ≤ q → q < k + m → sfind d'.cache (j.at' + q) = some ⟨j.at' + q, rowJ j.epoch (j.count + 1) p q, false⟩) ∧ ∀ i, ¬ (j.at' + k ≤ i ∧ i < j.at' + k + m) → sfind d'.cache i = sfind d.cache i) ∨
    (∃ d', d.jrest j p m k = (d', 10) ∧ 0 ≤ d.left ∧ d'.n = d.n ∧ d'.off = true ∧ d'.lasts = d.lasts ∧ rises d'.cache ∧
      (∀ q : Nat, k ≤ q → q < k + m → sfind d'.cache (j.at' + q) = sfind d.cache (j.at' + q) ∨ sfind d'.cache (j.at' + q) = some ⟨j.at' + q, rowJ j.epoch (j.count + 1) p q, false⟩) ∧ ∀ i, ¬ (j.at' + k ≤ i ∧ i < j.at' + k + m) → sfind d'.cache i = sfind d.cache i)
  | 0, k, d, ho, hr, h0, hn => .inl ⟨d, rfl, rfl, ho, rfl, hr, fun x => x, fun q h1 h2 => by omega, fun _ _ => rfl⟩
  | m + 1, k, d, ho, hr, h0, hn => by
    have hw := Dk.write_cases ho (i := j.at' + k) ⟨h0, by omega⟩ (rowJ_le j.epoch (j.count + 1) p k)
    simp only [Dk.jrest]
    rcases hw with ⟨d1, w1, w2, w3, w4, w5, w6⟩ | ⟨d1, w1, w2, w3, w4, w5, w6⟩
    · rw [show d.jwr j p k = (d1, 0) from w1, if_pos rfl]
      have hr1 : rises d1.cache := by rw [w5]; exact rises_sput hr _
      have f1 : ∀ i, sfind d1.cache i = if i = j.at' + k then some ⟨j.at' + k, rowJ j.epoch (j.count + 1) p k, false⟩ else sfind d.cache i := fun i => by rw [w5, sfind_sput hr]
      rcases Dk.jrest_cases (p := p) (j := j) m (k + 1) (d := d1) w3 hr1 (by omega) (by omega) with ⟨d', r1, r2, r3, r4, r5, r6, r8, r9⟩ | ⟨d', r1, r2, r3, r4, r5, r6, r7, r8⟩
      · refine .inl ⟨d', r1, r2.trans w2, r3, r4.trans w4, r5, fun x => r6 (w6 x), fun q h1 h2 => ?_, fun i hi => ?_⟩
        · by_cases c : q = k
          · subst c
            rw [r9 _ (by omega), f1, if_pos rfl]
          · exact r8 q (by omega) (by omega)
        · rw [r9 _ (by omega), f1, if_neg (by omega)]
      · refine .inr ⟨d', r1, ?_, r3.trans w2, r4, r5.trans w4, r6, fun q h1 h2 => ?_, fun i hi => ?_⟩
        · by_cases c : d.left < 0
          · have := w6 c; omega
          · omega
        · by_cases c : q = k
          · subst c
            rw [r8 _ (by omega), f1, if_pos rfl]
            exact .inr rfl
          · rcases r7 q (by omega) (by omega) with h | h
            · rw [h, f1, if_neg (by omega)]; exact .inl rfl
            · exact .inr h
        · rw [r8 _ (by omega), f1, if_neg (by omega)]
    · rw [show d.jwr j p k = (d1, 10) from w1, if_neg (by simp)]
      exact .inr ⟨d1, rfl, w6, w2, w3, w4, by rw [w5]; exact hr, fun q _ _ => .inl (by rw [w5]), fun i _ => by rw [w5]⟩

theorem Dk.jrest_ok {j : Jn} {p : List Int} : ∀ (m k : Nat) {d : Dk}, d.ok → (d.jrest j p m k).1.ok
  | 0, _, _, h => h
  | m + 1, k, d, h => by
    have hw : (d.jwr j p k).1.ok := Dk.write_ok h _ _
    simp only [Dk.jrest]
    split
    · exact Dk.jrest_ok m (k + 1) hw
    · exact hw
theorem Dk.jrest_bts {j : Jn} {p : List Int} (hp : bytesOk p) : ∀ (m k : Nat) {d : Dk}, d.bts → (d.jrest j p m k).1.bts
  | 0, _, _, h => h
  | m + 1, k, d, h => by
    have hw : (d.jwr j p k).1.bts := Dk.write_bts h _ (rowJ_bytes hp _ _ _)
    simp only [Dk.jrest]
    split
    · exact Dk.jrest_bts hp m (k + 1) hw
    · exact hw
theorem Dk.jdone_ok {d : Dk} (h : d.ok) (j : Jn) (p : List Int) : (d.jdone j p).1.ok := by
  unfold Dk.jdone
  split
  · exact Dk.flush_ok (Dk.jrest_ok _ _ h)
  · exact Dk.jrest_ok _ _ h
theorem Dk.jdone_bts {d : Dk} (h : d.bts) (j : Jn) {p : List Int} (hp : bytesOk p) : (d.jdone j p).1.bts := by
  unfold Dk.jdone
  split
  · exact Dk.flush_bts (Dk.jrest_bts hp _ _ h)
  · exact Dk.jrest_bts hp _ _ h

/-- what a crash leaves of a sector -/
theorem crash_some (d : Dk) (how : List Int) (hc : rises d.cache) (hl : rises d.lasts) {i : Int} {s : Sec} (hs : sfind d.cache i = some s) :
    (d.crash how).last i = d.last i ∨ (d.crash how).last i = some s ∨ (d.crash how).last i = some ⟨i, [], true⟩ := by
  obtain ⟨hm, hn⟩ := sfind_some hs
  obtain ⟨j, hj, e⟩ := List.mem_iff_getElem.1 hm
  have := crashed_in (how := how) hc hl hj
  rw [e, hn] at this
  show sfind (crashed d.cache how d.lasts) i = _ ∨ sfind (crashed d.cache how d.lasts) i = _ ∨ sfind (crashed d.cache how d.lasts) i = _
  rw [this]
  unfold cwant
  split
  · exact .inl rfl
  · split
    · exact .inl rfl
    · split
      · exact .inr (.inl rfl)
      · rw [hn]; exact .inr (.inr rfl)

/-- a disk of which all lasts: from a on the records R of the epoch e stand, up to i; of no epoch from e on is what stands behind, up to a + n -/
structure JS (d : Dk) (a n e : Int) (R : List (List Int)) (i : Int) : Prop where
  ok : d.ok
  bts : d.bts
  cache : d.cache = []
  pl : 0 ≤ a ∧ 1 ≤ n ∧ a + n ≤ d.n
  ep : 1 ≤ e ∧ e ≤ maxNo
  held : Held d.last e a 0 R i
  le : i ≤ a + n
  eld : ∀ x, i ≤ x → x < a + n → eld e (d.last x)
  small : ∀ p ∈ R, p.length ≤ 32768

theorem JS.right {d a n e R i} (h : JS d a n e R i) : d.jright a n e := ⟨h.pl.1, h.pl.2.1, h.pl.2.2, h.ep⟩
theorem JS.len {d a n e R i} (h : JS d a n e R i) : a + R.length ≤ i ∧ (R.length : Int) ≤ 16384 := by
  have := h.held.le; have := h.le; have := h.pl; have := h.ok.n; omega
theorem JS.elds {d a n e R i} (h : JS d a n e R i) : ∀ x, a ≤ x → x < a + n → Glb.eld (e + 1) (d.last x) := fun x h1 h2 => by
  by_cases c : x < i
  · exact h.held.eld h.ep x h1 c
  · exact (h.eld x (by omega) h2).up (by omega)

theorem Dk.pj_last {d : Dk} (hc : d.cache = []) {i : Int} (hi : 0 ≤ i ∧ i < d.n) (e c : Int) : d.pj i e c = pjS (d.last i) e c := by
  unfold Dk.pj pjS; rw [Dk.read_last hc hi]
theorem Dk.scan_last {d : Dk} (hc : d.cache = []) {a n e : Int} (hr : d.jright a n e) : d.scan a n e = (scanJ (fun i c => pjS (d.last i) e c) n.toNat a [] [] 0, 0) := by
  unfold Dk.scan
  rw [if_pos hr]
  obtain ⟨h1, h2, h3, -⟩ := hr
  rw [scanJ_congr n.toNat a [] [] 0 fun x c h4 h5 => Dk.pj_last hc (by omega) e c]

theorem JS.scan {d a n e R i} (h : JS d a n e R i) : d.scan a n e = (R, 0) := by
  rw [Dk.scan_last h.cache h.right]
  have h1 := h.held.le
  have h2 := h.le
  have h3 := h.len
  have := h.held.scan (l := []) h.ep (n.toNat - (i - a).toNat) h.small (by simp only [List.length_nil]; unfold maxNo; omega)
  rw [show n.toNat - (i - a).toNat + (i - a).toNat = n.toNat by omega] at this
  rw [this, List.nil_append]
  by_cases c : i < a + n
  · rw [scan_stop fun c' => (h.eld i (by omega) c).none (by omega) h.ep.1 c']
  · rw [show n.toNat - (i - a).toNat = 0 by omega]; rfl
/-- nothing of an epoch that was not used -/
theorem scan_elds {d : Dk} {a n e : Int} (hc : d.cache = []) (hr : d.jright a n e) (h : eld e (d.last a)) : d.scan a n e = ([], 0) := by
  rw [Dk.scan_last hc hr]
  obtain ⟨h1, h2, h3, h4, h5⟩ := hr
  rw [scan_stop fun c => h.none (by omega) h4 c]

/-- the journal that goes on there -/
def jof (a n e : Int) (R : List (List Int)) (i : Int) : Jn := ⟨i, a + n, e, R.length⟩
theorem JS.append {d a n e R i} (h : JS d a n e R i) (ho : d.off = false) {p : List Int} (hp : p.length ≤ 32768) (hb : bytesOk p) :
    (a + n - i < many p ∧ d.japp (jof a n e R i) p = (d, jof a n e R i, 8)) ∨
    (many p ≤ a + n - i ∧ ∃ d', d.japp (jof a n e R i) p = (d', jof a n e (R ++ [p]) (i + many p), 0) ∧ JS d' a n e (R ++ [p]) (i + many p) ∧ d'.off = false ∧ d'.n = d.n ∧ (d.left < 0 → d'.left < 0)) ∨
    (many p ≤ a + n - i ∧ ∃ d', d.japp (jof a n e R i) p = (d', jof a n e R i, 10) ∧ d'.ok ∧ d'.bts ∧ d'.off = true ∧ d'.n = d.n ∧ 0 ≤ d.left ∧ ∀ how, ((d'.crash how).scan a n e = (R, 0) ∨ (d'.crash how).scan a n e = (R ++ [p], 0)) ∧ ∀ x, a ≤ x → x < a + n → Glb.eld (e + 1) ((d'.crash how).last x)) := by
  have hlen := h.len
  have hpl := h.pl
  have hle := h.le
  have mp := many_pos p
  unfold Dk.japp
  rw [if_neg (by omega)]
  by_cases c1 : (jof a n e R i).fin - (jof a n e R i).at' < many p
  · rw [if_pos c1]; exact .inl ⟨c1, rfl⟩
  · rw [if_neg c1]
    right
    have c2 : (many p : Int) ≤ a + n - i := by simp only [jof] at c1; omega
    have hok := Dk.jdone_ok h.ok (jof a n e R i) p
    have hbt := Dk.jdone_bts h.bts (jof a n e R i) hb
    have hr0 : rises d.cache := by rw [h.cache]; exact .nil
    have hrl := h.ok.lasts.1
    have c0 : ∀ x, sfind d.cache x = none := fun x => by rw [h.cache]; rfl
    -- what becomes of a disk with some of the sectors in its cache
    have amid : ∀ d' : Dk, d'.ok → d'.bts → d'.n = d.n → d'.lasts = d.lasts → rises d'.cache → (∀ q : Nat, q < many p → sfind d'.cache (i + q) = none ∨ sfind d'.cache (i + q) = some ⟨i + q, rowJ e (R.length + 1) p q, false⟩) →
        (∀ x, ¬ (i ≤ x ∧ x < i + many p) → sfind d'.cache x = none) → ∀ how, ((d'.crash how).scan a n e = (R, 0) ∨ (d'.crash how).scan a n e = (R ++ [p], 0)) ∧ ∀ x, a ≤ x → x < a + n → Glb.eld (e + 1) ((d'.crash how).last x) := by
      intro d' ok' bt' hn' hl' hrc hin hout how
      have fr : ∀ x, ¬ (i ≤ x ∧ x < i + many p) → (d'.crash how).last x = d.last x := fun x hx => by
        rw [crash_last d' how (by rw [hl']; exact hrl) (hout x hx)]; show sfind d'.lasts x = _; rw [hl']
      have inn : ∀ q : Nat, q < many p → Glb.eld e ((d'.crash how).last (i + q)) ∨ (d'.crash how).last (i + q) = some ⟨i + q, rowJ e (R.length + 1) p q, false⟩ := fun q hq => by
        have he := h.eld (i + q) (by omega) (by omega)
        have hl2 : d'.last (i + q) = d.last (i + q) := by show sfind d'.lasts _ = _; rw [hl']
        rcases hin q hq with hs | hs
        · left; rw [crash_last d' how (by rw [hl']; exact hrl) hs, hl2]; exact he
        · rcases crash_some d' how hrc (by rw [hl']; exact hrl) hs with t | t | t
          · left; rw [t, hl2]; exact he
          · exact .inr t
          · left; rw [t]; exact eld_torn _ _
      have held' : Held (d'.crash how).last e a 0 R i := h.held.congr fun x h1 h2 => fr x (by omega)
      have hright : (d'.crash how).jright a n e := ⟨hpl.1, hpl.2.1, by show a + n ≤ d'.n; omega, h.ep⟩
      constructor
      · rw [Dk.scan_last rfl hright]
        have hs := held'.scan (l := []) h.ep (n.toNat - (i - a).toNat) h.small (by simp only [List.length_nil]; unfold maxNo; omega)
        rw [show n.toNat - (i - a).toNat + (i - a).toNat = n.toNat by omega] at hs
        rw [hs, List.nil_append]
        by_cases all : ∀ q : Nat, q < many p → (d'.crash how).last (i + q) = some ⟨i + q, rowJ e (R.length + 1) p q, false⟩
        · right
          rw [show n.toNat - (i - a).toNat = (n.toNat - (i - a).toNat - many p) + many p by omega, scan_rec h.ep (by unfold maxNo; omega) hp all]
          by_cases c : i + many p < a + n
          · rw [scan_stop fun c' => by rw [fr _ (by omega)]; exact (h.eld _ (by omega) c).none (by omega) h.ep.1 c']
          · rw [show n.toNat - (i - a).toNat - many p = 0 by omega]; rfl
        · left
          -- the first sector that is not there
          have : ∃ t : Nat, t < many p ∧ Glb.eld e ((d'.crash how).last (i + t)) ∧ ∀ q : Nat, q < t → (d'.crash how).last (i + q) = some ⟨i + q, rowJ e (R.length + 1) p q, false⟩ := by
            have key : ∀ m : Nat, m ≤ many p → (∃ t : Nat, t < m ∧ Glb.eld e ((d'.crash how).last (i + t)) ∧ ∀ q : Nat, q < t → (d'.crash how).last (i + q) = some ⟨i + q, rowJ e (R.length + 1) p q, false⟩) ∨ ∀ q : Nat, q < m → (d'.crash how).last (i + q) = some ⟨i + q, rowJ e (R.length + 1) p q, false⟩ := by
              intro m
              induction m with
              | zero => intro _; exact .inr fun q hq => by omega
              | succ m ih =>
                intro hm
                rcases ih (by omega) with ⟨t, h1, h2⟩ | h1
                · exact .inl ⟨t, by omega, h2⟩
                · rcases inn m (by omega) with h2 | h2
                  · exact .inl ⟨m, by omega, h2, h1⟩
                  · refine .inr fun q hq => ?_
                    by_cases c : q = m
                    · subst c; exact h2
                    · exact h1 q (by omega)
            rcases key (many p) (Nat.le_refl _) with ⟨t, h1, h2, h3⟩ | h1
            · exact ⟨t, h1, h2, h3⟩
            · exact absurd h1 all
          obtain ⟨t, t1, t2, t3⟩ := this
          rw [scan_cut h.ep (by unfold maxNo; omega) hp t1 t3 fun c => t2.none (by omega) h.ep.1 c]
      · intro x h1 h2
        by_cases c : i ≤ x ∧ x < i + many p
        · obtain ⟨q, rfl⟩ : ∃ q : Nat, x = i + q := ⟨(x - i).toNat, by omega⟩
          rcases inn q (by omega) with t | t
          · exact t.up (by omega)
          · rw [t]; exact eld_row h.ep
        · rw [fr x c]; exact h.elds x h1 h2
    unfold Dk.jdone at hok hbt ⊢
    rcases Dk.jrest_cases (p := p) (j := jof a n e R i) (many p) 0 (d := d) ho hr0 (by simp only [jof]; omega) (by simp only [jof]; omega) with ⟨d1, r1, r2, r3, r4, r5, r6, r7, r8⟩ | ⟨d1, r1, r2, r3, r4, r5, r6, r7, r8⟩
    · rw [r1, if_pos rfl] at hok hbt ⊢
      simp only [jof] at r7 r8
      have in1 : ∀ q : Nat, q < many p → sfind d1.cache (i + q) = some ⟨i + q, rowJ e (R.length + 1) p q, false⟩ := fun q hq => r7 q (by omega) (by omega)
      have out1 : ∀ x, ¬ (i ≤ x ∧ x < i + many p) → sfind d1.cache x = none := fun x hx => by rw [r8 x (by omega), c0]
      rcases Dk.flush_cases r3 with ⟨d2, f1, f2, f3, f4, f5, f6⟩ | ⟨d2, f1, f2, f3, f4, f5, f6⟩
      · rw [f1] at hok hbt ⊢
        left
        refine ⟨c2, d2, ?_, ?_, f3, f2.trans r2, fun x => f6 (r6 x)⟩
        · rw [if_pos rfl]
          simp [jof]
        have hf : ∀ x, d2.last x = match sfind d1.cache x with | some s => some s | none => d.last x := fun x => by
          show sfind d2.lasts x = _; rw [f4, sfind_fold r5 (by rw [r4]; exact hrl), r4]; rfl
        refine ⟨hok, hbt, f5, ⟨hpl.1, hpl.2.1, by omega⟩, h.ep, ?_, by omega, ?_, ?_⟩
        · refine (h.held.congr fun x h1 h2 => by rw [hf, out1 x (by omega)]).snoc fun k hk => ?_
          rw [hf, in1 k hk, Nat.zero_add]
        · intro x h1 h2
          rw [hf, out1 x (by omega)]
          exact h.eld x (by omega) h2
        · intro q hq
          rcases List.mem_append.1 hq with hq | hq
          · exact h.small q hq
          · simp at hq; subst hq; exact hp
      · rw [f1] at hok hbt ⊢
        right
        rw [if_neg (by simp)]
        refine ⟨c2, d2, rfl, hok, hbt, f3, f2.trans r2, ?_, amid d2 hok hbt (f2.trans r2) (f4.trans r4) (by rw [f5]; exact r5) (fun q hq => .inr (by rw [f5]; exact in1 q hq)) fun x hx => by rw [f5]; exact out1 x hx⟩
        by_cases c : d.left < 0
        · have := r6 c; omega
        · omega
    · rw [r1, if_neg (by simp)] at hok hbt ⊢
      right
      simp only [jof] at r7 r8
      rw [if_neg (by simp)]
      refine ⟨c2, d1, rfl, hok, hbt, r4, r3, r2, amid d1 hok hbt r3 r5 r6 (fun q hq => ?_) fun x hx => by rw [r8 x (by omega), c0]⟩
      rcases r7 q (by omega) (by omega) with t | t
      · left; rw [t, c0]
      · exact .inr t

theorem JS.arm {d a n e R i} (h : JS d a n e R i) {k : Int} (hk : k ≤ 9223372036854775807) : JS (d.arm k) a n e R i := ⟨Dk.arm_ok h.ok hk, h.bts, h.cache, h.pl, h.ep, h.held, h.le, h.eld, h.small⟩
/-- a new epoch -/
theorem JS.begin {d : Dk} {a n e : Int} (ok : d.ok) (bts : d.bts) (hc : d.cache = []) (pl : 0 ≤ a ∧ 1 ≤ n ∧ a + n ≤ d.n) (ep : 1 ≤ e ∧ e ≤ maxNo) (he : ∀ x, a ≤ x → x < a + n → Glb.eld e (d.last x)) : JS d a n e [] a :=
  ⟨ok, bts, hc, pl, ep, rfl, by omega, he, fun p hp => by cases hp⟩
end Glb

/-
  Layer 7: the laws' helpers.
-/
namespace Glb
open Go
set_option maxRecDepth 10000
set_option maxHeartbeats 8000000

theorem jrows_at {F : Nat → Prop} {h : AHeap} {l : List (List Int)} {o : AV} (ho : Rd F h (dRows l) o) {i : Nat} (hi : i < l.length) : ∃ p c, aindex 1 o (.int .i64 i) = some p ∧ aload h false 1 p = some c ∧ Rd F h (dBytes l[i]) c := by
  obtain ⟨p, cs, hp, hpc, hcs⟩ := ho.index .i64 (i := i) (d := [dBytes l[i]]) (by omega) (by simp [hi])
  simp only [RdL] at hcs
  obtain ⟨c, _, rfl, hc, rfl⟩ := hcs
  exact ⟨p, c, hp, by rw [aload_p hpc]; exact take_one _ _ _, hc⟩

def SameRowsR (P : Program) (f : FuncId) : Prop := isFn P f = true ∧ ∀ (F G : Nat → Prop) (h : AHeap) (x y : List (List Int)) (a b : AV), Rd F h (dRows x) a → Rd G h (dRows y) b → x.length ≤ 2^40 → (∀ b ∈ x, b.length ≤ 2^40) →
  ACalls P f [a, b] h fun r h' => r = .bool (decide (x = y)) ∧ h' = h

theorem samerowsR_ok {P : Program} {f g : FuncId} (hf : Is P f (c_glebekit_SameRows g)) (hg : SameOk P g .u8) : SameRowsR P f := by
  refine ⟨hf.2, fun F G h x y a b hx0 hy0 hx hxb => fun_sound hf.1 (Nat.le_of_ble_eq_true rfl) ?_⟩
  show vc P (c_glebekit_SameRows g).code ⟨[(0, a), (1, b)], [], h⟩ (atEnd (c_glebekit_SameRows g).res _)
  have lx := hx0.len
  have ly := hy0.len
  simp only [List.length_map] at lx ly
  by_cases c : x.length = y.length
  · have c' : (x.length : Int) = (y.length : Int) := by omega
    simp only [c_glebekit_SameRows, go_sem, reduceIte, Nat.reduceEqDiff, Nat.reduceAdd, Nat.reduceLeDiff, Nat.reducePow, Nat.reduceDiv, Nat.reduceMod, decide_true, lx, ly, decide_eq_true c']
    obtain ⟨I, hI⟩ : ∃ I : Nat → Env → AHeap → Prop, ∀ m E h', I m E h' ↔ ∃ (i : Nat), lk 0 E = a ∧ lk 1 E = b ∧ lk 5 E = .int .i64 i ∧ h' = h ∧ x.take i = y.take i ∧ i ≤ x.length ∧ m = x.length - i := ⟨_, fun _ _ _ => Iff.rfl⟩
    refine vc_loop I x.length ((hI _ _ _).2 ⟨0, by simp [lk_ins, lk_cons], by simp [lk_ins, lk_cons], by simp [lk_ins], rfl, by simp, by omega, by omega⟩) ?_
    intro m E h2 hh
    obtain ⟨i, k0, k1, k5, e2, ht, hi, rfl⟩ := (hI _ _ _).1 hh
    rw [e2]
    simp only [c_glebekit_SameRows_l0, go_sem, reduceIte, Nat.reduceEqDiff, Nat.reduceAdd, Nat.reduceLeDiff, Nat.reducePow, Nat.reduceDiv, Nat.reduceMod, decide_true, k0, k1, k5, lx]
    refine wCond_split (fun ci => ?_) (fun ci => ?_)
    · simp at ci
      have ci2 : i < y.length := by omega
      obtain ⟨p, u, p1, p2, p3⟩ := jrows_at hx0 ci
      obtain ⟨q, v, q1, q2, q3⟩ := jrows_at hy0 ci2
      have ew : IntKind.i64.wrap (↑i + 1) = (i : Int) + 1 := wrap_i64 (by omega)
      simp only [go_sem, reduceIte, Nat.reduceEqDiff, Nat.reduceAdd, Nat.reduceLeDiff, Nat.reducePow, Nat.reduceDiv, Nat.reduceMod, decide_true, k0, k1, k5, p1, p2, q1, q2]
      refine use1 hg.1 (hg.2 (fun _ => True) h _ _ _ _ (Rd.any p3) (Rd.any q3) (hxb _ (List.getElem_mem ci))) ?_
      by_cases e : x[i] = y[i]
      · simp only [go_sem, reduceIte, Nat.reduceEqDiff, Nat.reduceAdd, Nat.reduceLeDiff, Nat.reducePow, Nat.reduceDiv, Nat.reduceMod, decide_true, decide_eq_true e, k0, k1, k5, p1, p2, q1, q2, ew]
        refine ⟨_, by omega, (hI _ _ _).2 ⟨i + 1, by simp [lk_ins, k0], by simp [lk_ins, k1], by simp [lk_ins], rfl, ?_, ci, rfl⟩⟩
        rw [List.take_succ_eq_append_getElem ci, List.take_succ_eq_append_getElem ci2, ht, e]
      · have ne : ¬ x = y := by rintro rfl; exact e rfl
        simp only [go_sem, reduceIte, Nat.reduceEqDiff, Nat.reduceAdd, Nat.reduceLeDiff, Nat.reducePow, Nat.reduceDiv, Nat.reduceMod, decide_true, decide_eq_false e, decide_eq_false ne, p1, p2, q1, q2]
    · simp at ci
      obtain rfl : i = x.length := by omega
      have e : x = y := by rw [List.take_length, c, List.take_length] at ht; exact ht
      simp only [go_sem, reduceIte, Nat.reduceEqDiff, Nat.reduceAdd, Nat.reduceLeDiff, Nat.reducePow, Nat.reduceDiv, Nat.reduceMod, decide_true, decide_eq_true e]
  · have c' : ¬ (x.length : Int) = (y.length : Int) := by omega
    have ne : ¬ x = y := by rintro rfl; exact c rfl
    simp only [c_glebekit_SameRows, go_sem, reduceIte, Nat.reduceEqDiff, Nat.reduceAdd, Nat.reduceLeDiff, Nat.reducePow, Nat.reduceDiv, Nat.reduceMod, decide_true, lx, ly, decide_eq_false c', decide_eq_false ne, Bool.not_false]

theorem bne_ff : (false != false) = false := rfl
theorem bne_tf : (true != false) = true := rfl
theorem bne_ft : (false != true) = true := rfl
theorem bne_tt : (true != true) = false := rfl
theorem map_bool (f : Bool → AV) (b : Bool) : Option.map f (some b) = some (f b) := rfl
attribute [go_sem] rev_peq pnil_ptr pnil_nil bne_ff bne_tf bne_ft bne_tt map_bool

theorem rd_lit1 {F : Nat → Prop} {H : AHeap} {n : Nat} {g : Bool} {r : List (List AV)} {len : Nat} (hb : H[n]? = some (some (.arr 1 r g))) (hl : r.length = len) (hF : F n) {x : List (List Int)} (hr : RdLL F H (x.map fun b => [dBytes b]) r) : Rd F H (dRows x) (.ref n 1 0 len (some len)) := by
  subst hl
  exact ⟨r, .inr (.inr ⟨n, 0, _, _, _, g, rfl, hF, hb, by omega, fun c hc => by cases hc; omega, by rw [List.drop_zero, List.take_of_length_le (Nat.le_refl _)]⟩), hr⟩

end Glb
