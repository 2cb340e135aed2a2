/-
  A library of its own: its parts, one behind the other.
-/
import Derived.Test.YtoijpkpfgamlpaaGlbKitB
import Derived.Test.YtoijpkpfgamlpaaGlbLibE
import Derived.Test.YtoijpkpfgamlpaaGlbCquorum
import Derived.Test.YtoijpkpfgamlpaaGlbCgleberef10
import Derived.Test.YtoijpkpfgamlpaaGlbCglebelaw10
import Derived.Test.YtoijpkpfgamlpaaGlbLibD
set_option linter.unusedSimpArgs false
set_option linter.unusedVariables false
/-
  Who is enough: the program's functions and the document's answer so.
-/
namespace Glb
open Go
set_option maxRecDepth 10000
set_option maxHeartbeats 4000000

theorem Rd.int_at {F : Nat → Prop} {h : AHeap} {l : List Int} {a : AV} (hx : Rd F h (dInts l) a) {i : Nat} (hi : i < l.length) :
    ∃ p, aindex 1 a (.int .i64 i) = some p ∧ aload h false 1 p = some (.int .i64 l[i]) := by
  obtain ⟨p, cs, hp, hpc, hcs⟩ := hx.index .i64 (i := i) (d := [.int .i64 l[i]]) (by omega) (by simp [hi])
  simp only [RdL, Rd] at hcs
  obtain ⟨_, _, rfl, rfl, rfl⟩ := hcs
  exact ⟨p, hp, by rw [aload_p hpc]; exact take_one _ _ _⟩
theorem Rd.ints_len {F : Nat → Prop} {h : AHeap} {l : List Int} {a : AV} (hx : Rd F h (dInts l) a) : alen a = some (.int .i64 l.length) := by simpa using hx.len

def findAt (n : Int) : List Int → Nat → Int
  | [], _ => -1
  | x :: r, k => if n = x then k else findAt n r (k + 1)
theorem findAt_has (n : Int) : ∀ (l : List Int) (k : Nat), decide (0 ≤ findAt n l k) = decide (n ∈ l) := by
  intro l
  induction l with
  | nil => intro k; simp [findAt]
  | cons x r ih =>
    intro k
    simp only [findAt]
    split
    · rename_i e; subst e; simp
    · rename_i e; rw [ih]; simp [e]

def IndexOk (P : Program) (f : FuncId) : Prop :=
  isFn P f = true ∧ ∀ (F : Nat → Prop) (h : AHeap) (l : List Int) (a : AV) (n : Int), Rd F h (dInts l) a → l.length ≤ 2^40 → ACalls P f [a, .int .i64 n] h fun r h' => r = .int .i64 (findAt n l 0) ∧ h' = h

theorem Index_ok {P : Program} {f : FuncId} (hf : Is P f c_slices_Index_int_int) : IndexOk P f := by
  refine ⟨hf.2, fun F h l a n ha hl => fun_sound hf.1 (Nat.le_of_ble_eq_true rfl) ?_⟩
  show vc P c_slices_Index_int_int.code ⟨[(0, a), (1, .int .i64 n)], [], h⟩ (atEnd c_slices_Index_int_int.res _)
  have la := ha.ints_len
  simp only [c_slices_Index_int_int, go_sem, reduceIte, Nat.reduceEqDiff, Nat.reduceAdd, Nat.reduceLeDiff, Nat.reducePow, Nat.reduceDiv, Nat.reduceMod, decide_true, la]
  refine vc_loop (fun m L h' => ∃ i : Nat, lk 0 L = a ∧ lk 1 L = .int .i64 n ∧ lk 7 L = .int .i64 l.length ∧ lk 8 L = .int .i64 i ∧ h' = h ∧ i ≤ l.length ∧ m = l.length - i ∧ findAt n (l.drop i) i = findAt n l 0) l.length ?_ ?_
  · exact ⟨0, by simp [lk_ins, lk_cons], by simp [lk_ins, lk_cons], by simp [lk_ins], by simp [lk_ins], rfl, by omega, by omega, rfl⟩
  · rintro m L h' ⟨i, h0, h1, h7, h8, rfl, hi, rfl, hq⟩
    simp only [c_slices_Index_int_int_l0, go_sem, reduceIte, Nat.reduceEqDiff, Nat.reduceAdd, Nat.reduceLeDiff, Nat.reducePow, Nat.reduceDiv, Nat.reduceMod, decide_true, h0, h1, h7, h8]
    refine wCond_split (fun ci => ?_) (fun ci => ?_)
    · simp at ci
      obtain ⟨p, hp, hv⟩ := ha.int_at ci
      have e : IntKind.i64.wrap (↑i + 1) = (i : Int) + 1 := wrap_i64 (by omega)
      simp only [go_sem, reduceIte, Nat.reduceEqDiff, Nat.reduceAdd, Nat.reduceLeDiff, Nat.reducePow, Nat.reduceDiv, Nat.reduceMod, decide_true, h0, h1, h7, h8, hp, hv]
      rw [List.drop_eq_getElem_cons ci] at hq
      simp only [findAt] at hq
      by_cases c : n = l[i]
      · simp only [go_sem, reduceIte, Nat.reduceEqDiff, Nat.reduceAdd, Nat.reduceLeDiff, Nat.reducePow, Nat.reduceDiv, Nat.reduceMod, decide_true, decide_eq_true c]
        rw [if_pos c] at hq
        rw [← hq]
      · simp only [go_sem, reduceIte, Nat.reduceEqDiff, Nat.reduceAdd, Nat.reduceLeDiff, Nat.reducePow, Nat.reduceDiv, Nat.reduceMod, decide_true, decide_eq_false c, h0, h1, h7, h8, e]
        rw [if_neg c] at hq
        exact ⟨_, by omega, i + 1, by simp, ci, rfl, hq⟩
    · simp at ci
      simp only [go_sem, reduceIte, Nat.reduceEqDiff, Nat.reduceAdd, Nat.reduceLeDiff, Nat.reducePow, Nat.reduceDiv, Nat.reduceMod, decide_true]
      obtain rfl : i = l.length := by omega
      rw [List.drop_length] at hq
      rw [← hq]; rfl

def HasOk (P : Program) (f : FuncId) : Prop :=
  isFn P f = true ∧ ∀ (F : Nat → Prop) (h : AHeap) (l : List Int) (a : AV) (n : Int), Rd F h (dInts l) a → l.length ≤ 2^40 → ACalls P f [a, .int .i64 n] h fun r h' => r = .bool (decide (n ∈ l)) ∧ h' = h

theorem Contains_ok {P : Program} {f g : FuncId} (hf : Is P f (c_slices_Contains_int_int g)) (hg : IndexOk P g) : HasOk P f := by
  refine ⟨hf.2, fun F h l a n ha hl => fun_sound hf.1 (Nat.le_of_ble_eq_true rfl) ?_⟩
  show vc P (c_slices_Contains_int_int g).code ⟨[(0, a), (1, .int .i64 n)], [], h⟩ (atEnd (c_slices_Contains_int_int g).res _)
  simp only [c_slices_Contains_int_int, go_sem, reduceIte, Nat.reduceEqDiff, Nat.reduceAdd, Nat.reduceLeDiff, Nat.reducePow, Nat.reduceDiv, Nat.reduceMod, decide_true]
  refine wCall_use ⟨hg.1, hg.2 F _ l a n ha hl⟩ ?_
  rintro _ _ ⟨rfl, rfl⟩
  simp only [go_sem, reduceIte, Nat.reduceEqDiff, Nat.reduceAdd, Nat.reduceLeDiff, Nat.reducePow, Nat.reduceDiv, Nat.reduceMod, decide_true, findAt_has]

theorem gleberef10_In_ok {P : Program} {f : FuncId} (hf : Is P f c_gleberef10_In) : HasOk P f := by
  refine ⟨hf.2, fun F h l a n ha hl => fun_sound hf.1 (Nat.le_of_ble_eq_true rfl) ?_⟩
  show vc P c_gleberef10_In.code ⟨[(0, a), (1, .int .i64 n)], [], h⟩ (atEnd c_gleberef10_In.res _)
  have la := ha.ints_len
  simp only [c_gleberef10_In, go_sem, reduceIte, Nat.reduceEqDiff, Nat.reduceAdd, Nat.reduceLeDiff, Nat.reducePow, Nat.reduceDiv, Nat.reduceMod, decide_true, la]
  refine vc_loop (fun m L h' => ∃ i : Nat, lk 0 L = a ∧ lk 1 L = .int .i64 n ∧ lk 5 L = .int .i64 i ∧ h' = h ∧ i ≤ l.length ∧ m = l.length - i ∧ decide (n ∈ l.drop i) = decide (n ∈ l)) l.length ?_ ?_
  · exact ⟨0, by simp [lk_ins, lk_cons], by simp [lk_ins, lk_cons], by simp [lk_ins], rfl, by omega, by omega, rfl⟩
  · rintro m L h' ⟨i, h0, h1, h5, rfl, hi, rfl, hq⟩
    simp only [c_gleberef10_In_l0, go_sem, reduceIte, Nat.reduceEqDiff, Nat.reduceAdd, Nat.reduceLeDiff, Nat.reducePow, Nat.reduceDiv, Nat.reduceMod, decide_true, h0, h1, h5, la]
    refine wCond_split (fun ci => ?_) (fun ci => ?_)
    · simp at ci
      obtain ⟨p, hp, hv⟩ := ha.int_at ci
      have e : IntKind.i64.wrap (↑i + 1) = (i : Int) + 1 := wrap_i64 (by omega)
      simp only [go_sem, reduceIte, Nat.reduceEqDiff, Nat.reduceAdd, Nat.reduceLeDiff, Nat.reducePow, Nat.reduceDiv, Nat.reduceMod, decide_true, h0, h1, h5, hp, hv]
      rw [List.drop_eq_getElem_cons ci] at hq
      by_cases c : l[i] = n
      · simp only [go_sem, reduceIte, Nat.reduceEqDiff, Nat.reduceAdd, Nat.reduceLeDiff, Nat.reducePow, Nat.reduceDiv, Nat.reduceMod, decide_true, decide_eq_true c]
        rw [← hq]; simp [c]
      · simp only [go_sem, reduceIte, Nat.reduceEqDiff, Nat.reduceAdd, Nat.reduceLeDiff, Nat.reducePow, Nat.reduceDiv, Nat.reduceMod, decide_true, decide_eq_false c, h0, h1, h5, e]
        exact ⟨_, by omega, i + 1, by simp, ci, rfl, by rw [← hq]; have : ¬ n = l[i] := fun e => c e.symm; simp only [List.mem_cons, this, false_or]⟩
    · simp at ci
      simp only [go_sem, reduceIte, Nat.reduceEqDiff, Nat.reduceAdd, Nat.reduceLeDiff, Nat.reducePow, Nat.reduceDiv, Nat.reduceMod, decide_true]
      obtain rfl : i = l.length := by omega
      rw [List.drop_length] at hq
      rw [← hq]; simp

/-- of how many items something is so -/
def CountOk (P : Program) (f : FuncId) : Prop :=
  isFn P f = true ∧ ∀ (F : Nat → Prop) (h : AHeap) (l : List Int) (a : AV) (g : FuncId) (fs cs : List AV) (p : Int → Bool), Rd F h (dInts l) a → l.length ≤ 2^40 → isFn P g = true →
    (∀ n, ACalls P g (fs ++ [.int .i64 n] ++ cs) h fun r h' => r = .bool (p n) ∧ h' = h) → ACalls P f [a, .clo g fs cs] h fun r h' => r = .int .i64 (l.countP p) ∧ h' = h

theorem count_ok {P : Program} {f : FuncId} (hf : Is P f c_quorum_count_int) : CountOk P f := by
  refine ⟨hf.2, fun F h l a g fs cs p ha hl hi hg => fun_sound hf.1 (Nat.le_of_ble_eq_true rfl) ?_⟩
  show vc P c_quorum_count_int.code ⟨[(0, a), (1, .clo g fs cs)], [], h⟩ (atEnd c_quorum_count_int.res _)
  have la := ha.ints_len
  simp only [c_quorum_count_int, go_sem, reduceIte, Nat.reduceEqDiff, Nat.reduceAdd, Nat.reduceLeDiff, Nat.reducePow, Nat.reduceDiv, Nat.reduceMod, decide_true, la]
  refine vc_loop (fun m L h' => ∃ i c : Nat, lk 1 L = .clo g fs cs ∧ lk 5 L = .int .i64 c ∧ lk 8 L = a ∧ lk 9 L = .int .i64 l.length ∧ lk 10 L = .int .i64 i ∧ h' = h ∧ i ≤ l.length ∧ c ≤ i ∧ m = l.length - i ∧ c + (l.drop i).countP p = l.countP p) l.length ?_ ?_
  · exact ⟨0, 0, by simp [lk_ins, lk_cons], by simp [lk_ins, lk_cons], by simp [lk_ins, lk_cons], by simp [lk_ins, lk_cons], by simp [lk_ins], rfl, by omega, by omega, by omega, by simp⟩
  · rintro m L h' ⟨i, c, h1, h5, h8, h9, h10, rfl, hi2, hci, rfl, hq⟩
    simp only [c_quorum_count_int_l0, go_sem, reduceIte, Nat.reduceEqDiff, Nat.reduceAdd, Nat.reduceLeDiff, Nat.reducePow, Nat.reduceDiv, Nat.reduceMod, decide_true, h1, h5, h8, h9, h10]
    refine wCond_split (fun ci => ?_) (fun ci => ?_)
    · simp at ci
      obtain ⟨q, hp, hv⟩ := ha.int_at ci
      have e : IntKind.i64.wrap (↑i + 1) = (i : Int) + 1 := wrap_i64 (by omega)
      have e2 : IntKind.i64.wrap (↑c + 1) = ((c + 1 : Nat) : Int) := by rw [wrap_i64 (by omega)]; omega
      simp only [go_sem, reduceIte, Nat.reduceEqDiff, Nat.reduceAdd, Nat.reduceLeDiff, Nat.reducePow, Nat.reduceDiv, Nat.reduceMod, decide_true, h1, h5, h8, h9, h10, hp, hv]
      rw [List.drop_eq_getElem_cons ci, List.countP_cons] at hq
      refine wCall_use ⟨hi, hg _⟩ ?_
      rintro _ _ ⟨rfl, rfl⟩
      cases hpb : p l[i]
      · simp only [go_sem, reduceIte, Nat.reduceEqDiff, Nat.reduceAdd, Nat.reduceLeDiff, Nat.reducePow, Nat.reduceDiv, Nat.reduceMod, decide_true, h1, h5, h8, h9, h10, e]
        exact ⟨_, by omega, i + 1, c, by simp, by simp, ci, by omega, rfl, by simpa [hpb] using hq⟩
      · simp only [go_sem, reduceIte, Nat.reduceEqDiff, Nat.reduceAdd, Nat.reduceLeDiff, Nat.reducePow, Nat.reduceDiv, Nat.reduceMod, decide_true, h1, h5, h8, h9, h10, e, e2]
        exact ⟨_, by omega, i + 1, c + 1, by simp, by simp, ci, by omega, rfl, by simp only [hpb, if_true] at hq; omega⟩
    · simp at ci
      simp only [go_sem, reduceIte, Nat.reduceEqDiff, Nat.reduceAdd, Nat.reduceLeDiff, Nat.reducePow, Nat.reduceDiv, Nat.reduceMod, decide_true, h5]
      obtain rfl : i = l.length := by omega
      rw [List.drop_length] at hq
      simp at hq
      rw [hq]

theorem quo64 (a b : Int) : abin .quo (.int .i64 a) (.int .i64 b) = if b = 0 then none else some (.int .i64 (IntKind.i64.wrap (a.tdiv b))) := Eq.trans rfl rfl
theorem rem64 (a b : Int) : abin .rem (.int .i64 a) (.int .i64 b) = if b = 0 then none else some (.int .i64 (a.tmod b)) := Eq.trans rfl rfl

/-- do enough of a list agree? -/
def enough (l yes : List Int) : Bool := decide (l.length / 2 < l.countP fun n => decide (n ∈ yes))
def Conf.won (x : Conf) (yes : List Int) : Bool := enough x.old yes && (decide (x.new.length = 0) || enough x.new yes)

def EnoughOk (P : Program) (f : FuncId) : Prop :=
  isFn P f = true ∧ ∀ (F F' : Nat → Prop) (h : AHeap) (l yes : List Int) (a b : AV), Rd F h (dInts l) a → Rd F' h (dInts yes) b → l.length ≤ 2^40 → yes.length ≤ 2^40 → ACalls P f [a, b] h fun r h' => r = .bool (enough l yes) ∧ h' = h

theorem enough_f1_ok {P : Program} {f g : FuncId} (hf : Is P f (c_quorum_enough_f1 g)) (hg : HasOk P g) {F : Nat → Prop} {h : AHeap} {yes : List Int} {b q : AV} (hb : Rd F h (dInts yes) b) (hy : yes.length ≤ 2^40) (hq : aload h false 1 q = some b) (n : Int) :
    ACalls P f [.int .i64 n, q] h fun r h' => r = .bool (decide (n ∈ yes)) ∧ h' = h := by
  refine fun_sound hf.1 (Nat.le_of_ble_eq_true rfl) ?_
  show vc P (c_quorum_enough_f1 g).code ⟨[(0, .int .i64 n), (1, q)], [], h⟩ (atEnd (c_quorum_enough_f1 g).res _)
  simp only [c_quorum_enough_f1, go_sem, reduceIte, Nat.reduceEqDiff, Nat.reduceAdd, Nat.reduceLeDiff, Nat.reducePow, Nat.reduceDiv, Nat.reduceMod, decide_true, hq]
  refine wCall_use ⟨hg.1, hg.2 F _ yes b n hb hy⟩ ?_
  rintro _ _ ⟨rfl, rfl⟩
  simp only [go_sem, reduceIte, Nat.reduceEqDiff, Nat.reduceAdd, Nat.reduceLeDiff, Nat.reducePow, Nat.reduceDiv, Nat.reduceMod, decide_true]

theorem enough_ok {P : Program} {f k g c : FuncId} (hf : Is P f (c_quorum_enough k g)) (hk : Is P k (c_quorum_enough_f1 c)) (hc : HasOk P c) (hg : CountOk P g) : EnoughOk P f := by
  refine ⟨hf.2, fun F F' h l yes a b ha hb hl hy => obs (upto_bool _ _) (fun_sound hf.1 (Nat.le_of_ble_eq_true rfl) ?_)⟩
  show vc P (c_quorum_enough k g).code ⟨[(0, a), (1, b)], [], h⟩ (atEnd (c_quorum_enough k g).res _)
  have la := ha.ints_len
  simp only [c_quorum_enough, go_sem, reduceIte, Nat.reduceEqDiff, Nat.reduceAdd, Nat.reduceLeDiff, Nat.reducePow, Nat.reduceDiv, Nat.reduceMod, decide_true, hb.scalar, cells_of hb.scalar]
  refine wCall_use ⟨hg.1, hg.2 F _ l a k [] [.ptr h.length 1 0 0] (fun n => decide (n ∈ yes)) (ha.up (Ext.b1 _)) hl hk.2 (fun n => enough_f1_ok hk hc (hb.up (Ext.b1 _)) hy (by simp only [go_sem, reduceIte, Nat.reduceEqDiff, Nat.reduceAdd, Nat.reduceLeDiff, Nat.reducePow, Nat.reduceDiv, Nat.reduceMod, decide_true]) n)⟩ ?_
  rintro _ _ ⟨rfl, rfl⟩
  have e : IntKind.i64.wrap ((l.length : Int).tdiv 2) = ((l.length / 2 : Nat) : Int) := by rw [Int.tdiv_eq_ediv_of_nonneg (by omega), wrap_i64 (by omega)]; omega
  have z2 : ∀ {x : Option AV}, (if (2 : Int) = 0 then none else x) = x := fun {x} => if_neg (by decide)
  simp only [go_sem, reduceIte, Nat.reduceEqDiff, Nat.reduceAdd, Nat.reduceLeDiff, Nat.reducePow, Nat.reduceDiv, Nat.reduceMod, decide_true, la, quo64, z2, e]
  exact ⟨by simp only [enough]; congr 1; simp only [decide_eq_decide]; omega, Ext.b1 _⟩

theorem gleberef10_enough_ok {P : Program} {f g : FuncId} (hf : Is P f (c_gleberef10_enough g)) (hg : HasOk P g) : EnoughOk P f := by
  refine ⟨hf.2, fun F F' h l yes a b ha hb hl hy => fun_sound hf.1 (Nat.le_of_ble_eq_true rfl) ?_⟩
  show vc P (c_gleberef10_enough g).code ⟨[(0, a), (1, b)], [], h⟩ (atEnd (c_gleberef10_enough g).res _)
  have la := ha.ints_len
  simp only [c_gleberef10_enough, go_sem, reduceIte, Nat.reduceEqDiff, Nat.reduceAdd, Nat.reduceLeDiff, Nat.reducePow, Nat.reduceDiv, Nat.reduceMod, decide_true]
  refine vc_loop (fun m L h' => ∃ i c : Nat, lk 0 L = a ∧ lk 1 L = b ∧ lk 5 L = .int .i64 c ∧ lk 6 L = .int .i64 i ∧ h' = h ∧ i ≤ l.length ∧ c ≤ i ∧ m = l.length - i ∧ c + ((l.drop i).countP fun n => decide (n ∈ yes)) = l.countP fun n => decide (n ∈ yes)) l.length ?_ ?_
  · exact ⟨0, 0, by simp [lk_ins, lk_cons], by simp [lk_ins, lk_cons], by simp [lk_ins, lk_cons], by simp [lk_ins], rfl, by omega, by omega, by omega, by simp⟩
  · rintro m L h' ⟨i, c, h0, h1, h5, h6, rfl, hi2, hci, rfl, hq⟩
    simp only [c_gleberef10_enough_l0, go_sem, reduceIte, Nat.reduceEqDiff, Nat.reduceAdd, Nat.reduceLeDiff, Nat.reducePow, Nat.reduceDiv, Nat.reduceMod, decide_true, h0, h1, h5, h6, la]
    refine wCond_split (fun ci => ?_) (fun ci => ?_)
    · simp at ci
      obtain ⟨q, hp, hv⟩ := ha.int_at ci
      have e : IntKind.i64.wrap (↑i + 1) = (i : Int) + 1 := wrap_i64 (by omega)
      have e2 : IntKind.i64.wrap (↑c + 1) = ((c + 1 : Nat) : Int) := by rw [wrap_i64 (by omega)]; omega
      simp only [go_sem, reduceIte, Nat.reduceEqDiff, Nat.reduceAdd, Nat.reduceLeDiff, Nat.reducePow, Nat.reduceDiv, Nat.reduceMod, decide_true, h0, h1, h5, h6, hp, hv]
      rw [List.drop_eq_getElem_cons ci, List.countP_cons] at hq
      refine wCall_use ⟨hg.1, hg.2 F' _ yes b _ hb hy⟩ ?_
      rintro _ _ ⟨rfl, rfl⟩
      by_cases hpb : l[i] ∈ yes
      · simp only [go_sem, reduceIte, Nat.reduceEqDiff, Nat.reduceAdd, Nat.reduceLeDiff, Nat.reducePow, Nat.reduceDiv, Nat.reduceMod, decide_true, h0, h1, h5, h6, e, e2, decide_eq_true hpb]
        exact ⟨_, by omega, i + 1, c + 1, by simp, by simp, ci, by omega, rfl, by simp only [decide_eq_true hpb, if_true] at hq; omega⟩
      · simp only [go_sem, reduceIte, Nat.reduceEqDiff, Nat.reduceAdd, Nat.reduceLeDiff, Nat.reducePow, Nat.reduceDiv, Nat.reduceMod, decide_true, h0, h1, h5, h6, e, decide_eq_false hpb]
        exact ⟨_, by omega, i + 1, c, by simp, by simp, ci, by omega, rfl, by simpa [hpb] using hq⟩
    · simp at ci
      obtain rfl : i = l.length := by omega
      rw [List.drop_length] at hq
      simp at hq
      have e : IntKind.i64.wrap ((l.length : Int) - c) = (l.length : Int) - c := wrap_i64 (by omega)
      simp only [go_sem, reduceIte, Nat.reduceEqDiff, Nat.reduceAdd, Nat.reduceLeDiff, Nat.reducePow, Nat.reduceDiv, Nat.reduceMod, decide_true, h0, h1, h5, h6, la, e]
      subst hq
      simp only [enough]; congr 1; simp only [decide_eq_decide]; omega

def WonOk (P : Program) (f : FuncId) : Prop :=
  isFn P f = true ∧ ∀ (F F' : Nat → Prop) (h : AHeap) (x : Conf) (yes : List Int) (a : List AV) (b : AV), RdL F h x.c a → Rd F' h (dInts yes) b → x.few (2^40) → yes.length ≤ 2^40 → ACalls P f [.agg a, b] h fun r h' => r = .bool (x.won yes) ∧ h' = h

theorem natCast_eq_zero (n : Nat) : decide ((n : Int) = 0) = decide (n = 0) := by simp

theorem quorum_Won_ok {P : Program} {f g : FuncId} (hf : Is P f (c_quorum_Won g)) (hg : EnoughOk P g) : WonOk P f := by
  refine ⟨hf.2, fun F F' h x yes a b ha hb hl hy => obs (upto_bool _ _) (fun_sound hf.1 (Nat.le_of_ble_eq_true rfl) ?_)⟩
  show vc P (c_quorum_Won g).code ⟨[(0, .agg a), (1, b)], [], h⟩ (atEnd (c_quorum_Won g).res _)
  obtain ⟨o, n, e, rfl, ho, hn, he⟩ := rd_conf ha
  have ln := hn.ints_len
  simp only [c_quorum_Won, go_sem, reduceIte, Nat.reduceEqDiff, Nat.reduceAdd, Nat.reduceLeDiff, Nat.reducePow, Nat.reduceDiv, Nat.reduceMod, decide_true, ho.scalar, hn.scalar, he.scalar]
  refine wCall_use ⟨hg.1, hg.2 F F' _ x.old yes _ _ (ho.up (Ext.b1 _)) (hb.up (Ext.b1 _)) hl.1 hy⟩ ?_
  rintro _ _ ⟨rfl, rfl⟩
  cases c1 : enough x.old yes
  · simp only [go_sem, reduceIte, Nat.reduceEqDiff, Nat.reduceAdd, Nat.reduceLeDiff, Nat.reducePow, Nat.reduceDiv, Nat.reduceMod, decide_true]
    exact ⟨by simp [Conf.won, c1], Ext.b1 _⟩
  · simp only [go_sem, reduceIte, Nat.reduceEqDiff, Nat.reduceAdd, Nat.reduceLeDiff, Nat.reducePow, Nat.reduceDiv, Nat.reduceMod, decide_true, ln, natCast_eq_zero]
    by_cases c2 : x.new.length = 0
    · simp only [go_sem, reduceIte, Nat.reduceEqDiff, Nat.reduceAdd, Nat.reduceLeDiff, Nat.reducePow, Nat.reduceDiv, Nat.reduceMod, decide_true, decide_eq_true c2]
      exact ⟨by simp only [Conf.won, c1, decide_eq_true c2, Bool.true_or, Bool.false_or, Bool.and_true, Bool.true_and, Bool.false_and, Bool.and_false], Ext.b1 _⟩
    · simp only [go_sem, reduceIte, Nat.reduceEqDiff, Nat.reduceAdd, Nat.reduceLeDiff, Nat.reducePow, Nat.reduceDiv, Nat.reduceMod, decide_true, decide_eq_false c2]
      refine wCall_use ⟨hg.1, hg.2 F F' _ x.new yes _ _ (hn.up (Ext.b1 _)) (hb.up (Ext.b1 _)) hl.2.1 hy⟩ ?_
      rintro _ _ ⟨rfl, rfl⟩
      simp only [go_sem, reduceIte, Nat.reduceEqDiff, Nat.reduceAdd, Nat.reduceLeDiff, Nat.reducePow, Nat.reduceDiv, Nat.reduceMod, decide_true]
      exact ⟨by simp only [Conf.won, c1, decide_eq_false c2, Bool.true_or, Bool.false_or, Bool.and_true, Bool.true_and, Bool.false_and, Bool.and_false], Ext.b1 _⟩

theorem gleberef10_Won_ok {P : Program} {f g : FuncId} (hf : Is P f (c_gleberef10_Won g)) (hg : EnoughOk P g) : WonOk P f := by
  refine ⟨hf.2, fun F F' h x yes a b ha hb hl hy => obs (upto_bool _ _) (fun_sound hf.1 (Nat.le_of_ble_eq_true rfl) ?_)⟩
  show vc P (c_gleberef10_Won g).code ⟨[(0, .agg a), (1, b)], [], h⟩ (atEnd (c_gleberef10_Won g).res _)
  obtain ⟨o, n, e, rfl, ho, hn, he⟩ := rd_conf ha
  have ln := hn.ints_len
  simp only [c_gleberef10_Won, go_sem, reduceIte, Nat.reduceEqDiff, Nat.reduceAdd, Nat.reduceLeDiff, Nat.reducePow, Nat.reduceDiv, Nat.reduceMod, decide_true, ho.scalar, hn.scalar, he.scalar, ln]
  by_cases c2 : 0 < (x.new.length : Int)
  · have c3 : ¬ x.new.length = 0 := by omega
    simp only [go_sem, reduceIte, Nat.reduceEqDiff, Nat.reduceAdd, Nat.reduceLeDiff, Nat.reducePow, Nat.reduceDiv, Nat.reduceMod, decide_true, decide_eq_true c2]
    refine wCall_use ⟨hg.1, hg.2 F F' _ x.new yes _ _ (hn.up (Ext.b1 _)) (hb.up (Ext.b1 _)) hl.2.1 hy⟩ ?_
    rintro _ _ ⟨rfl, rfl⟩
    cases c1 : enough x.new yes
    · simp only [go_sem, reduceIte, Nat.reduceEqDiff, Nat.reduceAdd, Nat.reduceLeDiff, Nat.reducePow, Nat.reduceDiv, Nat.reduceMod, decide_true]
      exact ⟨by simp only [Conf.won, c1, decide_eq_false c3, Bool.or_self, Bool.true_or, Bool.false_or, Bool.and_true, Bool.true_and, Bool.false_and, Bool.and_false], Ext.b1 _⟩
    · simp only [go_sem, reduceIte, Nat.reduceEqDiff, Nat.reduceAdd, Nat.reduceLeDiff, Nat.reducePow, Nat.reduceDiv, Nat.reduceMod, decide_true]
      refine wCall_use ⟨hg.1, hg.2 F F' _ x.old yes _ _ (ho.up (Ext.b1 _)) (hb.up (Ext.b1 _)) hl.1 hy⟩ ?_
      rintro _ _ ⟨rfl, rfl⟩
      simp only [go_sem, reduceIte, Nat.reduceEqDiff, Nat.reduceAdd, Nat.reduceLeDiff, Nat.reducePow, Nat.reduceDiv, Nat.reduceMod, decide_true]
      exact ⟨by simp only [Conf.won, c1, Bool.or_true, Bool.true_or, Bool.false_or, Bool.and_true, Bool.true_and, Bool.false_and, Bool.and_false], Ext.b1 _⟩
  · have c3 : x.new.length = 0 := by omega
    simp only [go_sem, reduceIte, Nat.reduceEqDiff, Nat.reduceAdd, Nat.reduceLeDiff, Nat.reducePow, Nat.reduceDiv, Nat.reduceMod, decide_true, decide_eq_false c2]
    refine wCall_use ⟨hg.1, hg.2 F F' _ x.old yes _ _ (ho.up (Ext.b1 _)) (hb.up (Ext.b1 _)) hl.1 hy⟩ ?_
    rintro _ _ ⟨rfl, rfl⟩
    simp only [go_sem, reduceIte, Nat.reduceEqDiff, Nat.reduceAdd, Nat.reduceLeDiff, Nat.reducePow, Nat.reduceDiv, Nat.reduceMod, decide_true]
    exact ⟨by simp only [Conf.won, decide_eq_true c3, Bool.true_or, Bool.false_or, Bool.and_true, Bool.true_and, Bool.false_and, Bool.and_false], Ext.b1 _⟩

end Glb

/-
  What enough have reached: the program's function and the document's answer so.
-/
namespace Glb
open Go
set_option maxRecDepth 10000
set_option maxHeartbeats 4000000

/-- who has reached a number -/
def yesOf (v : Int) (ps : List (Int × Int)) : List Int := (ps.filter fun p => decide (v ≤ p.2)).map (·.1)
def Conf.best (x : Conf) (all : List (Int × Int)) : List (Int × Int) → Int → Int
  | [], b => b
  | p :: r, b => x.best all r (if b < p.2 ∧ x.won (yesOf p.2 all) = true then p.2 else b)
/-- the greatest number that enough have reached -/
def Conf.agreed (x : Conf) (nodes reached : List Int) : Int := x.best (nodes.zip reached) (nodes.zip reached) 0

theorem yesOf_length (v : Int) (ps : List (Int × Int)) : (yesOf v ps).length ≤ ps.length := by simp only [yesOf, List.length_map]; exact List.length_filter_le _ _
theorem yesOf_more {v : Int} {ps : List (Int × Int)} {i : Nat} (hi : i < ps.length) : yesOf v (ps.take (i + 1)) = yesOf v (ps.take i) ++ (if v ≤ ps[i].2 then [ps[i].1] else []) := by
  rw [List.take_succ_eq_append_getElem hi]
  simp only [yesOf, List.filter_append, List.map_append, List.filter_cons, List.filter_nil]
  congr 1
  by_cases c : v ≤ ps[i].2
  · simp [c]
  · simp [c]

def AgreedOk (P : Program) (f : FuncId) : Prop :=
  isFn P f = true ∧ ∀ (F F' F'' : Nat → Prop) (h : AHeap) (x : Conf) (nodes reached : List Int) (a : List AV) (b c : AV), RdL F h x.c a → Rd F' h (dInts nodes) b → Rd F'' h (dInts reached) c → x.few (2^40) → nodes.length ≤ 2^40 → reached.length ≤ 2^40 →
    ACalls P f [.agg a, b, c] h fun r h' => r = .int .i64 (x.agreed nodes reached) ∧ h' = h

theorem quorum_Agreed_ok {P : Program} {f g : FuncId} (hf : Is P f (c_quorum_Agreed g)) (hg : WonOk P g) : AgreedOk P f := by
  refine ⟨hf.2, fun F F' F'' h x nodes reached a b c ha hb hc hx hn hr => obs (upto_int _ _ _) (fun_sound hf.1 (Nat.le_of_ble_eq_true rfl) ?_)⟩
  show vc P (c_quorum_Agreed g).code ⟨[(0, .agg a), (1, b), (2, c)], [], h⟩ (atEnd (c_quorum_Agreed g).res _)
  obtain ⟨o, n, e, rfl, ho, hne, he⟩ := rd_conf ha
  have lb := hb.ints_len
  have lc := hc.ints_len
  have mn : min (nodes.length : Int) (reached.length : Int) = ((min nodes.length reached.length : Nat) : Int) := by omega
  generalize hall : nodes.zip reached = all
  have hal : all.length = min nodes.length reached.length := by rw [← hall]; exact List.length_zip
  have hag : x.agreed nodes reached = x.best all all 0 := by simp only [Conf.agreed, hall]
  obtain ⟨c', hs, hc'⟩ := Rd.slice hc (lo := none) (hi := some (all.length : Int)) (mx := none) (by simp) (by simp) (by simp; omega) (by simp) (by simp; omega) (by simp)
  obtain ⟨b', hs2, hb'⟩ := Rd.slice hb (lo := none) (hi := some (all.length : Int)) (mx := none) (by simp) (by simp) (by simp; omega) (by simp) (by simp; omega) (by simp)
  have hc2 : Rd F'' h (dInts (reached.take all.length)) c' := by simpa [dInts, List.map_take] using hc'
  have hb2 : Rd F' h (dInts (nodes.take all.length)) b' := by simpa [dInts, List.map_take] using hb'
  have lc' := hc2.ints_len
  have lb' := hb2.ints_len
  rw [List.length_take, Nat.min_eq_left (by omega)] at lc' lb'
  have hz : ∀ i (hi : i < all.length), all[i] = (nodes[i]'(by omega), reached[i]'(by omega)) := fun i hi => by subst hall; simp
  have hbox := bx10 h (some (.arr 3 [[o, n, e]] false))
  simp only [c_quorum_Agreed, go_sem, reduceIte, Nat.reduceEqDiff, Nat.reduceAdd, Nat.reduceLeDiff, Nat.reducePow, Nat.reduceDiv, Nat.reduceMod, decide_true, ho.scalar, hne.scalar, he.scalar, lb, lc, rev_mnmx, mnmx_min, mn, ← hal, aslc, hs, lc']
  have x0 := Ext.b1 (h := h) (some (.arr 3 [[o, n, e]] false))
  refine vc_loop (fun m L h' => ∃ (i : Nat) (best : Int), lk 1 L = b ∧ lk 2 L = c ∧ lk 3 L = .ptr h.length 3 0 0 ∧ lk 7 L = .int .i64 all.length ∧ lk 8 L = .int .i64 best ∧ lk 21 L = c' ∧ lk 22 L = .int .i64 all.length ∧ lk 23 L = .int .i64 i ∧
    Ext nof (h ++ [some (.arr 3 [[o, n, e]] false)]) h' ∧ i ≤ all.length ∧ m = all.length - i ∧ x.best all (all.drop i) best = x.best all all 0) all.length ?_ ?_
  · exact ⟨0, 0, by simp [lk_ins, lk_cons], by simp [lk_ins, lk_cons], by simp [lk_ins, lk_cons], by simp [lk_ins, lk_cons], by simp [lk_ins, lk_cons], by simp [lk_ins, lk_cons], by simp [lk_ins, lk_cons], by simp [lk_ins], Ext.refl _ _, by omega, by omega, rfl⟩
  · rintro m L h1 ⟨i, best, k1, k2, k3, k7, k8, k21, k22, k23, hE, hi, rfl, hq⟩
    simp only [c_quorum_Agreed_l1, go_sem, reduceIte, Nat.reduceEqDiff, Nat.reduceAdd, Nat.reduceLeDiff, Nat.reducePow, Nat.reduceDiv, Nat.reduceMod, decide_true, k1, k2, k3, k7, k8, k21, k22, k23]
    refine wCond_split (fun ci => ?_) (fun ci => ?_)
    · simp at ci
      have e1 : IntKind.i64.wrap (↑i + 1) = (i : Int) + 1 := wrap_i64 (by omega)
      obtain ⟨p, hp, hv⟩ := ((hc2.up x0).up hE).int_at (i := i) (by rw [List.length_take]; omega)
      have hvi : (reached.take all.length)[i]'(by rw [List.length_take]; omega) = reached[i]'(by omega) := List.getElem_take
      rw [hvi] at hv
      rw [List.drop_eq_getElem_cons ci] at hq
      simp only [Conf.best, hz i ci] at hq
      simp only [go_sem, reduceIte, Nat.reduceEqDiff, Nat.reduceAdd, Nat.reduceLeDiff, Nat.reducePow, Nat.reduceDiv, Nat.reduceMod, decide_true, k1, k2, k3, k7, k8, k21, k22, k23, hp, hv]
      generalize reached[i]'(by omega) = v at *
      by_cases cb : v ≤ best
      · simp only [go_sem, reduceIte, Nat.reduceEqDiff, Nat.reduceAdd, Nat.reduceLeDiff, Nat.reducePow, Nat.reduceDiv, Nat.reduceMod, decide_true, k1, k2, k3, k7, k8, k21, k22, k23, decide_eq_true cb, e1]
        rw [if_neg (fun h => by omega)] at hq
        exact ⟨_, by omega, i + 1, best, by simp, by simp, hE, ci, rfl, hq⟩
      · simp only [go_sem, reduceIte, Nat.reduceEqDiff, Nat.reduceAdd, Nat.reduceLeDiff, Nat.reducePow, Nat.reduceDiv, Nat.reduceMod, decide_true, k1, k2, k3, k7, k8, k21, k22, k23, decide_eq_false cb, hs2, lb']
        refine vc_loop (fun m L h' => ∃ (j : Nat) (o' : AV), lk 1 L = b ∧ lk 2 L = c ∧ lk 3 L = .ptr h.length 3 0 0 ∧ lk 7 L = .int .i64 all.length ∧ lk 8 L = .int .i64 best ∧ lk 10 L = .int .i64 v ∧ lk 11 L = o' ∧ lk 21 L = c' ∧ lk 22 L = .int .i64 all.length ∧ lk 23 L = .int .i64 i ∧
          lk 32 L = b' ∧ lk 33 L = .int .i64 all.length ∧ lk 34 L = .int .i64 j ∧ Own (dInts (yesOf v (all.take j))) (fun m => h1.length ≤ m) h' o' ∧ canApp h' o' ∧ Ext nof h1 h' ∧ j ≤ all.length ∧ m = all.length - j) all.length ?_ ?_
        · exact ⟨0, .nils, by simp [lk_ins, lk_cons, k1], by simp [lk_ins, lk_cons, k2], by simp [lk_ins, lk_cons, k3], by simp [lk_ins, lk_cons, k7], by simp [lk_ins, lk_cons, k8], by simp [lk_ins, lk_cons], by simp [lk_ins, lk_cons], by simp [lk_ins, lk_cons, k21], by simp [lk_ins, lk_cons, k22], by simp [lk_ins, lk_cons, k23],
            by simp [lk_ins, lk_cons], by simp [lk_ins, lk_cons], by simp [lk_ins], by simpa [yesOf, dInts] using Own.nils 1, trivial, Ext.refl _ _, by omega, by omega⟩
        · rintro m L h2 ⟨j, o', k1, k2, k3, k7, k8, k10, k11, k21, k22, k23, k32, k33, k34, hO, hA, hE2, hj, rfl⟩
          simp only [c_quorum_Agreed_l0, go_sem, reduceIte, Nat.reduceEqDiff, Nat.reduceAdd, Nat.reduceLeDiff, Nat.reducePow, Nat.reduceDiv, Nat.reduceMod, decide_true, k1, k2, k3, k7, k8, k10, k11, k21, k22, k23, k32, k33, k34]
          refine wCond_split (fun cj => ?_) (fun cj => ?_)
          · simp at cj
            have e2 : IntKind.i64.wrap (↑j + 1) = (j : Int) + 1 := wrap_i64 (by omega)
            obtain ⟨q, hq1, hv1⟩ := (((hb2.up x0).up hE).up hE2).int_at (i := j) (by rw [List.length_take]; omega)
            obtain ⟨q2, hq2, hv2⟩ := (((hc.up x0).up hE).up hE2).int_at (i := j) (by omega)
            have hvj : (nodes.take all.length)[j]'(by rw [List.length_take]; omega) = nodes[j]'(by omega) := List.getElem_take
            rw [hvj] at hv1
            have hmore := yesOf_more (v := v) cj
            rw [hz j cj] at hmore
            simp only at hmore
            simp only [go_sem, reduceIte, Nat.reduceEqDiff, Nat.reduceAdd, Nat.reduceLeDiff, Nat.reducePow, Nat.reduceDiv, Nat.reduceMod, decide_true, k1, k2, k3, k7, k8, k10, k11, k21, k22, k23, k32, k33, k34, hq1, hv1, hq2, hv2]
            generalize nodes[j]'(by omega) = nj at *
            generalize reached[j]'(by omega) = rj at *
            by_cases cv : v ≤ rj
            · rw [if_pos cv] at hmore
              have hyl := yesOf_length v (all.take j)
              rw [List.length_take] at hyl
              obtain ⟨o2, h3, ha, ho', hc2', he'⟩ := own_app (bytes := 8) (es := [[.int .i64 nj]]) (h := h2 ++ [some (.arr 1 [[.int .i64 nj]] false)]) hO hA (Ext.app _ _ _) (ys := [[.int .i64 nj]])
                (by simp [OwnLL, OwnL, Own]) hE2.1 (by simp; omega)
              simp only [go_sem, reduceIte, Nat.reduceEqDiff, Nat.reduceAdd, Nat.reduceLeDiff, Nat.reducePow, Nat.reduceDiv, Nat.reduceMod, decide_true, k1, k2, k3, k7, k8, k10, k11, k21, k22, k23, k32, k33, k34, decide_eq_true cv, aappend_of (aelems_new h2 1 [[.int .i64 nj]] false (some 1) (len := 1) rfl), ha, e2]
              refine ⟨_, by omega, j + 1, o2, rfl, by simp, ?_, hc2', ?_, cj, rfl⟩
              · rw [hmore, dInts, List.map_append]; exact ho'
              · exact (hE2.tr (Ext.b1 _)).then he' (fun m hm hm' => by have := hE2.1; omega)
            · rw [if_neg cv, List.append_nil] at hmore
              simp only [go_sem, reduceIte, Nat.reduceEqDiff, Nat.reduceAdd, Nat.reduceLeDiff, Nat.reducePow, Nat.reduceDiv, Nat.reduceMod, decide_true, k1, k2, k3, k7, k8, k10, k11, k21, k22, k23, k32, k33, k34, decide_eq_false cv, e2]
              exact ⟨_, by omega, j + 1, o', rfl, by simp, by rw [hmore]; exact hO, hA, hE2, cj, rfl⟩
          · simp at cj
            obtain rfl : j = all.length := by omega
            rw [List.take_length] at hO
            have B := hE2.get (hE.get hbox)
            simp only [go_sem, reduceIte, Nat.reduceEqDiff, Nat.reduceAdd, Nat.reduceLeDiff, Nat.reducePow, Nat.reduceDiv, Nat.reduceMod, decide_true, k1, k2, k3, k7, k8, k10, k11, k21, k22, k23, k32, k33, k34, B]
            have hyl := yesOf_length v all
            refine wCall_use ⟨hg.1, hg.2 F (fun _ => True) _ x (yesOf v all) _ o' ((((conf_rd ho hne he).up x0).up hE).up hE2) (Own.rd _ (fun _ _ => trivial) _ hO) hx (by omega)⟩ ?_
            rintro _ _ ⟨rfl, rfl⟩
            cases hw : x.won (yesOf v all)
            · simp only [go_sem, reduceIte, Nat.reduceEqDiff, Nat.reduceAdd, Nat.reduceLeDiff, Nat.reducePow, Nat.reduceDiv, Nat.reduceMod, decide_true, k1, k2, k3, k7, k8, k10, k11, k21, k22, k23, e1]
              rw [if_neg (fun h => by rw [hw] at h; exact absurd h.2 (by decide))] at hq
              exact ⟨_, by omega, i + 1, best, by simp, by simp, hE.tr hE2, ci, rfl, hq⟩
            · simp only [go_sem, reduceIte, Nat.reduceEqDiff, Nat.reduceAdd, Nat.reduceLeDiff, Nat.reducePow, Nat.reduceDiv, Nat.reduceMod, decide_true, k1, k2, k3, k7, k8, k10, k11, k21, k22, k23, e1]
              rw [if_pos ⟨by omega, hw⟩] at hq
              exact ⟨_, by omega, i + 1, v, by simp, by simp, hE.tr hE2, ci, rfl, hq⟩
    · simp at ci
      obtain rfl : i = all.length := by omega
      rw [List.drop_length] at hq
      simp only [Conf.best] at hq
      simp only [go_sem, reduceIte, Nat.reduceEqDiff, Nat.reduceAdd, Nat.reduceLeDiff, Nat.reducePow, Nat.reduceDiv, Nat.reduceMod, decide_true, k8, hq, hag]
      exact x0.tr hE

theorem gleberef10_Agreed_ok {P : Program} {f g : FuncId} (hf : Is P f (c_gleberef10_Agreed g)) (hg : WonOk P g) : AgreedOk P f := by
  refine ⟨hf.2, fun F F' F'' h x nodes reached a b c ha hb hc hx hn hr => obs (upto_int _ _ _) (fun_sound hf.1 (Nat.le_of_ble_eq_true rfl) ?_)⟩
  show vc P (c_gleberef10_Agreed g).code ⟨[(0, .agg a), (1, b), (2, c)], [], h⟩ (atEnd (c_gleberef10_Agreed g).res _)
  obtain ⟨o, n, e, rfl, ho, hne, he⟩ := rd_conf ha
  have lb := hb.ints_len
  have lc := hc.ints_len
  generalize hall : nodes.zip reached = all
  have hal : all.length = min nodes.length reached.length := by rw [← hall]; exact List.length_zip
  have hag : x.agreed nodes reached = x.best all all 0 := by simp only [Conf.agreed, hall]
  have hz : ∀ i (hi : i < all.length), all[i] = (nodes[i]'(by omega), reached[i]'(by omega)) := fun i hi => by subst hall; simp
  have hbox := bx10 h (some (.arr 3 [[o, n, e]] false))
  simp only [c_gleberef10_Agreed, go_sem, reduceIte, Nat.reduceEqDiff, Nat.reduceAdd, Nat.reduceLeDiff, Nat.reducePow, Nat.reduceDiv, Nat.reduceMod, decide_true, ho.scalar, hne.scalar, he.scalar]
  have x0 := Ext.b1 (h := h) (some (.arr 3 [[o, n, e]] false))
  refine vc_loop (fun m L h' => ∃ (i : Nat) (best : Int), lk 1 L = b ∧ lk 2 L = c ∧ lk 3 L = .ptr h.length 3 0 0 ∧ lk 7 L = .int .i64 best ∧ lk 8 L = .int .i64 i ∧
    Ext nof (h ++ [some (.arr 3 [[o, n, e]] false)]) h' ∧ i ≤ all.length ∧ m = all.length - i ∧ x.best all (all.drop i) best = x.best all all 0) all.length ?_ ?_
  · exact ⟨0, 0, by simp [lk_ins, lk_cons], by simp [lk_ins, lk_cons], by simp [lk_ins, lk_cons], by simp [lk_ins, lk_cons], by simp [lk_ins], Ext.refl _ _, by omega, by omega, rfl⟩
  · rintro m L h1 ⟨i, best, k1, k2, k3, k7, k8, hE, hi, rfl, hq⟩
    simp only [c_gleberef10_Agreed_l1, go_sem, reduceIte, Nat.reduceEqDiff, Nat.reduceAdd, Nat.reduceLeDiff, Nat.reducePow, Nat.reduceDiv, Nat.reduceMod, decide_true, k1, k2, k3, k7, k8, lb, lc]
    by_cases ci : i < all.length
    · have e1 : IntKind.i64.wrap (↑i + 1) = (i : Int) + 1 := wrap_i64 (by omega)
      obtain ⟨p, hp, hv⟩ := ((hc.up x0).up hE).int_at (i := i) (by omega)
      rw [List.drop_eq_getElem_cons ci] at hq
      simp only [Conf.best, hz i ci] at hq
      have c1 : (i : Int) < reached.length := by omega
      have c2 : (i : Int) < nodes.length := by omega
      simp only [go_sem, reduceIte, Nat.reduceEqDiff, Nat.reduceAdd, Nat.reduceLeDiff, Nat.reducePow, Nat.reduceDiv, Nat.reduceMod, decide_true, k1, k2, k3, k7, k8, decide_eq_true c1, decide_eq_true c2, lb, lc]
      have hiv : i < reached.length := by omega
      refine vc_loop (fun m L h' => ∃ (j : Nat) (o' : AV), lk 1 L = b ∧ lk 2 L = c ∧ lk 3 L = .ptr h.length 3 0 0 ∧ lk 7 L = .int .i64 best ∧ lk 8 L = .int .i64 i ∧ lk 9 L = o' ∧ lk 10 L = .int .i64 j ∧
          Own (dInts (yesOf reached[i] (all.take j))) (fun m => h1.length ≤ m) h' o' ∧ canApp h' o' ∧ Ext nof h1 h' ∧ j ≤ all.length ∧ m = all.length - j) all.length ?_ ?_
      · exact ⟨0, .nils, by simp [lk_ins, lk_cons, k1], by simp [lk_ins, lk_cons, k2], by simp [lk_ins, lk_cons, k3], by simp [lk_ins, lk_cons, k7], by simp [lk_ins, lk_cons, k8], by simp [lk_ins, lk_cons], by simp [lk_ins],
          by simpa [yesOf, dInts] using Own.nils 1, trivial, Ext.refl _ _, by omega, by omega⟩
      · rintro m L h2 ⟨j, o', k1, k2, k3, k7, k8, k9, k10, hO, hA, hE2, hj, rfl⟩
        simp only [c_gleberef10_Agreed_l0, go_sem, reduceIte, Nat.reduceEqDiff, Nat.reduceAdd, Nat.reduceLeDiff, Nat.reducePow, Nat.reduceDiv, Nat.reduceMod, decide_true, k1, k2, k3, k7, k8, k9, k10, lb, lc]
        have hv' := (((hc.up x0).up hE).up hE2).int_at hiv
        obtain ⟨p2, hp2, hv2⟩ := hv'
        by_cases cj : j < all.length
        · have e2 : IntKind.i64.wrap (↑j + 1) = (j : Int) + 1 := wrap_i64 (by omega)
          obtain ⟨q, hq1, hv1⟩ := (((hb.up x0).up hE).up hE2).int_at (i := j) (by omega)
          obtain ⟨q3, hq3, hv3⟩ := (((hc.up x0).up hE).up hE2).int_at (i := j) (by omega)
          have hmore := yesOf_more (v := reached[i]) cj
          rw [hz j cj] at hmore
          simp only at hmore
          have c1 : (j : Int) < reached.length := by omega
          have c2 : (j : Int) < nodes.length := by omega
          simp only [go_sem, reduceIte, Nat.reduceEqDiff, Nat.reduceAdd, Nat.reduceLeDiff, Nat.reducePow, Nat.reduceDiv, Nat.reduceMod, decide_true, k1, k2, k3, k7, k8, k9, k10, decide_eq_true c1, decide_eq_true c2, lb, lc, hq1, hv1, hq3, hv3, hp2, hv2]
          generalize nodes[j]'(by omega) = nj at *
          generalize reached[j]'(by omega) = rj at *
          by_cases cv : reached[i] ≤ rj
          · rw [if_pos cv] at hmore
            have hyl := yesOf_length reached[i] (all.take j)
            rw [List.length_take] at hyl
            obtain ⟨o2, h3, ha, ho', hc2', he'⟩ := own_app (bytes := 8) (es := [[.int .i64 nj]]) (h := h2 ++ [some (.arr 1 [[.int .i64 nj]] false)]) hO hA (Ext.app _ _ _) (ys := [[.int .i64 nj]])
              (by simp [OwnLL, OwnL, Own]) hE2.1 (by simp; omega)
            simp only [go_sem, reduceIte, Nat.reduceEqDiff, Nat.reduceAdd, Nat.reduceLeDiff, Nat.reducePow, Nat.reduceDiv, Nat.reduceMod, decide_true, k1, k2, k3, k7, k8, k9, k10, hq1, hv1, decide_eq_true cv, aappend_of (aelems_new h2 1 [[.int .i64 nj]] false (some 1) (len := 1) rfl), ha, e2]
            refine ⟨_, by omega, j + 1, o2, rfl, by simp, ?_, hc2', ?_, cj, rfl⟩
            · rw [hmore, dInts, List.map_append]; exact ho'
            · exact (hE2.tr (Ext.b1 _)).then he' (fun m hm hm' => by have := hE2.1; omega)
          · rw [if_neg cv, List.append_nil] at hmore
            simp only [go_sem, reduceIte, Nat.reduceEqDiff, Nat.reduceAdd, Nat.reduceLeDiff, Nat.reducePow, Nat.reduceDiv, Nat.reduceMod, decide_true, k1, k2, k3, k7, k8, k9, k10, decide_eq_false cv, e2]
            exact ⟨_, by omega, j + 1, o', rfl, by simp, by rw [hmore]; exact hO, hA, hE2, cj, rfl⟩
        · obtain rfl : j = all.length := by omega
          rw [List.take_length] at hO
          have B := hE2.get (hE.get hbox)
          have hyl := yesOf_length reached[i] all
          by_cases c2 : (all.length : Int) < nodes.length
          case' pos =>
            have c1 : ¬ (all.length : Int) < reached.length := by omega
            simp only [go_sem, reduceIte, Nat.reduceEqDiff, Nat.reduceAdd, Nat.reduceLeDiff, Nat.reducePow, Nat.reduceDiv, Nat.reduceMod, decide_true, decide_eq_true c2, decide_eq_false c1, k1, k2, k3, k7, k8, k9, k10, lc, lb, hp2, hv2]
          case' neg =>
            simp only [go_sem, reduceIte, Nat.reduceEqDiff, Nat.reduceAdd, Nat.reduceLeDiff, Nat.reducePow, Nat.reduceDiv, Nat.reduceMod, decide_true, decide_eq_false c2, k1, k2, k3, k7, k8, k9, k10, lc, lb, hp2, hv2]
          all_goals
            by_cases cb : best < reached[i]
            · simp only [go_sem, reduceIte, Nat.reduceEqDiff, Nat.reduceAdd, Nat.reduceLeDiff, Nat.reducePow, Nat.reduceDiv, Nat.reduceMod, decide_true, decide_eq_true cb, k3, k9, B]
              refine wCall_use ⟨hg.1, hg.2 F (fun _ => True) _ x (yesOf reached[i] all) _ o' ((((conf_rd ho hne he).up x0).up hE).up hE2) (Own.rd _ (fun _ _ => trivial) _ hO) hx (by omega)⟩ ?_
              rintro _ _ ⟨rfl, rfl⟩
              cases hw : x.won (yesOf reached[i] all)
              · simp only [go_sem, reduceIte, Nat.reduceEqDiff, Nat.reduceAdd, Nat.reduceLeDiff, Nat.reducePow, Nat.reduceDiv, Nat.reduceMod, decide_true, k1, k2, k3, k7, k8, k9, k10, e1]
                rw [if_neg (fun h => by rw [hw] at h; exact absurd h.2 (by decide))] at hq
                exact ⟨_, by omega, i + 1, best, by simp, by simp, hE.tr hE2, ci, rfl, hq⟩
              · simp only [go_sem, reduceIte, Nat.reduceEqDiff, Nat.reduceAdd, Nat.reduceLeDiff, Nat.reducePow, Nat.reduceDiv, Nat.reduceMod, decide_true, k1, k2, k3, k7, k8, k9, k10, hp2, hv2, e1]
                rw [if_pos ⟨cb, hw⟩] at hq
                exact ⟨_, by omega, i + 1, reached[i], by simp, by simp, hE.tr hE2, ci, rfl, hq⟩
            · simp only [go_sem, reduceIte, Nat.reduceEqDiff, Nat.reduceAdd, Nat.reduceLeDiff, Nat.reducePow, Nat.reduceDiv, Nat.reduceMod, decide_true, decide_eq_false cb, k1, k2, k3, k7, k8, k9, k10, e1]
              rw [if_neg (fun h => cb h.1)] at hq
              exact ⟨_, by omega, i + 1, best, by simp, by simp, hE.tr hE2, ci, rfl, hq⟩
    · obtain rfl : i = all.length := by omega
      rw [List.drop_length] at hq
      simp only [Conf.best] at hq
      by_cases c2 : (all.length : Int) < reached.length
      · have c1 : ¬ (all.length : Int) < nodes.length := by omega
        simp only [go_sem, reduceIte, Nat.reduceEqDiff, Nat.reduceAdd, Nat.reduceLeDiff, Nat.reducePow, Nat.reduceDiv, Nat.reduceMod, decide_true, decide_eq_true c2, decide_eq_false c1, k1, k2, lb, lc, k7, k8, hq, hag]
        exact x0.tr hE
      · simp only [go_sem, reduceIte, Nat.reduceEqDiff, Nat.reduceAdd, Nat.reduceLeDiff, Nat.reducePow, Nat.reduceDiv, Nat.reduceMod, decide_true, decide_eq_false c2, k1, k2, lb, lc, k7, k8, hq, hag]
        exact x0.tr hE

end Glb

/-
  Lists lent and kept, a number picked; what is told of those that have reached a number.
-/
namespace Glb
open Go
set_option maxRecDepth 10000
set_option maxHeartbeats 4000000

theorem glebelaw10_in_ok {P : Program} {f : FuncId} (hf : Is P f c_glebelaw10_in) : HasOk P f := gleberef10_In_ok hf
theorem glebelaw10_long_ok {P : Program} {f : FuncId} (hf : Is P f c_glebelaw10_long) {F : Nat → Prop} {h : AHeap} {x : Conf} {a : List AV} (ha : RdL F h x.c a) :
    ACalls P f [.agg a] h fun r h' => r = .bool (decide (300 < x.old.length ∨ 300 < x.new.length ∨ 300 < x.learners.length)) ∧ h' = h := by
  refine obs (upto_bool _ _) (fun_sound hf.1 (Nat.le_of_ble_eq_true rfl) ?_)
  show vc P c_glebelaw10_long.code ⟨[(0, .agg a)], [], h⟩ (atEnd c_glebelaw10_long.res _)
  obtain ⟨o, n, e, rfl, ho, hn, he⟩ := rd_conf ha
  simp only [c_glebelaw10_long, go_sem, reduceIte, Nat.reduceEqDiff, Nat.reduceAdd, Nat.reduceLeDiff, Nat.reducePow, Nat.reduceDiv, Nat.reduceMod, decide_true, ho.scalar, hn.scalar, he.scalar, ho.ints_len]
  by_cases c1 : (300 : Int) < x.old.length
  · simp only [go_sem, reduceIte, Nat.reduceEqDiff, Nat.reduceAdd, Nat.reduceLeDiff, Nat.reducePow, Nat.reduceDiv, Nat.reduceMod, decide_true, decide_eq_true c1]
    exact ⟨by simp; omega, Ext.b1 _⟩
  · simp only [go_sem, reduceIte, Nat.reduceEqDiff, Nat.reduceAdd, Nat.reduceLeDiff, Nat.reducePow, Nat.reduceDiv, Nat.reduceMod, decide_true, decide_eq_false c1, hn.ints_len]
    by_cases c2 : (300 : Int) < x.new.length
    · simp only [go_sem, reduceIte, Nat.reduceEqDiff, Nat.reduceAdd, Nat.reduceLeDiff, Nat.reducePow, Nat.reduceDiv, Nat.reduceMod, decide_true, decide_eq_true c2]
      exact ⟨by simp; omega, Ext.b1 _⟩
    · simp only [go_sem, reduceIte, Nat.reduceEqDiff, Nat.reduceAdd, Nat.reduceLeDiff, Nat.reducePow, Nat.reduceDiv, Nat.reduceMod, decide_true, decide_eq_false c2, he.ints_len]
      exact ⟨by congr 1; simp only [decide_eq_decide]; omega, Ext.b1 _⟩

def pick (k n : Int) : Int := if n < 1 then 0 else k % n
theorem pick_lt {k n : Int} (h : 0 < n) : 0 ≤ pick k n ∧ pick k n < n := by
  simp only [pick]; rw [if_neg (by omega)]
  exact ⟨Int.emod_nonneg _ (by omega), Int.emod_lt_of_pos _ h⟩

def PickOk (P : Program) (f : FuncId) : Prop := isFn P f = true ∧ ∀ (k n : Int), n ≤ 2^40 → Pure P f [.int .i64 k, .int .i64 n] (.int .i64 (pick k n))

theorem Pick_ok {P : Program} {f : FuncId} (hf : Is P f c_glebekit_Pick) : PickOk P f := by
  refine ⟨hf.2, fun k n hn h => fun_sound hf.1 (Nat.le_of_ble_eq_true rfl) ?_⟩
  show vc P c_glebekit_Pick.code ⟨[(0, .int .i64 k), (1, .int .i64 n)], [], h⟩ (atEnd c_glebekit_Pick.res _)
  simp only [c_glebekit_Pick, go_sem, reduceIte, Nat.reduceEqDiff, Nat.reduceAdd, Nat.reduceLeDiff, Nat.reducePow, Nat.reduceDiv, Nat.reduceMod, decide_true]
  by_cases c : n < 1
  · simp only [go_sem, reduceIte, Nat.reduceEqDiff, Nat.reduceAdd, Nat.reduceLeDiff, Nat.reducePow, Nat.reduceDiv, Nat.reduceMod, decide_true, decide_eq_true c, pick, if_pos c]
  · have z : ∀ {x : Option AV}, (if n = 0 then none else x) = x := fun {x} => if_neg (by omega)
    simp only [go_sem, reduceIte, Nat.reduceEqDiff, Nat.reduceAdd, Nat.reduceLeDiff, Nat.reducePow, Nat.reduceDiv, Nat.reduceMod, decide_true, decide_eq_false c, rem64, z, pick, if_neg c]
    have h1 : k.tmod n = if 0 ≤ k then k % n else -((-k) % n) := by
      split
      · rename_i h; exact Int.tmod_eq_emod_of_nonneg h
      · rename_i h
        have : k.tmod n = -((-k).tmod n) := by rw [Int.neg_tmod]; omega
        rw [this, Int.tmod_eq_emod_of_nonneg (by omega)]
    have h2 := Int.emod_nonneg k (show n ≠ 0 by omega)
    have h3 := Int.emod_lt_of_pos k (show 0 < n by omega)
    have h4 := Int.emod_nonneg (-k) (show n ≠ 0 by omega)
    have h5 := Int.emod_lt_of_pos (-k) (show 0 < n by omega)
    by_cases ck : k.tmod n < 0
    · have e : IntKind.i64.wrap (k.tmod n + n) = k % n := by
        have hk : ¬ 0 ≤ k := by intro hk; rw [if_pos hk] at h1; omega
        rw [if_neg hk] at h1
        rw [wrap_i64 (by omega), h1]
        have h6 : (-k) % n ≠ 0 := by omega
        have : k % n = (n - (-k) % n) % n := by
          have : n - (-k) % n = k + n * (1 + (-k) / n) := by have := Int.mul_ediv_add_emod (-k) n; rw [Int.mul_add]; omega
          rw [this, Int.add_mul_emod_self_left]
        rw [this, Int.emod_eq_of_lt (a := n - -k % n) (b := n) (by omega) (by omega)]; omega
      simp only [go_sem, reduceIte, Nat.reduceEqDiff, Nat.reduceAdd, Nat.reduceLeDiff, Nat.reducePow, Nat.reduceDiv, Nat.reduceMod, decide_true, decide_eq_true ck, e]
    · have e : k.tmod n = k % n := by
        by_cases hk : 0 ≤ k
        · rw [if_pos hk] at h1; exact h1
        · rw [if_neg hk] at h1
          have h7 : (-k) % n = 0 := by omega
          have : k % n = 0 := by have := Int.dvd_of_emod_eq_zero h7; exact Int.emod_eq_zero_of_dvd ((Int.dvd_neg).1 this)
          omega
      rw [e] at ck
      simp only [go_sem, reduceIte, Nat.reduceEqDiff, Nat.reduceAdd, Nat.reduceLeDiff, Nat.reducePow, Nat.reduceDiv, Nat.reduceMod, decide_true, e, decide_eq_false ck]

theorem ownLL_ints (k : IntKind) (F : Nat → Prop) (h : AHeap) : ∀ l : List Int, OwnLL (l.map fun n => [.int k n]) F h (l.map fun n => [AV.int k n])
  | [] => by simp only [List.map_nil, OwnLL]
  | n :: l => by simp only [List.map_cons, OwnLL, OwnL, Own]; exact ⟨_, _, rfl, ⟨_, _, rfl, rfl, rfl⟩, ownLL_ints k F h l⟩
theorem ownLL_ints_eq {k : IntKind} {F : Nat → Prop} {h : AHeap} : ∀ {l : List Int} {r : List (List AV)}, OwnLL (l.map fun n => [.int k n]) F h r → r = l.map fun n => [AV.int k n]
  | [], r, hh => by simp only [List.map_nil, OwnLL] at hh; simpa using hh
  | n :: l, r, hh => by
    simp only [List.map_cons, OwnLL, OwnL, Own] at hh
    obtain ⟨a, q, rfl, ⟨_, _, rfl, rfl, rfl⟩, h2⟩ := hh
    rw [ownLL_ints_eq h2]; rfl

def lent (l : List Int) : List Int := l ++ List.replicate 5 (-77)
def LentIntsP (P : Program) (f : FuncId) : Prop := isFn P f = true ∧ ∀ l : List Int, l.length ≤ 2^40 → Pure P f [aints l] (aints (lent l))

theorem LentInts_ok {P : Program} {f : FuncId} (hf : Is P f c_glebekit_LentInts) : LentIntsP P f := by
  refine ⟨hf.2, fun l hl => pure_d (d := dInts (lent l)) fun h => fun_sound hf.1 (Nat.le_of_ble_eq_true rfl) ?_⟩
  show vc P c_glebekit_LentInts.code ⟨[(0, aints l)], [], h⟩ (atEnd c_glebekit_LentInts.res _)
  have e1 : IntKind.i64.wrap ((l.length : Int) + 5) = ((l.length + 5 : Nat) : Int) := by rw [wrap_i64 (by omega)]; omega
  have hm := amks_int (h := h) (sz := 1) (bytes := 8) (zero := [.int .i64 0]) (k := .i64) (k' := .i64) (l := ((l.length + 5 : Nat) : Int)) (c := ((l.length + 5 : Nat) : Int)) (by omega) (by omega) (by omega)
  simp only [Int.toNat_natCast] at hm
  have hlen : (lent l).length = l.length + 5 := by simp [lent]
  simp only [c_glebekit_LentInts, go_sem, reduceIte, Nat.reduceEqDiff, Nat.reduceAdd, Nat.reduceLeDiff, Nat.reducePow, Nat.reduceDiv, Nat.reduceMod, decide_true, e1, hev_mks, hm]
  refine vc_loop (fun m L h' => ∃ (i : Nat) (row : List (List AV)), lk 0 L = aints l ∧ lk 3 L = .ref h.length 1 0 (l.length + 5) (some (l.length + 5)) ∧ lk 4 L = .int .i64 i ∧ h' = h ++ [some (.arr 1 row false)] ∧ row.length = l.length + 5 ∧
    (∀ j, j < l.length + 5 → ∃ v, row[j]? = some [.int .i64 v]) ∧ (∀ j, j < i → row[j]? = (lent l)[j]?.map fun n => [.int .i64 n]) ∧ i ≤ l.length + 5 ∧ m = l.length + 5 - i) (l.length + 5) ?_ ?_
  · exact ⟨0, _, by simp [lk_ins, lk_cons], by simp [lk_ins, lk_cons], by simp [lk_ins], rfl, by simp, fun j hj => ⟨0, by simp [hj]⟩, fun j hj => by omega, by omega, by omega⟩
  · rintro m L h' ⟨i, row, h0, h3, h4, rfl, hr, hv, hd, hi, rfl⟩
    have la3 : alen (.ref h.length 1 0 (l.length + 5) (some (l.length + 5))) = some (.int .i64 ((l.length + 5 : Nat) : Int)) := rfl
    simp only [c_glebekit_LentInts_l0, go_sem, reduceIte, Nat.reduceEqDiff, Nat.reduceAdd, Nat.reduceLeDiff, Nat.reducePow, Nat.reduceDiv, Nat.reduceMod, decide_true, h0, h3, h4, la3]
    refine wCond_split (fun ci => ?_) (fun ci => ?_)
    · simp at ci
      have ci' : i < l.length + 5 := by omega
      obtain ⟨v, hvi⟩ := hv i ci'
      have e2 : IntKind.i64.wrap (↑i + 1) = (i : Int) + 1 := wrap_i64 (by omega)
      have hix : aindex 1 (.ref h.length 1 0 (l.length + 5) (some (l.length + 5))) (.int .i64 i) = some (.ptr h.length 1 i 0) := by
        simp only [aindex]; rw [if_pos ⟨trivial, by omega, by omega⟩]; simp
      have st : ∀ (row : List (List AV)) (u w : Int), row[i]? = some [.int .i64 w] → astore (h ++ [some (.arr 1 row false)]) 1 (.ptr h.length 1 i 0) (.int .i64 u) = some (h ++ [some (.arr 1 (row.set i [.int .i64 u]) false)]) := fun row u w hw => by
        have := astore_elem (x := .int .i64 u) (bx10 h (some (.arr 1 row false))) hw rfl rfl rfl rfl
        rw [this, sx10]
      simp only [go_sem, reduceIte, Nat.reduceEqDiff, Nat.reduceAdd, Nat.reduceLeDiff, Nat.reducePow, Nat.reduceDiv, Nat.reduceMod, decide_true, h0, h3, h4, hix, st row (-77) v hvi]
      have hset : (row.set i [.int .i64 (-77)])[i]? = some [.int .i64 (-77)] := List.getElem?_set_self (by omega)
      have nxt : ∀ (u : Int) (row' : List (List AV)), (∀ j, j ≠ i → row'[j]? = row[j]?) → row'[i]? = some [.int .i64 u] → (lent l)[i]? = some u → (∀ j, j < l.length + 5 → ∃ v, row'[j]? = some [.int .i64 v]) ∧ (∀ j, j < i + 1 → row'[j]? = (lent l)[j]?.map fun n => [.int .i64 n]) := by
        intro u row' ho hn hl
        refine ⟨fun j hj => ?_, fun j hj => ?_⟩
        · by_cases e : j = i
          · subst e; exact ⟨u, hn⟩
          · rw [ho j e]; exact hv j hj
        · by_cases e : j = i
          · subst e; rw [hn, hl]; rfl
          · rw [ho j e]; exact hd j (by omega)
      by_cases cl : (i : Int) < l.length
      · obtain ⟨p, hp, hpv⟩ := (rd_aints nof (h ++ [some (.arr 1 (row.set i [.int .i64 (-77)]) false)]) l).int_at (i := i) (by omega)
        simp only [go_sem, reduceIte, Nat.reduceEqDiff, Nat.reduceAdd, Nat.reduceLeDiff, Nat.reducePow, Nat.reduceDiv, Nat.reduceMod, decide_true, h0, h3, h4, decide_eq_true cl, hix, hp, hpv, st _ (l[i]'(by omega)) (-77) hset, e2]
        obtain ⟨q1, q2⟩ := nxt (l[i]'(by omega)) ((row.set i [.int .i64 (-77)]).set i [.int .i64 (l[i]'(by omega))]) (fun j hj => by rw [List.getElem?_set_ne (fun e => hj e.symm), List.getElem?_set_ne (fun e => hj e.symm)])
          (List.getElem?_set_self (by simp; omega)) (by simp only [lent]; rw [List.getElem?_append_left (by omega)]; simp)
        exact ⟨_, by omega, i + 1, _, by simp, rfl, by simpa using hr, q1, q2, by omega, rfl⟩
      · simp only [go_sem, reduceIte, Nat.reduceEqDiff, Nat.reduceAdd, Nat.reduceLeDiff, Nat.reducePow, Nat.reduceDiv, Nat.reduceMod, decide_true, h0, h3, h4, decide_eq_false cl, e2]
        obtain ⟨q1, q2⟩ := nxt (-77) (row.set i [.int .i64 (-77)]) (fun j hj => List.getElem?_set_ne (fun e => hj e.symm)) hset (by simp only [lent]; rw [List.getElem?_append_right (by omega), List.getElem?_replicate, if_pos (by omega)])
        exact ⟨_, by omega, i + 1, _, by simp, rfl, by simpa using hr, q1, q2, by omega, rfl⟩
    · simp at ci
      obtain rfl : i = l.length + 5 := by omega
      have hrow : row = (lent l).map fun n => [.int .i64 n] := by
        apply List.ext_getElem?
        intro j
        rcases Nat.lt_or_ge j (l.length + 5) with hj | hj
        · rw [hd j hj, List.getElem?_map]
        · rw [List.getElem?_eq_none (by omega), List.getElem?_eq_none (by simp [hlen]; omega)]
      subst hrow
      simp only [go_sem, reduceIte, Nat.reduceEqDiff, Nat.reduceAdd, Nat.reduceLeDiff, Nat.reducePow, Nat.reduceDiv, Nat.reduceMod, decide_true, h3]
      refine ⟨?_, Ext.b1 _⟩
      simp only [dInts, Own, List.length_map, hlen]
      exact .inr (.inr ⟨_, 0, _, _, false, rfl, Nat.le_refl _, bx10 _ _, by simp [hlen], (fun c hc => by cases hc; omega), by rw [List.drop_zero, List.take_of_length_le (by simp [hlen])]; exact ownLL_ints .i64 _ _ (lent l)⟩)

def KeptOk (P : Program) (f : FuncId) : Prop :=
  isFn P f = true ∧ ∀ (F : Nat → Prop) (h : AHeap) (l : List Int) (a b : AV), Rd F h (dInts (lent l)) a → Rd F h (dInts l) b → l.length ≤ 2^40 → ACalls P f [a, b] h fun r h' => r = .bool true ∧ h' = h

theorem KeptInts_ok {P : Program} {f g : FuncId} (hf : Is P f (c_glebekit_KeptInts g)) (hg : SameOk P g .i64) : KeptOk P f := by
  refine ⟨hf.2, fun F h l a b ha hb hl => fun_sound hf.1 (Nat.le_of_ble_eq_true rfl) ?_⟩
  show vc P (c_glebekit_KeptInts g).code ⟨[(0, a), (1, b)], [], h⟩ (atEnd (c_glebekit_KeptInts g).res _)
  have hlen : (lent l).length = l.length + 5 := by simp [lent]
  have la := ha.ints_len
  have lb := hb.ints_len
  rw [hlen] at la
  have e1 : IntKind.i64.wrap ((l.length : Int) + 5) = ((l.length + 5 : Nat) : Int) := by rw [wrap_i64 (by omega)]; omega
  obtain ⟨c, hs, hc⟩ := Rd.slice ha (lo := none) (hi := some (l.length : Int)) (mx := none) (by simp) (by simp) (by simp [hlen]; omega) (by simp) (by simp [hlen]; omega) (by simp)
  have hc2 : Rd F h (dInts l) c := by
    have : (lent l).take l.length = l := by simp [lent]
    simpa [dInts, ← List.map_take, this] using hc
  simp only [c_glebekit_KeptInts, go_sem, reduceIte, Nat.reduceEqDiff, Nat.reduceAdd, Nat.reduceLeDiff, Nat.reducePow, Nat.reduceDiv, Nat.reduceMod, decide_true, la, lb, e1, aslc, hs]
  refine use1 hg.1 (hg.2 F _ l l c b hc2 hb hl) ?_
  simp only [go_sem, reduceIte, Nat.reduceEqDiff, Nat.reduceAdd, Nat.reduceLeDiff, Nat.reducePow, Nat.reduceDiv, Nat.reduceMod, decide_true, lb]
  refine vc_loop (fun m L h' => ∃ (i : Nat), lk 0 L = a ∧ lk 5 L = .int .i64 i ∧ h' = h ∧ l.length ≤ i ∧ i ≤ l.length + 5 ∧ m = l.length + 5 - i) 5 ?_ ?_
  · exact ⟨l.length, by simp [lk_ins, lk_cons], by simp [lk_ins], rfl, by omega, by omega, by omega⟩
  · rintro m L h' ⟨i, h0, h5, rfl, hi, hi2, rfl⟩
    simp only [c_glebekit_KeptInts_l0, go_sem, reduceIte, Nat.reduceEqDiff, Nat.reduceAdd, Nat.reduceLeDiff, Nat.reducePow, Nat.reduceDiv, Nat.reduceMod, decide_true, h0, h5, la]
    refine wCond_split (fun ci => ?_) (fun ci => ?_)
    · simp at ci
      obtain ⟨p, hp, hv⟩ := ha.int_at (i := i) (by omega)
      have e : IntKind.i64.wrap (↑i + 1) = (i : Int) + 1 := wrap_i64 (by omega)
      have hx : (lent l)[i]'(by omega) = -77 := by simp only [lent]; rw [List.getElem_append_right hi]; exact List.getElem_replicate _
      simp only [go_sem, reduceIte, Nat.reduceEqDiff, Nat.reduceAdd, Nat.reduceLeDiff, Nat.reducePow, Nat.reduceDiv, Nat.reduceMod, decide_true, h0, h5, hp, hv, hx, e]
      exact ⟨_, by omega, i + 1, by simp, by omega, by omega, rfl⟩
    · simp only [go_sem, reduceIte, Nat.reduceEqDiff, Nat.reduceAdd, Nat.reduceLeDiff, Nat.reducePow, Nat.reduceDiv, Nat.reduceMod, decide_true]

theorem aints_slice (l : List Int) (n : Nat) (hn : n ≤ l.length) : ∃ a, aslice 1 (aints l) none (some (n : Int)) none = some a ∧ ∀ F h, Rd F h (dInts (l.take n)) a := by
  refine ⟨.vals 0 (sliceClip none n (l.map fun n => [AV.int .i64 n]).length false) 1 ((l.map fun n => [AV.int .i64 n]).take n), ?_, fun F h => ?_⟩
  · rw [aints_eq]; simp only [aslice, Option.getD_none, Option.getD_some]; rw [if_pos ⟨trivial, by omega, by omega, by simp; omega, by omega, by simp; omega⟩]; simp
  · simp only [dInts, Rd]
    refine ⟨_, .inr (.inl ⟨_, _, rfl⟩), ?_⟩
    have := OwnLL.rd (F := F) (F' := F) _ (fun _ x => x) _ (ownLL_ints .i64 F h (l.take n))
    rw [← List.map_take]
    exact this

theorem agrees_ok {P : Program} {f fl fw fe fa ra fk : FuncId} (hf : Is P f (c_glebelaw10_QuorumAgrees fl fw fe fa ra fk)) (hl : Is P fl c_glebelaw10_long) (hw : YesOk P fw) (he : LentIntsP P fe) (ha : AgreedOk P fa) (hr : AgreedOk P ra) (hk : KeptOk P fk)
    (x : Conf) (nodes reached : List Int) (h : AHeap) : ACalls P f [.agg x.v, aints nodes, aints reached] h fun r _ => r = .bool true := by
  refine fun_sound hf.1 (Nat.le_of_ble_eq_true rfl) ?_
  show vc P (c_glebelaw10_QuorumAgrees fl fw fe fa ra fk).code ⟨[(0, .agg x.v), (1, aints nodes), (2, aints reached)], [], h⟩ (atEnd (c_glebelaw10_QuorumAgrees fl fw fe fa ra fk).res _)
  have yes : ∀ {h : AHeap} {K : AV → AHeap → Prop}, K (.bool true) h → wCall P fw [] h K := fun hK => wCall_use ⟨hw.1, hw.2 _⟩ (by rintro _ _ ⟨rfl, rfl⟩; exact hK)
  simp only [c_glebelaw10_QuorumAgrees, Conf.v_eq, go_sem, reduceIte, Nat.reduceEqDiff, Nat.reduceAdd, Nat.reduceLeDiff, Nat.reducePow, Nat.reduceDiv, Nat.reduceMod, decide_true]
  have hx : ∀ h, RdL nof h x.c [aints x.old, aints x.new, aints x.learners] := fun h => by simpa only [Conf.v_eq] using rd_confv nof h x
  refine use1 hl.2 (glebelaw10_long_ok hl (hx _)) ?_
  by_cases c : 300 < x.old.length ∨ 300 < x.new.length ∨ 300 < x.learners.length
  · simp only [go_sem, reduceIte, Nat.reduceEqDiff, Nat.reduceAdd, Nat.reduceLeDiff, Nat.reducePow, Nat.reduceDiv, Nat.reduceMod, decide_true, decide_eq_true c]
    refine yes ?_
    simp only [go_sem, reduceIte, Nat.reduceEqDiff, Nat.reduceAdd, Nat.reduceLeDiff, Nat.reducePow, Nat.reduceDiv, Nat.reduceMod, decide_true]
  by_cases c1 : (300 : Int) < nodes.length
  · simp only [go_sem, reduceIte, Nat.reduceEqDiff, Nat.reduceAdd, Nat.reduceLeDiff, Nat.reducePow, Nat.reduceDiv, Nat.reduceMod, decide_true, decide_eq_false c, decide_eq_true c1]
    refine yes ?_
    simp only [go_sem, reduceIte, Nat.reduceEqDiff, Nat.reduceAdd, Nat.reduceLeDiff, Nat.reducePow, Nat.reduceDiv, Nat.reduceMod, decide_true]
  by_cases c2 : (300 : Int) < reached.length
  · simp only [go_sem, reduceIte, Nat.reduceEqDiff, Nat.reduceAdd, Nat.reduceLeDiff, Nat.reducePow, Nat.reduceDiv, Nat.reduceMod, decide_true, decide_eq_false c, decide_eq_false c1, decide_eq_true c2]
    refine yes ?_
    simp only [go_sem, reduceIte, Nat.reduceEqDiff, Nat.reduceAdd, Nat.reduceLeDiff, Nat.reducePow, Nat.reduceDiv, Nat.reduceMod, decide_true]
  have hfew : x.few (2^40) := ⟨by omega, by omega, by omega⟩
  simp only [go_sem, reduceIte, Nat.reduceEqDiff, Nat.reduceAdd, Nat.reduceLeDiff, Nat.reducePow, Nat.reduceDiv, Nat.reduceMod, decide_true, decide_eq_false c, decide_eq_false c1, decide_eq_false c2]
  refine (he.2 nodes (by omega)).use he.1 ?_
  simp only [go_sem, reduceIte, Nat.reduceEqDiff, Nat.reduceAdd, Nat.reduceLeDiff, Nat.reducePow, Nat.reduceDiv, Nat.reduceMod, decide_true]
  refine (he.2 reached (by omega)).use he.1 ?_
  obtain ⟨b, hb1, hb2⟩ := aints_slice (lent nodes) nodes.length (by simp [lent])
  obtain ⟨d, hd1, hd2⟩ := aints_slice (lent reached) reached.length (by simp [lent])
  have t1 : (lent nodes).take nodes.length = nodes := by simp [lent]
  have t2 : (lent reached).take reached.length = reached := by simp [lent]
  rw [t1] at hb2
  rw [t2] at hd2
  simp only [go_sem, reduceIte, Nat.reduceEqDiff, Nat.reduceAdd, Nat.reduceLeDiff, Nat.reducePow, Nat.reduceDiv, Nat.reduceMod, decide_true, aslc, hb1, hd1]
  refine use1 ha.1 (ha.2 nof nof nof _ x nodes reached _ b d (hx _) (hb2 _ _) (hd2 _ _) hfew (by omega) (by omega)) ?_
  simp only [go_sem, reduceIte, Nat.reduceEqDiff, Nat.reduceAdd, Nat.reduceLeDiff, Nat.reducePow, Nat.reduceDiv, Nat.reduceMod, decide_true]
  refine use1 hr.1 (hr.2 nof nof nof _ x nodes reached _ _ _ (hx _) (rd_aints _ _ _) (rd_aints _ _ _) hfew (by omega) (by omega)) ?_
  simp only [go_sem, reduceIte, Nat.reduceEqDiff, Nat.reduceAdd, Nat.reduceLeDiff, Nat.reducePow, Nat.reduceDiv, Nat.reduceMod, decide_true, decide_true]
  refine use1 hk.1 (hk.2 nof _ nodes _ _ (rd_aints _ _ _) (rd_aints _ _ _) (by omega)) ?_
  simp only [go_sem, reduceIte, Nat.reduceEqDiff, Nat.reduceAdd, Nat.reduceLeDiff, Nat.reducePow, Nat.reduceDiv, Nat.reduceMod, decide_true]
  refine use1 hk.1 (hk.2 nof _ reached _ _ (rd_aints _ _ _) (rd_aints _ _ _) (by omega)) ?_
  simp only [go_sem, reduceIte, Nat.reduceEqDiff, Nat.reduceAdd, Nat.reduceLeDiff, Nat.reducePow, Nat.reduceDiv, Nat.reduceMod, decide_true]
  refine yes ?_
  simp only [go_sem, reduceIte, Nat.reduceEqDiff, Nat.reduceAdd, Nat.reduceLeDiff, Nat.reducePow, Nat.reduceDiv, Nat.reduceMod, decide_true]

end Glb

/-
  What is agreed: of it enough have reached it, and of no greater number.
-/
namespace Glb
open Go
set_option maxRecDepth 10000
set_option maxHeartbeats 4000000

theorem enough_mono {l a b : List Int} (h : ∀ n ∈ a, n ∈ b) (he : enough l a = true) : enough l b = true := by
  simp only [enough, decide_eq_true_eq] at he ⊢
  have : (l.countP fun n => decide (n ∈ a)) ≤ l.countP fun n => decide (n ∈ b) := List.countP_mono_left fun x _ hx => by simpa using h x (by simpa using hx)
  omega
theorem won_mono {x : Conf} {a b : List Int} (h : ∀ n ∈ a, n ∈ b) (he : x.won a = true) : x.won b = true := by
  simp only [Conf.won, Bool.and_eq_true, Bool.or_eq_true] at he ⊢
  exact ⟨enough_mono h he.1, he.2.imp id (enough_mono h)⟩

theorem best_ge (x : Conf) (all : List (Int × Int)) : ∀ (r : List (Int × Int)) (b : Int), b ≤ x.best all r b
  | [], b => Int.le_refl _
  | p :: r, b => by
    simp only [Conf.best]
    split
    · rename_i h; have := best_ge x all r p.2; omega
    · exact best_ge x all r b
theorem best_all (x : Conf) (all : List (Int × Int)) : ∀ (r : List (Int × Int)) (b : Int) (p : Int × Int), p ∈ r → x.won (yesOf p.2 all) = true → p.2 ≤ x.best all r b
  | [], b, p, h, _ => by simp at h
  | q :: r, b, p, h, hw => by
    simp only [Conf.best]
    rcases List.mem_cons.1 h with rfl | h
    · split
      · exact best_ge x all r _
      · rename_i hn
        have : ¬ b < p.2 := fun hlt => hn ⟨hlt, hw⟩
        have := best_ge x all r b
        omega
    · exact best_all x all r _ p h hw
theorem best_is (x : Conf) (all : List (Int × Int)) : ∀ (r : List (Int × Int)) (b : Int), x.best all r b = b ∨ ∃ p ∈ r, x.best all r b = p.2 ∧ b < p.2 ∧ x.won (yesOf p.2 all) = true
  | [], b => .inl rfl
  | q :: r, b => by
    simp only [Conf.best]
    split
    · rename_i h
      rcases best_is x all r q.2 with e | ⟨p, hp, e, h1, h2⟩
      · exact .inr ⟨q, by simp, e, h.1, h.2⟩
      · exact .inr ⟨p, by simp [hp], e, by omega, h2⟩
    · rcases best_is x all r b with e | ⟨p, hp, e, h1, h2⟩
      · exact .inl e
      · exact .inr ⟨p, by simp [hp], e, h1, h2⟩

theorem mem_yesOf {v n : Int} {ps : List (Int × Int)} : n ∈ yesOf v ps ↔ ∃ p ∈ ps, v ≤ p.2 ∧ p.1 = n := by
  simp only [yesOf, List.mem_map, List.mem_filter, decide_eq_true_eq]
  constructor
  · rintro ⟨p, ⟨h1, h2⟩, h3⟩; exact ⟨p, h1, h2, h3⟩
  · rintro ⟨p, h1, h2, h3⟩; exact ⟨p, ⟨h1, h2⟩, h3⟩

/-- the least of some -/
theorem least {ps : List (Int × Int)} {v : Int} (h : ∃ p ∈ ps, v ≤ p.2) : ∃ p ∈ ps, v ≤ p.2 ∧ ∀ q ∈ ps, v ≤ q.2 → p.2 ≤ q.2 := by
  induction ps with
  | nil => obtain ⟨p, hp, _⟩ := h; simp at hp
  | cons a r ih =>
    by_cases hr : ∃ p ∈ r, v ≤ p.2
    · obtain ⟨p, hp, h1, h2⟩ := ih hr
      by_cases ha : v ≤ a.2 ∧ a.2 < p.2
      · refine ⟨a, by simp, ha.1, fun q hq hv => ?_⟩
        rcases List.mem_cons.1 hq with rfl | hq
        · exact Int.le_refl _
        · have := h2 q hq hv; omega
      · refine ⟨p, by simp [hp], h1, fun q hq hv => ?_⟩
        rcases List.mem_cons.1 hq with rfl | hq
        · omega
        · exact h2 q hq hv
    · obtain ⟨p, hp, h1⟩ := h
      rcases List.mem_cons.1 hp with rfl | hp
      · refine ⟨p, by simp, h1, fun q hq hv => ?_⟩
        rcases List.mem_cons.1 hq with rfl | hq
        · exact Int.le_refl _
        · exact absurd ⟨q, hq, hv⟩ hr
      · exact absurd ⟨p, hp, h1⟩ hr

theorem agreed_nonneg (x : Conf) (n r : List Int) : 0 ≤ x.agreed n r := best_ge x _ _ 0
theorem agreed_in {x : Conf} {n r : List Int} (h : 0 < x.agreed n r) : x.agreed n r ∈ r := by
  rcases best_is x (n.zip r) (n.zip r) 0 with e | ⟨p, hp, e, h1, h2⟩
  · simp only [Conf.agreed] at h; omega
  · simp only [Conf.agreed]; rw [e]; exact (List.of_mem_zip hp).2
theorem agreed_most {x : Conf} {n r : List Int} {k : Nat} (hl : n.length = r.length) (hk : k < r.length) (hw : x.won (yesOf r[k] (n.zip r)) = true) : r[k] ≤ x.agreed n r := by
  have hm : (n[k]'(by omega), r[k]) ∈ n.zip r := by
    have : (n.zip r)[k]'(by simp [hl]; omega) = (n[k]'(by omega), r[k]) := by simp
    rw [← this]; exact List.getElem_mem _
  exact best_all x _ _ 0 _ hm hw
theorem agreed_won {x : Conf} {n r : List Int} (h : 0 < x.agreed n r) : x.won (yesOf (x.agreed n r) (n.zip r)) = true := by
  rcases best_is x (n.zip r) (n.zip r) 0 with e | ⟨p, hp, e, h1, h2⟩
  · simp only [Conf.agreed] at h; omega
  · simp only [Conf.agreed]; rw [e]; exact h2

theorem agreed_rises {x : Conf} {n r : List Int} {k : Nat} (by_ : Int) (hl : n.length = r.length) (hk : k < r.length) : x.agreed n r ≤ x.agreed n (r.set k (max r[k] by_)) := by
  by_cases h0 : 0 < x.agreed n r
  · have hw := agreed_won h0
    generalize hv : x.agreed n r = v at *
    have sub : ∀ m ∈ yesOf v (n.zip r), m ∈ yesOf v (n.zip (r.set k (max r[k] by_))) := by
      intro m hm
      obtain ⟨p, hp, h1, h2⟩ := mem_yesOf.1 hm
      obtain ⟨i, hi, rfl⟩ := List.getElem_of_mem hp
      simp only [List.length_zip] at hi
      refine mem_yesOf.2 ⟨(n.zip (r.set k (max r[k] by_)))[i]'(by simp; omega), List.getElem_mem _, ?_, ?_⟩
      · simp only [List.getElem_zip] at h1 ⊢
        rw [List.getElem_set]
        split
        · rename_i e; subst e; omega
        · exact h1
      · simp only [List.getElem_zip] at h2 ⊢; exact h2
    have hw' := won_mono sub hw
    have hin : ∃ p ∈ n.zip (r.set k (max r[k] by_)), v ≤ p.2 := by
      have hvr := agreed_in (x := x) (n := n) (r := r) (by omega)
      rw [hv] at hvr
      obtain ⟨i, hi, hri⟩ := List.getElem_of_mem hvr
      refine ⟨(n.zip (r.set k (max r[k] by_)))[i]'(by simp; omega), List.getElem_mem _, ?_⟩
      simp only [List.getElem_zip]
      rw [List.getElem_set]
      split
      · rename_i e; subst e; omega
      · omega
    obtain ⟨p, hp, h1, h2⟩ := least hin
    have hyes : x.won (yesOf p.2 (n.zip (r.set k (max r[k] by_)))) = true := won_mono (fun m hm => by
      obtain ⟨q, hq, g1, g2⟩ := mem_yesOf.1 hm
      exact mem_yesOf.2 ⟨q, hq, h2 q hq g1, g2⟩) hw'
    have := best_all x _ _ 0 p hp hyes
    simp only [Conf.agreed]
    omega
  · have := agreed_nonneg x n (r.set k (max r[k] by_)); omega

/-- one of one's own numbers written over -/
theorem own_set_int {F : Nat → Prop} {h : AHeap} {l : List Int} {a : AV} (ho : Own (dInts l) F h a) {k : Nat} (hk : k < l.length) (v : Int) :
    ∃ p h', aindex 1 a (.int .i64 k) = some p ∧ aload h false 1 p = some (.int .i64 l[k]) ∧ astore h 1 p (.int .i64 v) = some h' ∧ Own (dInts (l.set k v)) F h' a ∧ Ext F h h' := by
  simp only [dInts, Own] at ho
  rcases ho with ⟨_, e⟩ | ⟨_, _, _, e⟩ | ⟨n, off, cap, row, g, rfl, hF, hrow, hle, hcap, hes⟩
  · simp at e; subst e; simp at hk
  · simp at e; subst e; simp at hk
  · rw [List.length_map] at hes hle hcap ⊢
    have hr := ownLL_ints_eq hes
    have hk2 : row[off + k]? = some [.int .i64 l[k]] := by
      have : ((row.drop off).take l.length)[k]? = some [.int .i64 l[k]] := by rw [hr]; simp [hk]
      rw [List.getElem?_take_of_lt hk, List.getElem?_drop] at this
      exact this
    have hlt := (List.getElem?_eq_some_iff.1 hrow).1
    refine ⟨.ptr n 1 (off + k) 0, _, ?_, ?_, astore_elem (x := .int .i64 v) hrow hk2 rfl rfl rfl rfl, ?_, Ext.set _ (fun _ => hF)⟩
    · simp only [aindex]; rw [if_pos ⟨trivial, by omega, by omega⟩]; simp
    · rw [aload_ptr, hrow, rowGet_arr, hk2]; rfl
    · simp only [dInts, Own]
      refine .inr (.inr ⟨n, off, cap, _, g, ?_, hF, List.getElem?_set_self hlt, ?_, ?_, ?_⟩)
      · simp
      · simpa using hle
      · simpa using hcap
      · have : ((row.set (off + k) [.int .i64 v]).drop off).take (l.set k v).length = (l.set k v).map fun n => [.int .i64 n] := by
          rw [List.drop_set, if_neg (by omega), List.length_set, List.take_set, hr, List.map_set, show off + k - off = k by omega]
        simp only [List.length_map]
        rw [this]
        exact ownLL_ints .i64 _ _ _

end Glb
