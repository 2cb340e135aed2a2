/-
  Who is enough: the program's functions and the document's answer so.
-/
import Derived.Test.YtoijpkpfgamlpaaGlbSame
import Derived.Test.YtoijpkpfgamlpaaGlbJunk
import Derived.Test.YtoijpkpfgamlpaaGlbCquorum
import Derived.Test.YtoijpkpfgamlpaaGlbCgleberef10
set_option linter.unusedSimpArgs false
set_option linter.unusedVariables false
namespace Glb
open Go
set_option maxRecDepth 10000
set_option maxHeartbeats 4000000

theorem Rd.int_at {F : Nat → Prop} {h : AHeap} {l : List Int} {a : AV} (hx : Rd F h (dInts l) a) {i : Nat} (hi : i < l.length) :
    ∃ p, aindex 1 a (.int .i64 i) = some p ∧ aload h false 1 p = some (.int .i64 l[i]) := by
  obtain ⟨p, cs, hp, hpc, hcs⟩ := hx.index .i64 (i := i) (d := [.int .i64 l[i]]) (by omega) (by simp [hi])
  simp only [RdL, Rd] at hcs
  obtain ⟨_, _, rfl, rfl, rfl⟩ := hcs
  exact ⟨p, hp, by rw [aload_p hpc]; exact take_one _ _ _⟩
theorem Rd.ints_len {F : Nat → Prop} {h : AHeap} {l : List Int} {a : AV} (hx : Rd F h (dInts l) a) : alen a = some (.int .i64 l.length) := by simpa using hx.len

def findAt (n : Int) : List Int → Nat → Int
  | [], _ => -1
  | x :: r, k => if n = x then k else findAt n r (k + 1)
theorem findAt_has (n : Int) : ∀ (l : List Int) (k : Nat), decide (0 ≤ findAt n l k) = decide (n ∈ l) := by
  intro l
  induction l with
  | nil => intro k; simp [findAt]
  | cons x r ih =>
    intro k
    simp only [findAt]
    split
    · rename_i e; subst e; simp
    · rename_i e; rw [ih]; simp [e]

def IndexOk (P : Program) (f : FuncId) : Prop :=
  isFn P f = true ∧ ∀ (F : Nat → Prop) (h : AHeap) (l : List Int) (a : AV) (n : Int), Rd F h (dInts l) a → l.length ≤ 2^40 → ACalls P f [a, .int .i64 n] h fun r h' => r = .int .i64 (findAt n l 0) ∧ h' = h

theorem Index_ok {P : Program} {f : FuncId} (hf : Is P f c_slices_Index_int_int) : IndexOk P f := by
  refine ⟨hf.2, fun F h l a n ha hl => fun_sound hf.1 (Nat.le_of_ble_eq_true rfl) ?_⟩
  show vc P c_slices_Index_int_int.code ⟨[(0, a), (1, .int .i64 n)], [], h⟩ (atEnd c_slices_Index_int_int.res _)
  have la := ha.ints_len
  simp only [c_slices_Index_int_int, go_sem, reduceIte, Nat.reduceEqDiff, Nat.reduceAdd, Nat.reduceLeDiff, Nat.reducePow, Nat.reduceDiv, Nat.reduceMod, decide_true, la]
  refine vc_loop (fun m L h' => ∃ i : Nat, lk 0 L = a ∧ lk 1 L = .int .i64 n ∧ lk 7 L = .int .i64 l.length ∧ lk 8 L = .int .i64 i ∧ h' = h ∧ i ≤ l.length ∧ m = l.length - i ∧ findAt n (l.drop i) i = findAt n l 0) l.length ?_ ?_
  · exact ⟨0, by simp [lk_ins, lk_cons], by simp [lk_ins, lk_cons], by simp [lk_ins], by simp [lk_ins], rfl, by omega, by omega, rfl⟩
  · rintro m L h' ⟨i, h0, h1, h7, h8, rfl, hi, rfl, hq⟩
    simp only [c_slices_Index_int_int_l0, go_sem, reduceIte, Nat.reduceEqDiff, Nat.reduceAdd, Nat.reduceLeDiff, Nat.reducePow, Nat.reduceDiv, Nat.reduceMod, decide_true, h0, h1, h7, h8]
    refine wCond_split (fun ci => ?_) (fun ci => ?_)
    · simp at ci
      obtain ⟨p, hp, hv⟩ := ha.int_at ci
      have e : IntKind.i64.wrap (↑i + 1) = (i : Int) + 1 := wrap_i64 (by omega)
      simp only [go_sem, reduceIte, Nat.reduceEqDiff, Nat.reduceAdd, Nat.reduceLeDiff, Nat.reducePow, Nat.reduceDiv, Nat.reduceMod, decide_true, h0, h1, h7, h8, hp, hv]
      rw [List.drop_eq_getElem_cons ci] at hq
      simp only [findAt] at hq
      by_cases c : n = l[i]
      · simp only [go_sem, reduceIte, Nat.reduceEqDiff, Nat.reduceAdd, Nat.reduceLeDiff, Nat.reducePow, Nat.reduceDiv, Nat.reduceMod, decide_true, decide_eq_true c]
        rw [if_pos c] at hq
        rw [← hq]
      · simp only [go_sem, reduceIte, Nat.reduceEqDiff, Nat.reduceAdd, Nat.reduceLeDiff, Nat.reducePow, Nat.reduceDiv, Nat.reduceMod, decide_true, decide_eq_false c, h0, h1, h7, h8, e]
        rw [if_neg c] at hq
        exact ⟨_, by omega, i + 1, by simp, ci, rfl, hq⟩
    · simp at ci
      simp only [go_sem, reduceIte, Nat.reduceEqDiff, Nat.reduceAdd, Nat.reduceLeDiff, Nat.reducePow, Nat.reduceDiv, Nat.reduceMod, decide_true]
      obtain rfl : i = l.length := by omega
      rw [List.drop_length] at hq
      rw [← hq]; rfl

def HasOk (P : Program) (f : FuncId) : Prop :=
  isFn P f = true ∧ ∀ (F : Nat → Prop) (h : AHeap) (l : List Int) (a : AV) (n : Int), Rd F h (dInts l) a → l.length ≤ 2^40 → ACalls P f [a, .int .i64 n] h fun r h' => r = .bool (decide (n ∈ l)) ∧ h' = h

theorem Contains_ok {P : Program} {f g : FuncId} (hf : Is P f (c_slices_Contains_int_int g)) (hg : IndexOk P g) : HasOk P f := by
  refine ⟨hf.2, fun F h l a n ha hl => fun_sound hf.1 (Nat.le_of_ble_eq_true rfl) ?_⟩
  show vc P (c_slices_Contains_int_int g).code ⟨[(0, a), (1, .int .i64 n)], [], h⟩ (atEnd (c_slices_Contains_int_int g).res _)
  simp only [c_slices_Contains_int_int, go_sem, reduceIte, Nat.reduceEqDiff, Nat.reduceAdd, Nat.reduceLeDiff, Nat.reducePow, Nat.reduceDiv, Nat.reduceMod, decide_true]
  refine wCall_use ⟨hg.1, hg.2 F _ l a n ha hl⟩ ?_
  rintro _ _ ⟨rfl, rfl⟩
  simp only [go_sem, reduceIte, Nat.reduceEqDiff, Nat.reduceAdd, Nat.reduceLeDiff, Nat.reducePow, Nat.reduceDiv, Nat.reduceMod, decide_true, findAt_has]

theorem gleberef10_In_ok {P : Program} {f : FuncId} (hf : Is P f c_gleberef10_In) : HasOk P f := by
  refine ⟨hf.2, fun F h l a n ha hl => fun_sound hf.1 (Nat.le_of_ble_eq_true rfl) ?_⟩
  show vc P c_gleberef10_In.code ⟨[(0, a), (1, .int .i64 n)], [], h⟩ (atEnd c_gleberef10_In.res _)
  have la := ha.ints_len
  simp only [c_gleberef10_In, go_sem, reduceIte, Nat.reduceEqDiff, Nat.reduceAdd, Nat.reduceLeDiff, Nat.reducePow, Nat.reduceDiv, Nat.reduceMod, decide_true, la]
  refine vc_loop (fun m L h' => ∃ i : Nat, lk 0 L = a ∧ lk 1 L = .int .i64 n ∧ lk 5 L = .int .i64 i ∧ h' = h ∧ i ≤ l.length ∧ m = l.length - i ∧ decide (n ∈ l.drop i) = decide (n ∈ l)) l.length ?_ ?_
  · exact ⟨0, by simp [lk_ins, lk_cons], by simp [lk_ins, lk_cons], by simp [lk_ins], rfl, by omega, by omega, rfl⟩
  · rintro m L h' ⟨i, h0, h1, h5, rfl, hi, rfl, hq⟩
    simp only [c_gleberef10_In_l0, go_sem, reduceIte, Nat.reduceEqDiff, Nat.reduceAdd, Nat.reduceLeDiff, Nat.reducePow, Nat.reduceDiv, Nat.reduceMod, decide_true, h0, h1, h5, la]
    refine wCond_split (fun ci => ?_) (fun ci => ?_)
    · simp at ci
      obtain ⟨p, hp, hv⟩ := ha.int_at ci
      have e : IntKind.i64.wrap (↑i + 1) = (i : Int) + 1 := wrap_i64 (by omega)
      simp only [go_sem, reduceIte, Nat.reduceEqDiff, Nat.reduceAdd, Nat.reduceLeDiff, Nat.reducePow, Nat.reduceDiv, Nat.reduceMod, decide_true, h0, h1, h5, hp, hv]
      rw [List.drop_eq_getElem_cons ci] at hq
      by_cases c : l[i] = n
      · simp only [go_sem, reduceIte, Nat.reduceEqDiff, Nat.reduceAdd, Nat.reduceLeDiff, Nat.reducePow, Nat.reduceDiv, Nat.reduceMod, decide_true, decide_eq_true c]
        rw [← hq]; simp [c]
      · simp only [go_sem, reduceIte, Nat.reduceEqDiff, Nat.reduceAdd, Nat.reduceLeDiff, Nat.reducePow, Nat.reduceDiv, Nat.reduceMod, decide_true, decide_eq_false c, h0, h1, h5, e]
        exact ⟨_, by omega, i + 1, by simp, ci, rfl, by rw [← hq]; have : ¬ n = l[i] := fun e => c e.symm; simp only [List.mem_cons, this, false_or]⟩
    · simp at ci
      simp only [go_sem, reduceIte, Nat.reduceEqDiff, Nat.reduceAdd, Nat.reduceLeDiff, Nat.reducePow, Nat.reduceDiv, Nat.reduceMod, decide_true]
      obtain rfl : i = l.length := by omega
      rw [List.drop_length] at hq
      rw [← hq]; simp

/-- of how many items something is so -/
def CountOk (P : Program) (f : FuncId) : Prop :=
  isFn P f = true ∧ ∀ (F : Nat → Prop) (h : AHeap) (l : List Int) (a : AV) (g : FuncId) (fs cs : List AV) (p : Int → Bool), Rd F h (dInts l) a → l.length ≤ 2^40 → isFn P g = true →
    (∀ n, ACalls P g (fs ++ [.int .i64 n] ++ cs) h fun r h' => r = .bool (p n) ∧ h' = h) → ACalls P f [a, .clo g fs cs] h fun r h' => r = .int .i64 (l.countP p) ∧ h' = h

theorem count_ok {P : Program} {f : FuncId} (hf : Is P f c_quorum_count_int) : CountOk P f := by
  refine ⟨hf.2, fun F h l a g fs cs p ha hl hi hg => fun_sound hf.1 (Nat.le_of_ble_eq_true rfl) ?_⟩
  show vc P c_quorum_count_int.code ⟨[(0, a), (1, .clo g fs cs)], [], h⟩ (atEnd c_quorum_count_int.res _)
  have la := ha.ints_len
  simp only [c_quorum_count_int, go_sem, reduceIte, Nat.reduceEqDiff, Nat.reduceAdd, Nat.reduceLeDiff, Nat.reducePow, Nat.reduceDiv, Nat.reduceMod, decide_true, la]
  refine vc_loop (fun m L h' => ∃ i c : Nat, lk 1 L = .clo g fs cs ∧ lk 5 L = .int .i64 c ∧ lk 8 L = a ∧ lk 9 L = .int .i64 l.length ∧ lk 10 L = .int .i64 i ∧ h' = h ∧ i ≤ l.length ∧ c ≤ i ∧ m = l.length - i ∧ c + (l.drop i).countP p = l.countP p) l.length ?_ ?_
  · exact ⟨0, 0, by simp [lk_ins, lk_cons], by simp [lk_ins, lk_cons], by simp [lk_ins, lk_cons], by simp [lk_ins, lk_cons], by simp [lk_ins], rfl, by omega, by omega, by omega, by simp⟩
  · rintro m L h' ⟨i, c, h1, h5, h8, h9, h10, rfl, hi2, hci, rfl, hq⟩
    simp only [c_quorum_count_int_l0, go_sem, reduceIte, Nat.reduceEqDiff, Nat.reduceAdd, Nat.reduceLeDiff, Nat.reducePow, Nat.reduceDiv, Nat.reduceMod, decide_true, h1, h5, h8, h9, h10]
    refine wCond_split (fun ci => ?_) (fun ci => ?_)
    · simp at ci
      obtain ⟨q, hp, hv⟩ := ha.int_at ci
      have e : IntKind.i64.wrap (↑i + 1) = (i : Int) + 1 := wrap_i64 (by omega)
      have e2 : IntKind.i64.wrap (↑c + 1) = ((c + 1 : Nat) : Int) := by rw [wrap_i64 (by omega)]; omega
      simp only [go_sem, reduceIte, Nat.reduceEqDiff, Nat.reduceAdd, Nat.reduceLeDiff, Nat.reducePow, Nat.reduceDiv, Nat.reduceMod, decide_true, h1, h5, h8, h9, h10, hp, hv]
      rw [List.drop_eq_getElem_cons ci, List.countP_cons] at hq
      refine wCall_use ⟨hi, hg _⟩ ?_
      rintro _ _ ⟨rfl, rfl⟩
      cases hpb : p l[i]
      · simp only [go_sem, reduceIte, Nat.reduceEqDiff, Nat.reduceAdd, Nat.reduceLeDiff, Nat.reducePow, Nat.reduceDiv, Nat.reduceMod, decide_true, h1, h5, h8, h9, h10, e]
        exact ⟨_, by omega, i + 1, c, by simp, by simp, ci, by omega, rfl, by simpa [hpb] using hq⟩
      · simp only [go_sem, reduceIte, Nat.reduceEqDiff, Nat.reduceAdd, Nat.reduceLeDiff, Nat.reducePow, Nat.reduceDiv, Nat.reduceMod, decide_true, h1, h5, h8, h9, h10, e, e2]
        exact ⟨_, by omega, i + 1, c + 1, by simp, by simp, ci, by omega, rfl, by simp only [hpb, if_true] at hq; omega⟩
    · simp at ci
      simp only [go_sem, reduceIte, Nat.reduceEqDiff, Nat.reduceAdd, Nat.reduceLeDiff, Nat.reducePow, Nat.reduceDiv, Nat.reduceMod, decide_true, h5]
      obtain rfl : i = l.length := by omega
      rw [List.drop_length] at hq
      simp at hq
      rw [hq]

theorem quo64 (a b : Int) : abin .quo (.int .i64 a) (.int .i64 b) = if b = 0 then none else some (.int .i64 (IntKind.i64.wrap (a.tdiv b))) := Eq.trans rfl rfl
theorem rem64 (a b : Int) : abin .rem (.int .i64 a) (.int .i64 b) = if b = 0 then none else some (.int .i64 (a.tmod b)) := Eq.trans rfl rfl

/-- do enough of a list agree? -/
def enough (l yes : List Int) : Bool := decide (l.length / 2 < l.countP fun n => decide (n ∈ yes))
def Conf.won (x : Conf) (yes : List Int) : Bool := enough x.old yes && (decide (x.new.length = 0) || enough x.new yes)

def EnoughOk (P : Program) (f : FuncId) : Prop :=
  isFn P f = true ∧ ∀ (F F' : Nat → Prop) (h : AHeap) (l yes : List Int) (a b : AV), Rd F h (dInts l) a → Rd F' h (dInts yes) b → l.length ≤ 2^40 → yes.length ≤ 2^40 → ACalls P f [a, b] h fun r h' => r = .bool (enough l yes) ∧ h' = h

theorem enough_f1_ok {P : Program} {f g : FuncId} (hf : Is P f (c_quorum_enough_f1 g)) (hg : HasOk P g) {F : Nat → Prop} {h : AHeap} {yes : List Int} {b q : AV} (hb : Rd F h (dInts yes) b) (hy : yes.length ≤ 2^40) (hq : aload h false 1 q = some b) (n : Int) :
    ACalls P f [.int .i64 n, q] h fun r h' => r = .bool (decide (n ∈ yes)) ∧ h' = h := by
  refine fun_sound hf.1 (Nat.le_of_ble_eq_true rfl) ?_
  show vc P (c_quorum_enough_f1 g).code ⟨[(0, .int .i64 n), (1, q)], [], h⟩ (atEnd (c_quorum_enough_f1 g).res _)
  simp only [c_quorum_enough_f1, go_sem, reduceIte, Nat.reduceEqDiff, Nat.reduceAdd, Nat.reduceLeDiff, Nat.reducePow, Nat.reduceDiv, Nat.reduceMod, decide_true, hq]
  refine wCall_use ⟨hg.1, hg.2 F _ yes b n hb hy⟩ ?_
  rintro _ _ ⟨rfl, rfl⟩
  simp only [go_sem, reduceIte, Nat.reduceEqDiff, Nat.reduceAdd, Nat.reduceLeDiff, Nat.reducePow, Nat.reduceDiv, Nat.reduceMod, decide_true]

theorem enough_ok {P : Program} {f k g c : FuncId} (hf : Is P f (c_quorum_enough k g)) (hk : Is P k (c_quorum_enough_f1 c)) (hc : HasOk P c) (hg : CountOk P g) : EnoughOk P f := by
  refine ⟨hf.2, fun F F' h l yes a b ha hb hl hy => obs (upto_bool _ _) (fun_sound hf.1 (Nat.le_of_ble_eq_true rfl) ?_)⟩
  show vc P (c_quorum_enough k g).code ⟨[(0, a), (1, b)], [], h⟩ (atEnd (c_quorum_enough k g).res _)
  have la := ha.ints_len
  simp only [c_quorum_enough, go_sem, reduceIte, Nat.reduceEqDiff, Nat.reduceAdd, Nat.reduceLeDiff, Nat.reducePow, Nat.reduceDiv, Nat.reduceMod, decide_true, hb.scalar, cells_of hb.scalar]
  refine wCall_use ⟨hg.1, hg.2 F _ l a k [] [.ptr h.length 1 0 0] (fun n => decide (n ∈ yes)) (ha.up (Ext.b1 _)) hl hk.2 (fun n => enough_f1_ok hk hc (hb.up (Ext.b1 _)) hy (by simp only [go_sem, reduceIte, Nat.reduceEqDiff, Nat.reduceAdd, Nat.reduceLeDiff, Nat.reducePow, Nat.reduceDiv, Nat.reduceMod, decide_true]) n)⟩ ?_
  rintro _ _ ⟨rfl, rfl⟩
  have e : IntKind.i64.wrap ((l.length : Int).tdiv 2) = ((l.length / 2 : Nat) : Int) := by rw [Int.tdiv_eq_ediv_of_nonneg (by omega), wrap_i64 (by omega)]; omega
  have z2 : ∀ {x : Option AV}, (if (2 : Int) = 0 then none else x) = x := fun {x} => if_neg (by decide)
  simp only [go_sem, reduceIte, Nat.reduceEqDiff, Nat.reduceAdd, Nat.reduceLeDiff, Nat.reducePow, Nat.reduceDiv, Nat.reduceMod, decide_true, la, quo64, z2, e]
  exact ⟨by simp only [enough]; congr 1; simp only [decide_eq_decide]; omega, Ext.b1 _⟩

theorem gleberef10_enough_ok {P : Program} {f g : FuncId} (hf : Is P f (c_gleberef10_enough g)) (hg : HasOk P g) : EnoughOk P f := by
  refine ⟨hf.2, fun F F' h l yes a b ha hb hl hy => fun_sound hf.1 (Nat.le_of_ble_eq_true rfl) ?_⟩
  show vc P (c_gleberef10_enough g).code ⟨[(0, a), (1, b)], [], h⟩ (atEnd (c_gleberef10_enough g).res _)
  have la := ha.ints_len
  simp only [c_gleberef10_enough, go_sem, reduceIte, Nat.reduceEqDiff, Nat.reduceAdd, Nat.reduceLeDiff, Nat.reducePow, Nat.reduceDiv, Nat.reduceMod, decide_true]
  refine vc_loop (fun m L h' => ∃ i c : Nat, lk 0 L = a ∧ lk 1 L = b ∧ lk 5 L = .int .i64 c ∧ lk 6 L = .int .i64 i ∧ h' = h ∧ i ≤ l.length ∧ c ≤ i ∧ m = l.length - i ∧ c + ((l.drop i).countP fun n => decide (n ∈ yes)) = l.countP fun n => decide (n ∈ yes)) l.length ?_ ?_
  · exact ⟨0, 0, by simp [lk_ins, lk_cons], by simp [lk_ins, lk_cons], by simp [lk_ins, lk_cons], by simp [lk_ins], rfl, by omega, by omega, by omega, by simp⟩
  · rintro m L h' ⟨i, c, h0, h1, h5, h6, rfl, hi2, hci, rfl, hq⟩
    simp only [c_gleberef10_enough_l0, go_sem, reduceIte, Nat.reduceEqDiff, Nat.reduceAdd, Nat.reduceLeDiff, Nat.reducePow, Nat.reduceDiv, Nat.reduceMod, decide_true, h0, h1, h5, h6, la]
    refine wCond_split (fun ci => ?_) (fun ci => ?_)
    · simp at ci
      obtain ⟨q, hp, hv⟩ := ha.int_at ci
      have e : IntKind.i64.wrap (↑i + 1) = (i : Int) + 1 := wrap_i64 (by omega)
      have e2 : IntKind.i64.wrap (↑c + 1) = ((c + 1 : Nat) : Int) := by rw [wrap_i64 (by omega)]; omega
      simp only [go_sem, reduceIte, Nat.reduceEqDiff, Nat.reduceAdd, Nat.reduceLeDiff, Nat.reducePow, Nat.reduceDiv, Nat.reduceMod, decide_true, h0, h1, h5, h6, hp, hv]
      rw [List.drop_eq_getElem_cons ci, List.countP_cons] at hq
      refine wCall_use ⟨hg.1, hg.2 F' _ yes b _ hb hy⟩ ?_
      rintro _ _ ⟨rfl, rfl⟩
      by_cases hpb : l[i] ∈ yes
      · simp only [go_sem, reduceIte, Nat.reduceEqDiff, Nat.reduceAdd, Nat.reduceLeDiff, Nat.reducePow, Nat.reduceDiv, Nat.reduceMod, decide_true, h0, h1, h5, h6, e, e2, decide_eq_true hpb]
        exact ⟨_, by omega, i + 1, c + 1, by simp, by simp, ci, by omega, rfl, by simp only [decide_eq_true hpb, if_true] at hq; omega⟩
      · simp only [go_sem, reduceIte, Nat.reduceEqDiff, Nat.reduceAdd, Nat.reduceLeDiff, Nat.reducePow, Nat.reduceDiv, Nat.reduceMod, decide_true, h0, h1, h5, h6, e, decide_eq_false hpb]
        exact ⟨_, by omega, i + 1, c, by simp, by simp, ci, by omega, rfl, by simpa [hpb] using hq⟩
    · simp at ci
      obtain rfl : i = l.length := by omega
      rw [List.drop_length] at hq
      simp at hq
      have e : IntKind.i64.wrap ((l.length : Int) - c) = (l.length : Int) - c := wrap_i64 (by omega)
      simp only [go_sem, reduceIte, Nat.reduceEqDiff, Nat.reduceAdd, Nat.reduceLeDiff, Nat.reducePow, Nat.reduceDiv, Nat.reduceMod, decide_true, h0, h1, h5, h6, la, e]
      subst hq
      simp only [enough]; congr 1; simp only [decide_eq_decide]; omega

def WonOk (P : Program) (f : FuncId) : Prop :=
  isFn P f = true ∧ ∀ (F F' : Nat → Prop) (h : AHeap) (x : Conf) (yes : List Int) (a : List AV) (b : AV), RdL F h x.c a → Rd F' h (dInts yes) b → x.few (2^40) → yes.length ≤ 2^40 → ACalls P f [.agg a, b] h fun r h' => r = .bool (x.won yes) ∧ h' = h

theorem natCast_eq_zero (n : Nat) : decide ((n : Int) = 0) = decide (n = 0) := by simp

theorem quorum_Won_ok {P : Program} {f g : FuncId} (hf : Is P f (c_quorum_Won g)) (hg : EnoughOk P g) : WonOk P f := by
  refine ⟨hf.2, fun F F' h x yes a b ha hb hl hy => obs (upto_bool _ _) (fun_sound hf.1 (Nat.le_of_ble_eq_true rfl) ?_)⟩
  show vc P (c_quorum_Won g).code ⟨[(0, .agg a), (1, b)], [], h⟩ (atEnd (c_quorum_Won g).res _)
  obtain ⟨o, n, e, rfl, ho, hn, he⟩ := rd_conf ha
  have ln := hn.ints_len
  simp only [c_quorum_Won, go_sem, reduceIte, Nat.reduceEqDiff, Nat.reduceAdd, Nat.reduceLeDiff, Nat.reducePow, Nat.reduceDiv, Nat.reduceMod, decide_true, ho.scalar, hn.scalar, he.scalar]
  refine wCall_use ⟨hg.1, hg.2 F F' _ x.old yes _ _ (ho.up (Ext.b1 _)) (hb.up (Ext.b1 _)) hl.1 hy⟩ ?_
  rintro _ _ ⟨rfl, rfl⟩
  cases c1 : enough x.old yes
  · simp only [go_sem, reduceIte, Nat.reduceEqDiff, Nat.reduceAdd, Nat.reduceLeDiff, Nat.reducePow, Nat.reduceDiv, Nat.reduceMod, decide_true]
    exact ⟨by simp [Conf.won, c1], Ext.b1 _⟩
  · simp only [go_sem, reduceIte, Nat.reduceEqDiff, Nat.reduceAdd, Nat.reduceLeDiff, Nat.reducePow, Nat.reduceDiv, Nat.reduceMod, decide_true, ln, natCast_eq_zero]
    by_cases c2 : x.new.length = 0
    · simp only [go_sem, reduceIte, Nat.reduceEqDiff, Nat.reduceAdd, Nat.reduceLeDiff, Nat.reducePow, Nat.reduceDiv, Nat.reduceMod, decide_true, decide_eq_true c2]
      exact ⟨by simp only [Conf.won, c1, decide_eq_true c2, Bool.true_or, Bool.false_or, Bool.and_true, Bool.true_and, Bool.false_and, Bool.and_false], Ext.b1 _⟩
    · simp only [go_sem, reduceIte, Nat.reduceEqDiff, Nat.reduceAdd, Nat.reduceLeDiff, Nat.reducePow, Nat.reduceDiv, Nat.reduceMod, decide_true, decide_eq_false c2]
      refine wCall_use ⟨hg.1, hg.2 F F' _ x.new yes _ _ (hn.up (Ext.b1 _)) (hb.up (Ext.b1 _)) hl.2.1 hy⟩ ?_
      rintro _ _ ⟨rfl, rfl⟩
      simp only [go_sem, reduceIte, Nat.reduceEqDiff, Nat.reduceAdd, Nat.reduceLeDiff, Nat.reducePow, Nat.reduceDiv, Nat.reduceMod, decide_true]
      exact ⟨by simp only [Conf.won, c1, decide_eq_false c2, Bool.true_or, Bool.false_or, Bool.and_true, Bool.true_and, Bool.false_and, Bool.and_false], Ext.b1 _⟩

theorem gleberef10_Won_ok {P : Program} {f g : FuncId} (hf : Is P f (c_gleberef10_Won g)) (hg : EnoughOk P g) : WonOk P f := by
  refine ⟨hf.2, fun F F' h x yes a b ha hb hl hy => obs (upto_bool _ _) (fun_sound hf.1 (Nat.le_of_ble_eq_true rfl) ?_)⟩
  show vc P (c_gleberef10_Won g).code ⟨[(0, .agg a), (1, b)], [], h⟩ (atEnd (c_gleberef10_Won g).res _)
  obtain ⟨o, n, e, rfl, ho, hn, he⟩ := rd_conf ha
  have ln := hn.ints_len
  simp only [c_gleberef10_Won, go_sem, reduceIte, Nat.reduceEqDiff, Nat.reduceAdd, Nat.reduceLeDiff, Nat.reducePow, Nat.reduceDiv, Nat.reduceMod, decide_true, ho.scalar, hn.scalar, he.scalar, ln]
  by_cases c2 : 0 < (x.new.length : Int)
  · have c3 : ¬ x.new.length = 0 := by omega
    simp only [go_sem, reduceIte, Nat.reduceEqDiff, Nat.reduceAdd, Nat.reduceLeDiff, Nat.reducePow, Nat.reduceDiv, Nat.reduceMod, decide_true, decide_eq_true c2]
    refine wCall_use ⟨hg.1, hg.2 F F' _ x.new yes _ _ (hn.up (Ext.b1 _)) (hb.up (Ext.b1 _)) hl.2.1 hy⟩ ?_
    rintro _ _ ⟨rfl, rfl⟩
    cases c1 : enough x.new yes
    · simp only [go_sem, reduceIte, Nat.reduceEqDiff, Nat.reduceAdd, Nat.reduceLeDiff, Nat.reducePow, Nat.reduceDiv, Nat.reduceMod, decide_true]
      exact ⟨by simp only [Conf.won, c1, decide_eq_false c3, Bool.or_self, Bool.true_or, Bool.false_or, Bool.and_true, Bool.true_and, Bool.false_and, Bool.and_false], Ext.b1 _⟩
    · simp only [go_sem, reduceIte, Nat.reduceEqDiff, Nat.reduceAdd, Nat.reduceLeDiff, Nat.reducePow, Nat.reduceDiv, Nat.reduceMod, decide_true]
      refine wCall_use ⟨hg.1, hg.2 F F' _ x.old yes _ _ (ho.up (Ext.b1 _)) (hb.up (Ext.b1 _)) hl.1 hy⟩ ?_
      rintro _ _ ⟨rfl, rfl⟩
      simp only [go_sem, reduceIte, Nat.reduceEqDiff, Nat.reduceAdd, Nat.reduceLeDiff, Nat.reducePow, Nat.reduceDiv, Nat.reduceMod, decide_true]
      exact ⟨by simp only [Conf.won, c1, Bool.or_true, Bool.true_or, Bool.false_or, Bool.and_true, Bool.true_and, Bool.false_and, Bool.and_false], Ext.b1 _⟩
  · have c3 : x.new.length = 0 := by omega
    simp only [go_sem, reduceIte, Nat.reduceEqDiff, Nat.reduceAdd, Nat.reduceLeDiff, Nat.reducePow, Nat.reduceDiv, Nat.reduceMod, decide_true, decide_eq_false c2]
    refine wCall_use ⟨hg.1, hg.2 F F' _ x.old yes _ _ (ho.up (Ext.b1 _)) (hb.up (Ext.b1 _)) hl.1 hy⟩ ?_
    rintro _ _ ⟨rfl, rfl⟩
    simp only [go_sem, reduceIte, Nat.reduceEqDiff, Nat.reduceAdd, Nat.reduceLeDiff, Nat.reducePow, Nat.reduceDiv, Nat.reduceMod, decide_true]
    exact ⟨by simp only [Conf.won, decide_eq_true c3, Bool.true_or, Bool.false_or, Bool.and_true, Bool.true_and, Bool.false_and, Bool.and_false], Ext.b1 _⟩

end Glb
