/-
  A library of its own: its parts, one behind the other.
-/
import Derived.Test.YtcegihlhpmdbnaaGreatGlbKitB
import Derived.Test.YtcegihlhpmdbnaaGreatGlbLibE
import Derived.Test.YtcegihlhpmdbnaaGreatGlbCquorum
import Derived.Test.YtcegihlhpmdbnaaGreatGlbCgleberef10
import Derived.Test.YtcegihlhpmdbnaaGreatGlbLibB
import Derived.Test.YtcegihlhpmdbnaaGreatGlbLibD
set_option linter.unusedSimpArgs false
set_option linter.unusedVariables false
/-
  Who is enough: the program's functions and the document's answer so.
-/
namespace Glb
open Go
set_option maxRecDepth 10000
set_option maxHeartbeats 4000000

theorem Rd.int_at {F : Nat → Prop} {h : AHeap} {l : List Int} {a : AV} (hx : Rd F h (dInts l) a) {i : Nat} (hi : i < l.length) :
    ∃ p, aindex 1 a (.int .i64 i) = some p ∧ aload h false 1 p = some (.int .i64 l[i]) := by
  obtain ⟨p, cs, hp, hpc, hcs⟩ := hx.index .i64 (i := i) (d := [.int .i64 l[i]]) (by omega) (by simp [hi])
  simp only [RdL, Rd] at hcs
  obtain ⟨_, _, rfl, rfl, rfl⟩ := hcs
  exact ⟨p, hp, by rw [aload_p hpc]; exact take_one _ _ _⟩
theorem Rd.ints_len {F : Nat → Prop} {h : AHeap} {l : List Int} {a : AV} (hx : Rd F h (dInts l) a) : alen a = some (.int .i64 l.length) := by simpa using hx.len

def findAt (n : Int) : List Int → Nat → Int
  | [], _ => -1
  | x :: r, k => if n = x then k else findAt n r (k + 1)
theorem findAt_has (n : Int) : ∀ (l : List Int) (k : Nat), decide (0 ≤ findAt n l k) = decide (n ∈ l) := by
  intro l
  induction l with
  | nil => intro k; simp [findAt]
  | cons x r ih =>
    intro k
    simp only [findAt]
    split
    · rename_i e; subst e; simp
    · rename_i e; rw [ih]; simp [e]

def IndexOk (P : Program) (f : FuncId) : Prop :=
  isFn P f = true ∧ ∀ (F : Nat → Prop) (h : AHeap) (l : List Int) (a : AV) (n : Int), Rd F h (dInts l) a → l.length ≤ 2^40 → ACalls P f [a, .int .i64 n] h fun r h' => r = .int .i64 (findAt n l 0) ∧ h' = h

theorem Index_ok {P : Program} {f : FuncId} (hf : Is P f c_slices_Index_int_int) : IndexOk P f := by
  refine ⟨hf.2, fun F h l a n ha hl => fun_sound hf.1 (Nat.le_of_ble_eq_true rfl) ?_⟩
  show vc P c_slices_Index_int_int.code ⟨[(0, a), (1, .int .i64 n)], [], h⟩ (atEnd c_slices_Index_int_int.res _)
  have la := ha.ints_len
  simp only [c_slices_Index_int_int, go_sem, reduceIte, Nat.reduceEqDiff, Nat.reduceAdd, Nat.reduceLeDiff, Nat.reducePow, Nat.reduceDiv, Nat.reduceMod, decide_true, la]
  refine vc_loop (fun m L h' => ∃ i : Nat, lk 0 L = a ∧ lk 1 L = .int .i64 n ∧ lk 7 L = .int .i64 l.length ∧ lk 8 L = .int .i64 i ∧ h' = h ∧ i ≤ l.length ∧ m = l.length - i ∧ findAt n (l.drop i) i = findAt n l 0) l.length ?_ ?_
  · exact ⟨0, by simp [lk_ins, lk_cons], by simp [lk_ins, lk_cons], by simp [lk_ins], by simp [lk_ins], rfl, by omega, by omega, rfl⟩
  · rintro m L h' ⟨i, h0, h1, h7, h8, rfl, hi, rfl, hq⟩
    simp only [c_slices_Index_int_int_l0, go_sem, reduceIte, Nat.reduceEqDiff, Nat.reduceAdd, Nat.reduceLeDiff, Nat.reducePow, Nat.reduceDiv, Nat.reduceMod, decide_true, h0, h1, h7, h8]
    refine wCond_split (fun ci => ?_) (fun ci => ?_)
    · simp at ci
      obtain ⟨p, hp, hv⟩ := ha.int_at ci
      have e : IntKind.i64.wrap (↑i + 1) = (i : Int) + 1 := wrap_i64 (by omega)
      simp only [go_sem, reduceIte, Nat.reduceEqDiff, Nat.reduceAdd, Nat.reduceLeDiff, Nat.reducePow, Nat.reduceDiv, Nat.reduceMod, decide_true, h0, h1, h7, h8, hp, hv]
      rw [List.drop_eq_getElem_cons ci] at hq
      simp only [findAt] at hq
      by_cases c : n = l[i]
      · simp only [go_sem, reduceIte, Nat.reduceEqDiff, Nat.reduceAdd, Nat.reduceLeDiff, Nat.reducePow, Nat.reduceDiv, Nat.reduceMod, decide_true, decide_eq_true c]
        rw [if_pos c] at hq
        rw [← hq]
      · simp only [go_sem, reduceIte, Nat.reduceEqDiff, Nat.reduceAdd, Nat.reduceLeDiff, Nat.reducePow, Nat.reduceDiv, Nat.reduceMod, decide_true, decide_eq_false c, h0, h1, h7, h8, e]
        rw [if_neg c] at hq
        exact ⟨_, by omega, i + 1, by simp, ci, rfl, hq⟩
    · simp at ci
      simp only [go_sem, reduceIte, Nat.reduceEqDiff, Nat.reduceAdd, Nat.reduceLeDiff, Nat.reducePow, Nat.reduceDiv, Nat.reduceMod, decide_true]
      obtain rfl : i = l.length := by omega
      rw [List.drop_length] at hq
      rw [← hq]; rfl

def HasOk (P : Program) (f : FuncId) : Prop :=
  isFn P f = true ∧ ∀ (F : Nat → Prop) (h : AHeap) (l : List Int) (a : AV) (n : Int), Rd F h (dInts l) a → l.length ≤ 2^40 → ACalls P f [a, .int .i64 n] h fun r h' => r = .bool (decide (n ∈ l)) ∧ h' = h

theorem Contains_ok {P : Program} {f g : FuncId} (hf : Is P f (c_slices_Contains_int_int g)) (hg : IndexOk P g) : HasOk P f := by
  refine ⟨hf.2, fun F h l a n ha hl => fun_sound hf.1 (Nat.le_of_ble_eq_true rfl) ?_⟩
  show vc P (c_slices_Contains_int_int g).code ⟨[(0, a), (1, .int .i64 n)], [], h⟩ (atEnd (c_slices_Contains_int_int g).res _)
  simp only [c_slices_Contains_int_int, go_sem, reduceIte, Nat.reduceEqDiff, Nat.reduceAdd, Nat.reduceLeDiff, Nat.reducePow, Nat.reduceDiv, Nat.reduceMod, decide_true]
  refine wCall_use ⟨hg.1, hg.2 F _ l a n ha hl⟩ ?_
  rintro _ _ ⟨rfl, rfl⟩
  simp only [go_sem, reduceIte, Nat.reduceEqDiff, Nat.reduceAdd, Nat.reduceLeDiff, Nat.reducePow, Nat.reduceDiv, Nat.reduceMod, decide_true, findAt_has]

theorem gleberef10_In_ok {P : Program} {f : FuncId} (hf : Is P f c_gleberef10_In) : HasOk P f := by
  refine ⟨hf.2, fun F h l a n ha hl => fun_sound hf.1 (Nat.le_of_ble_eq_true rfl) ?_⟩
  show vc P c_gleberef10_In.code ⟨[(0, a), (1, .int .i64 n)], [], h⟩ (atEnd c_gleberef10_In.res _)
  have la := ha.ints_len
  simp only [c_gleberef10_In, go_sem, reduceIte, Nat.reduceEqDiff, Nat.reduceAdd, Nat.reduceLeDiff, Nat.reducePow, Nat.reduceDiv, Nat.reduceMod, decide_true, la]
  refine vc_loop (fun m L h' => ∃ i : Nat, lk 0 L = a ∧ lk 1 L = .int .i64 n ∧ lk 5 L = .int .i64 i ∧ h' = h ∧ i ≤ l.length ∧ m = l.length - i ∧ decide (n ∈ l.drop i) = decide (n ∈ l)) l.length ?_ ?_
  · exact ⟨0, by simp [lk_ins, lk_cons], by simp [lk_ins, lk_cons], by simp [lk_ins], rfl, by omega, by omega, rfl⟩
  · rintro m L h' ⟨i, h0, h1, h5, rfl, hi, rfl, hq⟩
    simp only [c_gleberef10_In_l0, go_sem, reduceIte, Nat.reduceEqDiff, Nat.reduceAdd, Nat.reduceLeDiff, Nat.reducePow, Nat.reduceDiv, Nat.reduceMod, decide_true, h0, h1, h5, la]
    refine wCond_split (fun ci => ?_) (fun ci => ?_)
    · simp at ci
      obtain ⟨p, hp, hv⟩ := ha.int_at ci
      have e : IntKind.i64.wrap (↑i + 1) = (i : Int) + 1 := wrap_i64 (by omega)
      simp only [go_sem, reduceIte, Nat.reduceEqDiff, Nat.reduceAdd, Nat.reduceLeDiff, Nat.reducePow, Nat.reduceDiv, Nat.reduceMod, decide_true, h0, h1, h5, hp, hv]
      rw [List.drop_eq_getElem_cons ci] at hq
      by_cases c : l[i] = n
      · simp only [go_sem, reduceIte, Nat.reduceEqDiff, Nat.reduceAdd, Nat.reduceLeDiff, Nat.reducePow, Nat.reduceDiv, Nat.reduceMod, decide_true, decide_eq_true c]
        rw [← hq]; simp [c]
      · simp only [go_sem, reduceIte, Nat.reduceEqDiff, Nat.reduceAdd, Nat.reduceLeDiff, Nat.reducePow, Nat.reduceDiv, Nat.reduceMod, decide_true, decide_eq_false c, h0, h1, h5, e]
        exact ⟨_, by omega, i + 1, by simp, ci, rfl, by rw [← hq]; have : ¬ n = l[i] := fun e => c e.symm; simp only [List.mem_cons, this, false_or]⟩
    · simp at ci
      simp only [go_sem, reduceIte, Nat.reduceEqDiff, Nat.reduceAdd, Nat.reduceLeDiff, Nat.reducePow, Nat.reduceDiv, Nat.reduceMod, decide_true]
      obtain rfl : i = l.length := by omega
      rw [List.drop_length] at hq
      rw [← hq]; simp

/-- of how many items something is so -/
def CountOk (P : Program) (f : FuncId) : Prop :=
  isFn P f = true ∧ ∀ (F : Nat → Prop) (h : AHeap) (l : List Int) (a : AV) (g : FuncId) (fs cs : List AV) (p : Int → Bool), Rd F h (dInts l) a → l.length ≤ 2^40 → isFn P g = true →
    (∀ n, ACalls P g (fs ++ [.int .i64 n] ++ cs) h fun r h' => r = .bool (p n) ∧ h' = h) → ACalls P f [a, .clo g fs cs] h fun r h' => r = .int .i64 (l.countP p) ∧ h' = h

theorem count_ok {P : Program} {f : FuncId} (hf : Is P f c_quorum_count_int) : CountOk P f := by
  refine ⟨hf.2, fun F h l a g fs cs p ha hl hi hg => fun_sound hf.1 (Nat.le_of_ble_eq_true rfl) ?_⟩
  show vc P c_quorum_count_int.code ⟨[(0, a), (1, .clo g fs cs)], [], h⟩ (atEnd c_quorum_count_int.res _)
  have la := ha.ints_len
  simp only [c_quorum_count_int, go_sem, reduceIte, Nat.reduceEqDiff, Nat.reduceAdd, Nat.reduceLeDiff, Nat.reducePow, Nat.reduceDiv, Nat.reduceMod, decide_true, la]
  refine vc_loop (fun m L h' => ∃ i c : Nat, lk 1 L = .clo g fs cs ∧ lk 5 L = .int .i64 c ∧ lk 8 L = a ∧ lk 9 L = .int .i64 l.length ∧ lk 10 L = .int .i64 i ∧ h' = h ∧ i ≤ l.length ∧ c ≤ i ∧ m = l.length - i ∧ c + (l.drop i).countP p = l.countP p) l.length ?_ ?_
  · exact ⟨0, 0, by simp [lk_ins, lk_cons], by simp [lk_ins, lk_cons], by simp [lk_ins, lk_cons], by simp [lk_ins, lk_cons], by simp [lk_ins], rfl, by omega, by omega, by omega, by simp⟩
  · rintro m L h' ⟨i, c, h1, h5, h8, h9, h10, rfl, hi2, hci, rfl, hq⟩
    simp only [c_quorum_count_int_l0, go_sem, reduceIte, Nat.reduceEqDiff, Nat.reduceAdd, Nat.reduceLeDiff, Nat.reducePow, Nat.reduceDiv, Nat.reduceMod, decide_true, h1, h5, h8, h9, h10]
    refine wCond_split (fun ci => ?_) (fun ci => ?_)
    · simp at ci
      obtain ⟨q, hp, hv⟩ := ha.int_at ci
      have e : IntKind.i64.wrap (↑i + 1) = (i : Int) + 1 := wrap_i64 (by omega)
      have e2 : IntKind.i64.wrap (↑c + 1) = ((c + 1 : Nat) : Int) := by rw [wrap_i64 (by omega)]; omega
      simp only [go_sem, reduceIte, Nat.reduceEqDiff, Nat.reduceAdd, Nat.reduceLeDiff, Nat.reducePow, Nat.reduceDiv, Nat.reduceMod, decide_true, h1, h5, h8, h9, h10, hp, hv]
      rw [List.drop_eq_getElem_cons ci, List.countP_cons] at hq
      refine wCall_use ⟨hi, hg _⟩ ?_
      rintro _ _ ⟨rfl, rfl⟩
      cases hpb : p l[i]
      · simp only [go_sem, reduceIte, Nat.reduceEqDiff, Nat.reduceAdd, Nat.reduceLeDiff, Nat.reducePow, Nat.reduceDiv, Nat.reduceMod, decide_true, h1, h5, h8, h9, h10, e]
        exact ⟨_, by omega, i + 1, c, by simp, by simp, ci, by omega, rfl, by simpa [hpb] using hq⟩
      · simp only [go_sem, reduceIte, Nat.reduceEqDiff, Nat.reduceAdd, Nat.reduceLeDiff, Nat.reducePow, Nat.reduceDiv, Nat.reduceMod, decide_true, h1, h5, h8, h9, h10, e, e2]
        exact ⟨_, by omega, i + 1, c + 1, by simp, by simp, ci, by omega, rfl, by simp only [hpb, if_true] at hq; omega⟩
    · simp at ci
      simp only [go_sem, reduceIte, Nat.reduceEqDiff, Nat.reduceAdd, Nat.reduceLeDiff, Nat.reducePow, Nat.reduceDiv, Nat.reduceMod, decide_true, h5]
      obtain rfl : i = l.length := by omega
      rw [List.drop_length] at hq
      simp at hq
      rw [hq]

theorem quo64 (a b : Int) : abin .quo (.int .i64 a) (.int .i64 b) = if b = 0 then none else some (.int .i64 (IntKind.i64.wrap (a.tdiv b))) := Eq.trans rfl rfl
theorem rem64 (a b : Int) : abin .rem (.int .i64 a) (.int .i64 b) = if b = 0 then none else some (.int .i64 (a.tmod b)) := Eq.trans rfl rfl

/-- do enough of a list agree? -/
def enough (l yes : List Int) : Bool := decide (l.length / 2 < l.countP fun n => decide (n ∈ yes))
def Conf.won (x : Conf) (yes : List Int) : Bool := enough x.old yes && (decide (x.new.length = 0) || enough x.new yes)

def EnoughOk (P : Program) (f : FuncId) : Prop :=
  isFn P f = true ∧ ∀ (F F' : Nat → Prop) (h : AHeap) (l yes : List Int) (a b : AV), Rd F h (dInts l) a → Rd F' h (dInts yes) b → l.length ≤ 2^40 → yes.length ≤ 2^40 → ACalls P f [a, b] h fun r h' => r = .bool (enough l yes) ∧ h' = h

theorem enough_f1_ok {P : Program} {f g : FuncId} (hf : Is P f (c_quorum_enough_f1 g)) (hg : HasOk P g) {F : Nat → Prop} {h : AHeap} {yes : List Int} {b q : AV} (hb : Rd F h (dInts yes) b) (hy : yes.length ≤ 2^40) (hq : aload h false 1 q = some b) (n : Int) :
    ACalls P f [.int .i64 n, q] h fun r h' => r = .bool (decide (n ∈ yes)) ∧ h' = h := by
  refine fun_sound hf.1 (Nat.le_of_ble_eq_true rfl) ?_
  show vc P (c_quorum_enough_f1 g).code ⟨[(0, .int .i64 n), (1, q)], [], h⟩ (atEnd (c_quorum_enough_f1 g).res _)
  simp only [c_quorum_enough_f1, go_sem, reduceIte, Nat.reduceEqDiff, Nat.reduceAdd, Nat.reduceLeDiff, Nat.reducePow, Nat.reduceDiv, Nat.reduceMod, decide_true, hq]
  refine wCall_use ⟨hg.1, hg.2 F _ yes b n hb hy⟩ ?_
  rintro _ _ ⟨rfl, rfl⟩
  simp only [go_sem, reduceIte, Nat.reduceEqDiff, Nat.reduceAdd, Nat.reduceLeDiff, Nat.reducePow, Nat.reduceDiv, Nat.reduceMod, decide_true]

theorem enough_ok {P : Program} {f k g c : FuncId} (hf : Is P f (c_quorum_enough k g)) (hk : Is P k (c_quorum_enough_f1 c)) (hc : HasOk P c) (hg : CountOk P g) : EnoughOk P f := by
  refine ⟨hf.2, fun F F' h l yes a b ha hb hl hy => obs (upto_bool _ _) (fun_sound hf.1 (Nat.le_of_ble_eq_true rfl) ?_)⟩
  show vc P (c_quorum_enough k g).code ⟨[(0, a), (1, b)], [], h⟩ (atEnd (c_quorum_enough k g).res _)
  have la := ha.ints_len
  simp only [c_quorum_enough, go_sem, reduceIte, Nat.reduceEqDiff, Nat.reduceAdd, Nat.reduceLeDiff, Nat.reducePow, Nat.reduceDiv, Nat.reduceMod, decide_true, hb.scalar, cells_of hb.scalar]
  refine wCall_use ⟨hg.1, hg.2 F _ l a k [] [.ptr h.length 1 0 0] (fun n => decide (n ∈ yes)) (ha.up (Ext.b1 _)) hl hk.2 (fun n => enough_f1_ok hk hc (hb.up (Ext.b1 _)) hy (by simp only [go_sem, reduceIte, Nat.reduceEqDiff, Nat.reduceAdd, Nat.reduceLeDiff, Nat.reducePow, Nat.reduceDiv, Nat.reduceMod, decide_true]) n)⟩ ?_
  rintro _ _ ⟨rfl, rfl⟩
  have e : IntKind.i64.wrap ((l.length : Int).tdiv 2) = ((l.length / 2 : Nat) : Int) := by rw [Int.tdiv_eq_ediv_of_nonneg (by omega), wrap_i64 (by omega)]; omega
  have z2 : ∀ {x : Option AV}, (if (2 : Int) = 0 then none else x) = x := fun {x} => if_neg (by decide)
  simp only [go_sem, reduceIte, Nat.reduceEqDiff, Nat.reduceAdd, Nat.reduceLeDiff, Nat.reducePow, Nat.reduceDiv, Nat.reduceMod, decide_true, la, quo64, z2, e]
  exact ⟨by simp only [enough]; congr 1; simp only [decide_eq_decide]; omega, Ext.b1 _⟩

def WonOk (P : Program) (f : FuncId) : Prop :=
  isFn P f = true ∧ ∀ (F F' : Nat → Prop) (h : AHeap) (x : Conf) (yes : List Int) (a : List AV) (b : AV), RdL F h x.c a → Rd F' h (dInts yes) b → x.few (2^40) → yes.length ≤ 2^40 → ACalls P f [.agg a, b] h fun r h' => r = .bool (x.won yes) ∧ h' = h

theorem natCast_eq_zero (n : Nat) : decide ((n : Int) = 0) = decide (n = 0) := by simp

theorem quorum_Won_ok {P : Program} {f g : FuncId} (hf : Is P f (c_quorum_Won g)) (hg : EnoughOk P g) : WonOk P f := by
  refine ⟨hf.2, fun F F' h x yes a b ha hb hl hy => obs (upto_bool _ _) (fun_sound hf.1 (Nat.le_of_ble_eq_true rfl) ?_)⟩
  show vc P (c_quorum_Won g).code ⟨[(0, .agg a), (1, b)], [], h⟩ (atEnd (c_quorum_Won g).res _)
  obtain ⟨o, n, e, rfl, ho, hn, he⟩ := rd_conf ha
  have ln := hn.ints_len
  simp only [c_quorum_Won, go_sem, reduceIte, Nat.reduceEqDiff, Nat.reduceAdd, Nat.reduceLeDiff, Nat.reducePow, Nat.reduceDiv, Nat.reduceMod, decide_true, ho.scalar, hn.scalar, he.scalar]
  refine wCall_use ⟨hg.1, hg.2 F F' _ x.old yes _ _ (ho.up (Ext.b1 _)) (hb.up (Ext.b1 _)) hl.1 hy⟩ ?_
  rintro _ _ ⟨rfl, rfl⟩
  cases c1 : enough x.old yes
  · simp only [go_sem, reduceIte, Nat.reduceEqDiff, Nat.reduceAdd, Nat.reduceLeDiff, Nat.reducePow, Nat.reduceDiv, Nat.reduceMod, decide_true]
    exact ⟨by simp [Conf.won, c1], Ext.b1 _⟩
  · simp only [go_sem, reduceIte, Nat.reduceEqDiff, Nat.reduceAdd, Nat.reduceLeDiff, Nat.reducePow, Nat.reduceDiv, Nat.reduceMod, decide_true, ln, natCast_eq_zero]
    by_cases c2 : x.new.length = 0
    · simp only [go_sem, reduceIte, Nat.reduceEqDiff, Nat.reduceAdd, Nat.reduceLeDiff, Nat.reducePow, Nat.reduceDiv, Nat.reduceMod, decide_true, decide_eq_true c2]
      exact ⟨by simp only [Conf.won, c1, decide_eq_true c2, Bool.true_or, Bool.false_or, Bool.and_true, Bool.true_and, Bool.false_and, Bool.and_false], Ext.b1 _⟩
    · simp only [go_sem, reduceIte, Nat.reduceEqDiff, Nat.reduceAdd, Nat.reduceLeDiff, Nat.reducePow, Nat.reduceDiv, Nat.reduceMod, decide_true, decide_eq_false c2]
      refine wCall_use ⟨hg.1, hg.2 F F' _ x.new yes _ _ (hn.up (Ext.b1 _)) (hb.up (Ext.b1 _)) hl.2.1 hy⟩ ?_
      rintro _ _ ⟨rfl, rfl⟩
      simp only [go_sem, reduceIte, Nat.reduceEqDiff, Nat.reduceAdd, Nat.reduceLeDiff, Nat.reducePow, Nat.reduceDiv, Nat.reduceMod, decide_true]
      exact ⟨by simp only [Conf.won, c1, decide_eq_false c2, Bool.true_or, Bool.false_or, Bool.and_true, Bool.true_and, Bool.false_and, Bool.and_false], Ext.b1 _⟩

end Glb

/-
  What enough have reached: the program's function and the document's answer so.
-/
namespace Glb
open Go
set_option maxRecDepth 10000
set_option maxHeartbeats 4000000

end Glb

/-
  Lists lent and kept, a number picked; what is told of those that have reached a number.
-/
namespace Glb
open Go
set_option maxRecDepth 10000
set_option maxHeartbeats 4000000

def pick (k n : Int) : Int := if n < 1 then 0 else k % n
def PickOk (P : Program) (f : FuncId) : Prop := isFn P f = true ∧ ∀ (k n : Int), n ≤ 2^40 → Pure P f [.int .i64 k, .int .i64 n] (.int .i64 (pick k n))

theorem Pick_ok {P : Program} {f : FuncId} (hf : Is P f c_glebekit_Pick) : PickOk P f := by
  refine ⟨hf.2, fun k n hn h => fun_sound hf.1 (Nat.le_of_ble_eq_true rfl) ?_⟩
  show vc P c_glebekit_Pick.code ⟨[(0, .int .i64 k), (1, .int .i64 n)], [], h⟩ (atEnd c_glebekit_Pick.res _)
  simp only [c_glebekit_Pick, go_sem, reduceIte, Nat.reduceEqDiff, Nat.reduceAdd, Nat.reduceLeDiff, Nat.reducePow, Nat.reduceDiv, Nat.reduceMod, decide_true]
  by_cases c : n < 1
  · simp only [go_sem, reduceIte, Nat.reduceEqDiff, Nat.reduceAdd, Nat.reduceLeDiff, Nat.reducePow, Nat.reduceDiv, Nat.reduceMod, decide_true, decide_eq_true c, pick, if_pos c]
  · have z : ∀ {x : Option AV}, (if n = 0 then none else x) = x := fun {x} => if_neg (by omega)
    simp only [go_sem, reduceIte, Nat.reduceEqDiff, Nat.reduceAdd, Nat.reduceLeDiff, Nat.reducePow, Nat.reduceDiv, Nat.reduceMod, decide_true, decide_eq_false c, rem64, z, pick, if_neg c]
    have h1 : k.tmod n = if 0 ≤ k then k % n else -((-k) % n) := by
      split
      · rename_i h; exact Int.tmod_eq_emod_of_nonneg h
      · rename_i h
        have : k.tmod n = -((-k).tmod n) := by rw [Int.neg_tmod]; omega
        rw [this, Int.tmod_eq_emod_of_nonneg (by omega)]
    have h2 := Int.emod_nonneg k (show n ≠ 0 by omega)
    have h3 := Int.emod_lt_of_pos k (show 0 < n by omega)
    have h4 := Int.emod_nonneg (-k) (show n ≠ 0 by omega)
    have h5 := Int.emod_lt_of_pos (-k) (show 0 < n by omega)
    by_cases ck : k.tmod n < 0
    · have e : IntKind.i64.wrap (k.tmod n + n) = k % n := by
        have hk : ¬ 0 ≤ k := by intro hk; rw [if_pos hk] at h1; omega
        rw [if_neg hk] at h1
        rw [wrap_i64 (by omega), h1]
        have h6 : (-k) % n ≠ 0 := by omega
        have : k % n = (n - (-k) % n) % n := by
          have : n - (-k) % n = k + n * (1 + (-k) / n) := by have := Int.mul_ediv_add_emod (-k) n; rw [Int.mul_add]; omega
          rw [this, Int.add_mul_emod_self_left]
        rw [this, Int.emod_eq_of_lt (a := n - -k % n) (b := n) (by omega) (by omega)]; omega
      simp only [go_sem, reduceIte, Nat.reduceEqDiff, Nat.reduceAdd, Nat.reduceLeDiff, Nat.reducePow, Nat.reduceDiv, Nat.reduceMod, decide_true, decide_eq_true ck, e]
    · have e : k.tmod n = k % n := by
        by_cases hk : 0 ≤ k
        · rw [if_pos hk] at h1; exact h1
        · rw [if_neg hk] at h1
          have h7 : (-k) % n = 0 := by omega
          have : k % n = 0 := by have := Int.dvd_of_emod_eq_zero h7; exact Int.emod_eq_zero_of_dvd ((Int.dvd_neg).1 this)
          omega
      rw [e] at ck
      simp only [go_sem, reduceIte, Nat.reduceEqDiff, Nat.reduceAdd, Nat.reduceLeDiff, Nat.reducePow, Nat.reduceDiv, Nat.reduceMod, decide_true, e, decide_eq_false ck]

theorem ownLL_ints (k : IntKind) (F : Nat → Prop) (h : AHeap) : ∀ l : List Int, OwnLL (l.map fun n => [.int k n]) F h (l.map fun n => [AV.int k n])
  | [] => by simp only [List.map_nil, OwnLL]
  | n :: l => by simp only [List.map_cons, OwnLL, OwnL, Own]; exact ⟨_, _, rfl, ⟨_, _, rfl, rfl, rfl⟩, ownLL_ints k F h l⟩
theorem ownLL_ints_eq {k : IntKind} {F : Nat → Prop} {h : AHeap} : ∀ {l : List Int} {r : List (List AV)}, OwnLL (l.map fun n => [.int k n]) F h r → r = l.map fun n => [AV.int k n]
  | [], r, hh => by simp only [List.map_nil, OwnLL] at hh; simpa using hh
  | n :: l, r, hh => by
    simp only [List.map_cons, OwnLL, OwnL, Own] at hh
    obtain ⟨a, q, rfl, ⟨_, _, rfl, rfl, rfl⟩, h2⟩ := hh
    rw [ownLL_ints_eq h2]; rfl

def lent (l : List Int) : List Int := l ++ List.replicate 5 (-77)
def LentIntsP (P : Program) (f : FuncId) : Prop := isFn P f = true ∧ ∀ l : List Int, l.length ≤ 2^40 → Pure P f [aints l] (aints (lent l))

theorem LentInts_ok {P : Program} {f : FuncId} (hf : Is P f c_glebekit_LentInts) : LentIntsP P f := by
  refine ⟨hf.2, fun l hl => pure_d (d := dInts (lent l)) fun h => fun_sound hf.1 (Nat.le_of_ble_eq_true rfl) ?_⟩
  show vc P c_glebekit_LentInts.code ⟨[(0, aints l)], [], h⟩ (atEnd c_glebekit_LentInts.res _)
  have e1 : IntKind.i64.wrap ((l.length : Int) + 5) = ((l.length + 5 : Nat) : Int) := by rw [wrap_i64 (by omega)]; omega
  have hm := amks_int (h := h) (sz := 1) (bytes := 8) (zero := [.int .i64 0]) (k := .i64) (k' := .i64) (l := ((l.length + 5 : Nat) : Int)) (c := ((l.length + 5 : Nat) : Int)) (by omega) (by omega) (by omega)
  simp only [Int.toNat_natCast] at hm
  have hlen : (lent l).length = l.length + 5 := by simp [lent]
  simp only [c_glebekit_LentInts, go_sem, reduceIte, Nat.reduceEqDiff, Nat.reduceAdd, Nat.reduceLeDiff, Nat.reducePow, Nat.reduceDiv, Nat.reduceMod, decide_true, e1, hev_mks, hm]
  refine vc_loop (fun m L h' => ∃ (i : Nat) (row : List (List AV)), lk 0 L = aints l ∧ lk 3 L = .ref h.length 1 0 (l.length + 5) (some (l.length + 5)) ∧ lk 4 L = .int .i64 i ∧ h' = h ++ [some (.arr 1 row false)] ∧ row.length = l.length + 5 ∧
    (∀ j, j < l.length + 5 → ∃ v, row[j]? = some [.int .i64 v]) ∧ (∀ j, j < i → row[j]? = (lent l)[j]?.map fun n => [.int .i64 n]) ∧ i ≤ l.length + 5 ∧ m = l.length + 5 - i) (l.length + 5) ?_ ?_
  · exact ⟨0, _, by simp [lk_ins, lk_cons], by simp [lk_ins, lk_cons], by simp [lk_ins], rfl, by simp, fun j hj => ⟨0, by simp [hj]⟩, fun j hj => by omega, by omega, by omega⟩
  · rintro m L h' ⟨i, row, h0, h3, h4, rfl, hr, hv, hd, hi, rfl⟩
    have la3 : alen (.ref h.length 1 0 (l.length + 5) (some (l.length + 5))) = some (.int .i64 ((l.length + 5 : Nat) : Int)) := rfl
    simp only [c_glebekit_LentInts_l0, go_sem, reduceIte, Nat.reduceEqDiff, Nat.reduceAdd, Nat.reduceLeDiff, Nat.reducePow, Nat.reduceDiv, Nat.reduceMod, decide_true, h0, h3, h4, la3]
    refine wCond_split (fun ci => ?_) (fun ci => ?_)
    · simp at ci
      have ci' : i < l.length + 5 := by omega
      obtain ⟨v, hvi⟩ := hv i ci'
      have e2 : IntKind.i64.wrap (↑i + 1) = (i : Int) + 1 := wrap_i64 (by omega)
      have hix : aindex 1 (.ref h.length 1 0 (l.length + 5) (some (l.length + 5))) (.int .i64 i) = some (.ptr h.length 1 i 0) := by
        simp only [aindex]; rw [if_pos ⟨trivial, by omega, by omega⟩]; simp
      have st : ∀ (row : List (List AV)) (u w : Int), row[i]? = some [.int .i64 w] → astore (h ++ [some (.arr 1 row false)]) 1 (.ptr h.length 1 i 0) (.int .i64 u) = some (h ++ [some (.arr 1 (row.set i [.int .i64 u]) false)]) := fun row u w hw => by
        have := astore_elem (x := .int .i64 u) (bx10 h (some (.arr 1 row false))) hw rfl rfl rfl rfl
        rw [this, sx10]
      simp only [go_sem, reduceIte, Nat.reduceEqDiff, Nat.reduceAdd, Nat.reduceLeDiff, Nat.reducePow, Nat.reduceDiv, Nat.reduceMod, decide_true, h0, h3, h4, hix, st row (-77) v hvi]
      have hset : (row.set i [.int .i64 (-77)])[i]? = some [.int .i64 (-77)] := List.getElem?_set_self (by omega)
      have nxt : ∀ (u : Int) (row' : List (List AV)), (∀ j, j ≠ i → row'[j]? = row[j]?) → row'[i]? = some [.int .i64 u] → (lent l)[i]? = some u → (∀ j, j < l.length + 5 → ∃ v, row'[j]? = some [.int .i64 v]) ∧ (∀ j, j < i + 1 → row'[j]? = (lent l)[j]?.map fun n => [.int .i64 n]) := by
        intro u row' ho hn hl
        refine ⟨fun j hj => ?_, fun j hj => ?_⟩
        · by_cases e : j = i
          · subst e; exact ⟨u, hn⟩
          · rw [ho j e]; exact hv j hj
        · by_cases e : j = i
          · subst e; rw [hn, hl]; rfl
          · rw [ho j e]; exact hd j (by omega)
      by_cases cl : (i : Int) < l.length
      · obtain ⟨p, hp, hpv⟩ := (rd_aints nof (h ++ [some (.arr 1 (row.set i [.int .i64 (-77)]) false)]) l).int_at (i := i) (by omega)
        simp only [go_sem, reduceIte, Nat.reduceEqDiff, Nat.reduceAdd, Nat.reduceLeDiff, Nat.reducePow, Nat.reduceDiv, Nat.reduceMod, decide_true, h0, h3, h4, decide_eq_true cl, hix, hp, hpv, st _ (l[i]'(by omega)) (-77) hset, e2]
        obtain ⟨q1, q2⟩ := nxt (l[i]'(by omega)) ((row.set i [.int .i64 (-77)]).set i [.int .i64 (l[i]'(by omega))]) (fun j hj => by rw [List.getElem?_set_ne (fun e => hj e.symm), List.getElem?_set_ne (fun e => hj e.symm)])
          (List.getElem?_set_self (by simp; omega)) (by simp only [lent]; rw [List.getElem?_append_left (by omega)]; simp)
        exact ⟨_, by omega, i + 1, _, by simp, rfl, by simpa using hr, q1, q2, by omega, rfl⟩
      · simp only [go_sem, reduceIte, Nat.reduceEqDiff, Nat.reduceAdd, Nat.reduceLeDiff, Nat.reducePow, Nat.reduceDiv, Nat.reduceMod, decide_true, h0, h3, h4, decide_eq_false cl, e2]
        obtain ⟨q1, q2⟩ := nxt (-77) (row.set i [.int .i64 (-77)]) (fun j hj => List.getElem?_set_ne (fun e => hj e.symm)) hset (by simp only [lent]; rw [List.getElem?_append_right (by omega), List.getElem?_replicate, if_pos (by omega)])
        exact ⟨_, by omega, i + 1, _, by simp, rfl, by simpa using hr, q1, q2, by omega, rfl⟩
    · simp at ci
      obtain rfl : i = l.length + 5 := by omega
      have hrow : row = (lent l).map fun n => [.int .i64 n] := by
        apply List.ext_getElem?
        intro j
        rcases Nat.lt_or_ge j (l.length + 5) with hj | hj
        · rw [hd j hj, List.getElem?_map]
        · rw [List.getElem?_eq_none (by omega), List.getElem?_eq_none (by simp [hlen]; omega)]
      subst hrow
      simp only [go_sem, reduceIte, Nat.reduceEqDiff, Nat.reduceAdd, Nat.reduceLeDiff, Nat.reducePow, Nat.reduceDiv, Nat.reduceMod, decide_true, h3]
      refine ⟨?_, Ext.b1 _⟩
      simp only [dInts, Own, List.length_map, hlen]
      exact .inr (.inr ⟨_, 0, _, _, false, rfl, Nat.le_refl _, bx10 _ _, by simp [hlen], (fun c hc => by cases hc; omega), by rw [List.drop_zero, List.take_of_length_le (by simp [hlen])]; exact ownLL_ints .i64 _ _ (lent l)⟩)

def KeptOk (P : Program) (f : FuncId) : Prop :=
  isFn P f = true ∧ ∀ (F : Nat → Prop) (h : AHeap) (l : List Int) (a b : AV), Rd F h (dInts (lent l)) a → Rd F h (dInts l) b → l.length ≤ 2^40 → ACalls P f [a, b] h fun r h' => r = .bool true ∧ h' = h

theorem KeptInts_ok {P : Program} {f g : FuncId} (hf : Is P f (c_glebekit_KeptInts g)) (hg : SameOk P g .i64) : KeptOk P f := by
  refine ⟨hf.2, fun F h l a b ha hb hl => fun_sound hf.1 (Nat.le_of_ble_eq_true rfl) ?_⟩
  show vc P (c_glebekit_KeptInts g).code ⟨[(0, a), (1, b)], [], h⟩ (atEnd (c_glebekit_KeptInts g).res _)
  have hlen : (lent l).length = l.length + 5 := by simp [lent]
  have la := ha.ints_len
  have lb := hb.ints_len
  rw [hlen] at la
  have e1 : IntKind.i64.wrap ((l.length : Int) + 5) = ((l.length + 5 : Nat) : Int) := by rw [wrap_i64 (by omega)]; omega
  obtain ⟨c, hs, hc⟩ := Rd.slice ha (lo := none) (hi := some (l.length : Int)) (mx := none) (by simp) (by simp) (by simp [hlen]; omega) (by simp) (by simp [hlen]; omega) (by simp)
  have hc2 : Rd F h (dInts l) c := by
    have : (lent l).take l.length = l := by simp [lent]
    simpa [dInts, ← List.map_take, this] using hc
  simp only [c_glebekit_KeptInts, go_sem, reduceIte, Nat.reduceEqDiff, Nat.reduceAdd, Nat.reduceLeDiff, Nat.reducePow, Nat.reduceDiv, Nat.reduceMod, decide_true, la, lb, e1, aslc, hs]
  refine use1 hg.1 (hg.2 F _ l l c b hc2 hb hl) ?_
  simp only [go_sem, reduceIte, Nat.reduceEqDiff, Nat.reduceAdd, Nat.reduceLeDiff, Nat.reducePow, Nat.reduceDiv, Nat.reduceMod, decide_true, lb]
  refine vc_loop (fun m L h' => ∃ (i : Nat), lk 0 L = a ∧ lk 5 L = .int .i64 i ∧ h' = h ∧ l.length ≤ i ∧ i ≤ l.length + 5 ∧ m = l.length + 5 - i) 5 ?_ ?_
  · exact ⟨l.length, by simp [lk_ins, lk_cons], by simp [lk_ins], rfl, by omega, by omega, by omega⟩
  · rintro m L h' ⟨i, h0, h5, rfl, hi, hi2, rfl⟩
    simp only [c_glebekit_KeptInts_l0, go_sem, reduceIte, Nat.reduceEqDiff, Nat.reduceAdd, Nat.reduceLeDiff, Nat.reducePow, Nat.reduceDiv, Nat.reduceMod, decide_true, h0, h5, la]
    refine wCond_split (fun ci => ?_) (fun ci => ?_)
    · simp at ci
      obtain ⟨p, hp, hv⟩ := ha.int_at (i := i) (by omega)
      have e : IntKind.i64.wrap (↑i + 1) = (i : Int) + 1 := wrap_i64 (by omega)
      have hx : (lent l)[i]'(by omega) = -77 := by simp only [lent]; rw [List.getElem_append_right hi]; exact List.getElem_replicate _
      simp only [go_sem, reduceIte, Nat.reduceEqDiff, Nat.reduceAdd, Nat.reduceLeDiff, Nat.reducePow, Nat.reduceDiv, Nat.reduceMod, decide_true, h0, h5, hp, hv, hx, e]
      exact ⟨_, by omega, i + 1, by simp, by omega, by omega, rfl⟩
    · simp only [go_sem, reduceIte, Nat.reduceEqDiff, Nat.reduceAdd, Nat.reduceLeDiff, Nat.reducePow, Nat.reduceDiv, Nat.reduceMod, decide_true]

theorem aints_slice (l : List Int) (n : Nat) (hn : n ≤ l.length) : ∃ a, aslice 1 (aints l) none (some (n : Int)) none = some a ∧ ∀ F h, Rd F h (dInts (l.take n)) a := by
  refine ⟨.vals 0 (sliceClip none n (l.map fun n => [AV.int .i64 n]).length false) 1 ((l.map fun n => [AV.int .i64 n]).take n), ?_, fun F h => ?_⟩
  · rw [aints_eq]; simp only [aslice, Option.getD_none, Option.getD_some]; rw [if_pos ⟨trivial, by omega, by omega, by simp; omega, by omega, by simp; omega⟩]; simp
  · simp only [dInts, Rd]
    refine ⟨_, .inr (.inl ⟨_, _, rfl⟩), ?_⟩
    have := OwnLL.rd (F := F) (F' := F) _ (fun _ x => x) _ (ownLL_ints .i64 F h (l.take n))
    rw [← List.map_take]
    exact this

end Glb

/-
  What is agreed: of it enough have reached it, and of no greater number.
-/
namespace Glb
open Go
set_option maxRecDepth 10000
set_option maxHeartbeats 4000000

end Glb
