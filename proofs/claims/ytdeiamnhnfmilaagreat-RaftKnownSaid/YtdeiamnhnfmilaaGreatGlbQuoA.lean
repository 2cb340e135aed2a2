/-
  A library of its own: its parts, one behind the other.
-/
import Derived.Test.YtdeiamnhnfmilaaGreatGlbKitB
import Derived.Test.YtdeiamnhnfmilaaGreatGlbLibE
import Derived.Test.YtdeiamnhnfmilaaGreatGlbCquorum
import Derived.Test.YtdeiamnhnfmilaaGreatGlbLibB
import Derived.Test.YtdeiamnhnfmilaaGreatGlbLibD
set_option linter.unusedSimpArgs false
set_option linter.unusedVariables false
namespace Glb
open Go
open Nat (reduceAdd reduceEqDiff reduceLeDiff)
set_option maxRecDepth 10000
set_option maxHeartbeats 4000000
theorem Rd.int_at {F : Nat -> Prop} {h : AHeap} {l : List Int} {a : AV} (hx : Rd F h (dInts l) a) {i : Nat} (hi : i < l.length) :
  ∃ p, aindex 1 a (.int .i64 i) = some p /\ aload h false 1 p = some (.int .i64 l[i]) := by
 obtain ⟨p, cs, hp, hpc, hcs⟩ := hx.index .i64 (i := i) (d := [.int .i64 l[i]]) (by omega) (by simp [hi])
 simp only [RdL, Rd] at hcs
 obtain ⟨_, _, rfl, rfl, rfl⟩ := hcs
 exact ⟨p, hp, by rw [aload_p hpc]; exact take_one _ _ _⟩
theorem Rd.ints_len {F : Nat -> Prop} {h : AHeap} {l : List Int} {a : AV} (hx : Rd F h (dInts l) a) : alen a = some (.int .i64 l.length) := by simpa using hx.len
def findAt (n : Int) : List Int -> Nat -> Int
 | [], _ => -1
 | x :: r, k => if n = x then k else findAt n r (k + 1)
theorem findAt_has (n : Int) : ∀ (l : List Int) (k : Nat), decide (0 <= findAt n l k) = decide (n ∈ l) := by
 intro l
 induction l with
 | nil => intro k; simp [findAt]
 | cons x r ih =>
  intro k
  simp only [findAt]
  split
  ·rename_i e; subst e; simp
  ·rename_i e; rw [ih]; simp [e]
def IndexOk (P : Program) (f : FuncId) : Prop :=
 isFn P f = true /\ ∀ (F : Nat -> Prop) (h : AHeap) (l : List Int) (a : AV) (n : Int), Rd F h (dInts l) a -> l.length <= 2^40 -> ACalls P f [a, .int .i64 n] h fun r h' => r = .int .i64 (findAt n l 0) /\ h' = h
theorem Index_ok {P : Program} {f : FuncId} (hf : Is P f c_slices_Index_int_int) : IndexOk P f := by
 refine ⟨hf.2, fun F h l a n ha hl => fun_sound hf.1 (Nat.le_of_ble_eq_true rfl) ?_⟩
 show vc P c_slices_Index_int_int.code ⟨[(0, a), (1, .int .i64 n)], [], h⟩ (atEnd c_slices_Index_int_int.res _)
 have la := ha.ints_len
 simp only [c_slices_Index_int_int, go_sem, reduceEqDiff, la]
 refine vc_loop (fun m L h' => ∃ i : Nat, lk 0 L = a /\ lk 1 L = .int .i64 n /\ lk 7 L = .int .i64 l.length /\ lk 8 L = .int .i64 i /\ h' = h /\ i <= l.length /\ m = l.length - i /\ findAt n (l.drop i) i = findAt n l 0) l.length ?_ ?_
 ·exact ⟨0, by simp [lk_ins, lk_cons], by simp [lk_ins, lk_cons], by simp [lk_ins], by simp [lk_ins], rfl, by omega, by omega, rfl⟩
 ·rintro m L h' ⟨i, h0, h1, h7, h8, rfl, hi, rfl, hq⟩
  simp only [c_slices_Index_int_int_l0, go_sem, h7, h8]
  refine wCond_split (fun ci => ?_) (fun ci => ?_)
  ·simp at ci
   obtain ⟨p, hp, hv⟩ := ha.int_at ci
   have e : IntKind.i64.wrap (↑i + 1) = (i : Int) + 1 := wrap_i64 (by omega)
   simp only [go_sem, reduceEqDiff, h0, h1, h8, hp, hv]
   rw [List.drop_eq_getElem_cons ci] at hq
   simp only [findAt] at hq
   by_cases c : n = l[i]
   ·simp only [go_sem, reduceEqDiff, decide_eq_true c]
    rw [if_pos c] at hq
    rw [<- hq]
   ·simp only [go_sem, reduceEqDiff, decide_eq_false c, h0, h1, h7, h8, e]
    rw [if_neg c] at hq
    exact ⟨_, by omega, i + 1, by simp, ci, rfl, hq⟩
  ·simp at ci
   simp only [go_sem, reduceEqDiff]
   obtain rfl : i = l.length := by omega
   rw [List.drop_length] at hq
   rw [<- hq]; rfl
def HasOk (P : Program) (f : FuncId) : Prop :=
 isFn P f = true /\ ∀ (F : Nat -> Prop) (h : AHeap) (l : List Int) (a : AV) (n : Int), Rd F h (dInts l) a -> l.length <= 2^40 -> ACalls P f [a, .int .i64 n] h fun r h' => r = .bool (decide (n ∈ l)) /\ h' = h
theorem Contains_ok {P : Program} {f g : FuncId} (hf : Is P f (c_slices_Contains_int_int g)) (hg : IndexOk P g) : HasOk P f := by
 refine ⟨hf.2, fun F h l a n ha hl => fun_sound hf.1 (Nat.le_of_ble_eq_true rfl) ?_⟩
 show vc P (c_slices_Contains_int_int g).code ⟨[(0, a), (1, .int .i64 n)], [], h⟩ (atEnd (c_slices_Contains_int_int g).res _)
 simp only [c_slices_Contains_int_int, go_sem, reduceEqDiff]
 refine wCall_use ⟨hg.1, hg.2 F _ l a n ha hl⟩ ?_
 rintro _ _ ⟨rfl, rfl⟩
 simp only [go_sem, reduceEqDiff, findAt_has]
def CountOk (P : Program) (f : FuncId) : Prop :=
 isFn P f = true /\ ∀ (F : Nat -> Prop) (h : AHeap) (l : List Int) (a : AV) (g : FuncId) (fs cs : List AV) (p : Int -> Bool), Rd F h (dInts l) a -> l.length <= 2^40 -> isFn P g = true ->
  (∀ n, ACalls P g (fs ++ [.int .i64 n] ++ cs) h fun r h' => r = .bool (p n) /\ h' = h) -> ACalls P f [a, .clo g fs cs] h fun r h' => r = .int .i64 (l.countP p) /\ h' = h
theorem count_ok {P : Program} {f : FuncId} (hf : Is P f c_quorum_count_int) : CountOk P f := by
 refine ⟨hf.2, fun F h l a g fs cs p ha hl hi hg => fun_sound hf.1 (Nat.le_of_ble_eq_true rfl) ?_⟩
 show vc P c_quorum_count_int.code ⟨[(0, a), (1, .clo g fs cs)], [], h⟩ (atEnd c_quorum_count_int.res _)
 have la := ha.ints_len
 simp only [c_quorum_count_int, go_sem, reduceEqDiff, la]
 refine vc_loop (fun m L h' => ∃ i c : Nat, lk 1 L = .clo g fs cs /\ lk 5 L = .int .i64 c /\ lk 8 L = a /\ lk 9 L = .int .i64 l.length /\ lk 10 L = .int .i64 i /\ h' = h /\ i <= l.length /\ c <= i /\ m = l.length - i /\ c + (l.drop i).countP p = l.countP p) l.length ?_ ?_
 ·exact ⟨0, 0, by simp [lk_ins, lk_cons], by simp [lk_ins], by simp [lk_ins], by simp [lk_ins], by simp [lk_ins], rfl, by omega, by omega, by omega, by simp⟩
 ·rintro m L h' ⟨i, c, h1, h5, h8, h9, h10, rfl, hi2, hci, rfl, hq⟩
  simp only [c_quorum_count_int_l0, go_sem, h9, h10]
  refine wCond_split (fun ci => ?_) (fun ci => ?_)
  ·simp at ci
   obtain ⟨q, hp, hv⟩ := ha.int_at ci
   have e : IntKind.i64.wrap (↑i + 1) = (i : Int) + 1 := wrap_i64 (by omega)
   have e2 : IntKind.i64.wrap (↑c + 1) = ((c + 1 : Nat) : Int) := by rw [wrap_i64 (by omega)]; omega
   simp only [go_sem, reduceEqDiff, h1, h8, h10, hp, hv]
   rw [List.drop_eq_getElem_cons ci, List.countP_cons] at hq
   refine wCall_use ⟨hi, hg _⟩ ?_
   rintro _ _ ⟨rfl, rfl⟩
   cases hpb : p l[i]
   ·simp only [go_sem, reduceEqDiff, h1, h5, h8, h9, h10, e]
    exact ⟨_, by omega, i + 1, c, by simp, by simp, ci, by omega, rfl, by simpa [hpb] using hq⟩
   ·simp only [go_sem, reduceEqDiff, h1, h5, h8, h9, h10, e, e2]
    exact ⟨_, by omega, i + 1, c + 1, by simp, by simp, ci, by omega, rfl, by simp only [hpb, if_true] at hq; omega⟩
  ·simp at ci
   simp only [go_sem, reduceEqDiff, h5]
   obtain rfl : i = l.length := by omega
   rw [List.drop_length] at hq
   simp at hq
   rw [hq]
theorem quo64 (a b : Int) : abin .quo (.int .i64 a) (.int .i64 b) = if b = 0 then none else some (.int .i64 (IntKind.i64.wrap (a.tdiv b))) := Eq.trans rfl rfl
theorem rem64 (a b : Int) : abin .rem (.int .i64 a) (.int .i64 b) = if b = 0 then none else some (.int .i64 (a.tmod b)) := Eq.trans rfl rfl
def enough (l yes : List Int) : Bool := decide (l.length / 2 < l.countP fun n => decide (n ∈ yes))
def Conf.won (x : Conf) (yes : List Int) : Bool := enough x.old yes && (decide (x.new.length = 0) || enough x.new yes)
def EnoughOk (P : Program) (f : FuncId) : Prop :=
 isFn P f = true /\ ∀ (F F' : Nat -> Prop) (h : AHeap) (l yes : List Int) (a b : AV), Rd F h (dInts l) a -> Rd F' h (dInts yes) b -> l.length <= 2^40 -> yes.length <= 2^40 -> ACalls P f [a, b] h fun r h' => r = .bool (enough l yes) /\ h' = h
theorem enough_f1_ok {P : Program} {f g : FuncId} (hf : Is P f (c_quorum_enough_f1 g)) (hg : HasOk P g) {F : Nat -> Prop} {h : AHeap} {yes : List Int} {b q : AV} (hb : Rd F h (dInts yes) b) (hy : yes.length <= 2^40) (hq : aload h false 1 q = some b) (n : Int) :
  ACalls P f [.int .i64 n, q] h fun r h' => r = .bool (decide (n ∈ yes)) /\ h' = h := by
 refine fun_sound hf.1 (Nat.le_of_ble_eq_true rfl) ?_
 show vc P (c_quorum_enough_f1 g).code ⟨[(0, .int .i64 n), (1, q)], [], h⟩ (atEnd (c_quorum_enough_f1 g).res _)
 simp only [c_quorum_enough_f1, go_sem, reduceEqDiff, hq]
 refine wCall_use ⟨hg.1, hg.2 F _ yes b n hb hy⟩ ?_
 rintro _ _ ⟨rfl, rfl⟩
 simp only [go_sem, reduceEqDiff]
theorem enough_ok {P : Program} {f k g c : FuncId} (hf : Is P f (c_quorum_enough k g)) (hk : Is P k (c_quorum_enough_f1 c)) (hc : HasOk P c) (hg : CountOk P g) : EnoughOk P f := by
 refine ⟨hf.2, fun F F' h l yes a b ha hb hl hy => obs (upto_bool _ _) (fun_sound hf.1 (Nat.le_of_ble_eq_true rfl) ?_)⟩
 show vc P (c_quorum_enough k g).code ⟨[(0, a), (1, b)], [], h⟩ (atEnd (c_quorum_enough k g).res _)
 have la := ha.ints_len
 simp only [c_quorum_enough, go_sem, reduceEqDiff, reduceAdd, hb.scalar, cells_of hb.scalar]
 refine wCall_use ⟨hg.1, hg.2 F _ l a k [] [.ptr h.length 1 0 0] (fun n => decide (n ∈ yes)) (ha.up (Ext.b1 _)) hl hk.2 (fun n => enough_f1_ok hk hc (hb.up (Ext.b1 _)) hy (by simp only [go_sem]) n)⟩ ?_
 rintro _ _ ⟨rfl, rfl⟩
 have e : IntKind.i64.wrap ((l.length : Int).tdiv 2) = ((l.length / 2 : Nat) : Int) := by rw [Int.tdiv_eq_ediv_of_nonneg (by omega), wrap_i64 (by omega)]; omega
 have z2 : ∀ {x : Option AV}, (if (2 : Int) = 0 then none else x) = x := fun {x} => if_neg (by decide)
 simp only [go_sem, reduceEqDiff, la, quo64, z2, e]
 exact ⟨by simp only [enough]; congr 1; simp only [decide_eq_decide]; omega, Ext.b1 _⟩
def WonOk (P : Program) (f : FuncId) : Prop :=
 isFn P f = true /\ ∀ (F F' : Nat -> Prop) (h : AHeap) (x : Conf) (yes : List Int) (a : List AV) (b : AV), RdL F h x.c a -> Rd F' h (dInts yes) b -> x.few (2^40) -> yes.length <= 2^40 -> ACalls P f [.agg a, b] h fun r h' => r = .bool (x.won yes) /\ h' = h
theorem natCast_eq_zero (n : Nat) : decide ((n : Int) = 0) = decide (n = 0) := by simp
theorem quorum_Won_ok {P : Program} {f g : FuncId} (hf : Is P f (c_quorum_Won g)) (hg : EnoughOk P g) : WonOk P f := by
 refine ⟨hf.2, fun F F' h x yes a b ha hb hl hy => obs (upto_bool _ _) (fun_sound hf.1 (Nat.le_of_ble_eq_true rfl) ?_)⟩
 show vc P (c_quorum_Won g).code ⟨[(0, .agg a), (1, b)], [], h⟩ (atEnd (c_quorum_Won g).res _)
 obtain ⟨o, n, e, rfl, ho, hn, he⟩ := rd_conf ha
 have ln := hn.ints_len
 simp only [c_quorum_Won, go_sem, reduceEqDiff, reduceAdd, ho.scalar, hn.scalar, he.scalar]
 refine wCall_use ⟨hg.1, hg.2 F F' _ x.old yes _ _ (ho.up (Ext.b1 _)) (hb.up (Ext.b1 _)) hl.1 hy⟩ ?_
 rintro _ _ ⟨rfl, rfl⟩
 cases c1 : enough x.old yes
 ·simp only [go_sem, reduceEqDiff]
  exact ⟨by simp [Conf.won, c1], Ext.b1 _⟩
 ·simp only [go_sem, reduceEqDiff, reduceAdd, ln, natCast_eq_zero]
  by_cases c2 : x.new.length = 0
  ·simp only [go_sem, reduceEqDiff, decide_eq_true c2]
   exact ⟨by simp only [Conf.won, c1, decide_eq_true c2, Bool.true_or, Bool.and_true], Ext.b1 _⟩
  ·simp only [go_sem, reduceEqDiff, reduceAdd, decide_eq_false c2]
   refine wCall_use ⟨hg.1, hg.2 F F' _ x.new yes _ _ (hn.up (Ext.b1 _)) (hb.up (Ext.b1 _)) hl.2.1 hy⟩ ?_
   rintro _ _ ⟨rfl, rfl⟩
   simp only [go_sem, reduceEqDiff]
   exact ⟨by simp only [Conf.won, c1, decide_eq_false c2, Bool.false_or, Bool.true_and], Ext.b1 _⟩
end Glb
namespace Glb
open Go
open Nat (reduceAdd reduceEqDiff reduceLeDiff)
set_option maxRecDepth 10000
set_option maxHeartbeats 4000000
def yesOf (v : Int) (ps : List (Int × Int)) : List Int := (ps.filter fun p => decide (v <= p.2)).map (·.1)
def Conf.best (x : Conf) (all : List (Int × Int)) : List (Int × Int) -> Int -> Int
 | [], b => b
 | p :: r, b => x.best all r (if b < p.2 /\ x.won (yesOf p.2 all) = true then p.2 else b)
def Conf.agreed (x : Conf) (nodes reached : List Int) : Int := x.best (nodes.zip reached) (nodes.zip reached) 0
theorem yesOf_length (v : Int) (ps : List (Int × Int)) : (yesOf v ps).length <= ps.length := by simp only [yesOf, List.length_map]; exact List.length_filter_le _ _
theorem yesOf_more {v : Int} {ps : List (Int × Int)} {i : Nat} (hi : i < ps.length) : yesOf v (ps.take (i + 1)) = yesOf v (ps.take i) ++ (if v <= ps[i].2 then [ps[i].1] else []) := by
 rw [List.take_succ_eq_append_getElem hi]
 simp only [yesOf, List.filter_append, List.map_append, List.filter_cons, List.filter_nil]
 congr 1
 by_cases c : v <= ps[i].2
 ·simp [c]
 ·simp [c]
def AgreedOk (P : Program) (f : FuncId) : Prop :=
 isFn P f = true /\ ∀ (F F' F'' : Nat -> Prop) (h : AHeap) (x : Conf) (nodes reached : List Int) (a : List AV) (b c : AV), RdL F h x.c a -> Rd F' h (dInts nodes) b -> Rd F'' h (dInts reached) c -> x.few (2^40) -> nodes.length <= 2^40 -> reached.length <= 2^40 ->
  ACalls P f [.agg a, b, c] h fun r h' => r = .int .i64 (x.agreed nodes reached) /\ h' = h
theorem quorum_Agreed_ok {P : Program} {f g : FuncId} (hf : Is P f (c_quorum_Agreed g)) (hg : WonOk P g) : AgreedOk P f := by
 refine ⟨hf.2, fun F F' F'' h x nodes reached a b c ha hb hc hx hn hr => obs (upto_int _ _ _) (fun_sound hf.1 (Nat.le_of_ble_eq_true rfl) ?_)⟩
 show vc P (c_quorum_Agreed g).code ⟨[(0, .agg a), (1, b), (2, c)], [], h⟩ (atEnd (c_quorum_Agreed g).res _)
 obtain ⟨o, n, e, rfl, ho, hne, he⟩ := rd_conf ha
 have lb := hb.ints_len
 have lc := hc.ints_len
 have mn : min (nodes.length : Int) (reached.length : Int) = ((min nodes.length reached.length : Nat) : Int) := by omega
 generalize hall : nodes.zip reached = all
 have hal : all.length = min nodes.length reached.length := by rw [<- hall]; exact List.length_zip
 have hag : x.agreed nodes reached = x.best all all 0 := by simp only [Conf.agreed, hall]
 obtain ⟨c', hs, hc'⟩ := Rd.slice hc (lo := none) (hi := some (all.length : Int)) (mx := none) (by simp) (by simp) (by simp; omega) (by simp) (by simp; omega) (by simp)
 obtain ⟨b', hs2, hb'⟩ := Rd.slice hb (lo := none) (hi := some (all.length : Int)) (mx := none) (by simp) (by simp) (by simp; omega) (by simp) (by simp; omega) (by simp)
 have hc2 : Rd F'' h (dInts (reached.take all.length)) c' := by simpa [dInts, List.map_take] using hc'
 have hb2 : Rd F' h (dInts (nodes.take all.length)) b' := by simpa [dInts, List.map_take] using hb'
 have lc' := hc2.ints_len
 have lb' := hb2.ints_len
 rw [List.length_take, Nat.min_eq_left (by omega)] at lc' lb'
 have hz : ∀ i (hi : i < all.length), all[i] = (nodes[i]'(by omega), reached[i]'(by omega)) := fun i hi => by subst hall; simp
 have hbox := bx10 h (some (.arr 3 [[o, n, e]] false))
 simp only [c_quorum_Agreed, go_sem, reduceEqDiff, reduceAdd, ho.scalar, hne.scalar, he.scalar, lb, lc, rev_mnmx, mnmx_min, mn, <- hal, aslc, hs, lc']
 have x0 := Ext.b1 (h := h) (some (.arr 3 [[o, n, e]] false))
 refine vc_loop (fun m L h' => ∃ (i : Nat) (best : Int), lk 1 L = b /\ lk 2 L = c /\ lk 3 L = .ptr h.length 3 0 0 /\ lk 7 L = .int .i64 all.length /\ lk 8 L = .int .i64 best /\ lk 21 L = c' /\ lk 22 L = .int .i64 all.length /\ lk 23 L = .int .i64 i /\
  Ext nof (h ++ [some (.arr 3 [[o, n, e]] false)]) h' /\ i <= all.length /\ m = all.length - i /\ x.best all (all.drop i) best = x.best all all 0) all.length ?_ ?_
 ·exact ⟨0, 0, by simp [lk_ins, lk_cons], by simp [lk_ins, lk_cons], by simp [lk_ins], by simp [lk_ins], by simp [lk_ins], by simp [lk_ins], by simp [lk_ins], by simp [lk_ins], Ext.refl _ _, by omega, by omega, rfl⟩
 ·rintro m L h1 ⟨i, best, k1, k2, k3, k7, k8, k21, k22, k23, hE, hi, rfl, hq⟩
  simp only [c_quorum_Agreed_l1, go_sem, k22, k23]
  refine wCond_split (fun ci => ?_) (fun ci => ?_)
  ·simp at ci
   have e1 : IntKind.i64.wrap (↑i + 1) = (i : Int) + 1 := wrap_i64 (by omega)
   obtain ⟨p, hp, hv⟩ := ((hc2.up x0).up hE).int_at (i := i) (by rw [List.length_take]; omega)
   have hvi : (reached.take all.length)[i]'(by rw [List.length_take]; omega) = reached[i]'(by omega) := List.getElem_take
   rw [hvi] at hv
   rw [List.drop_eq_getElem_cons ci] at hq
   simp only [Conf.best, hz i ci] at hq
   simp only [go_sem, reduceEqDiff, k8, k21, k23, hp, hv]
   generalize reached[i]'(by omega) = v at *
   by_cases cb : v <= best
   ·simp only [go_sem, reduceEqDiff, k1, k2, k3, k7, k8, k21, k22, k23, decide_eq_true cb, e1]
    rw [if_neg (fun h => by omega)] at hq
    exact ⟨_, by omega, i + 1, best, by simp, by simp, hE, ci, rfl, hq⟩
   ·simp only [go_sem, reduceEqDiff, k1, k7, decide_eq_false cb, hs2, lb']
    refine vc_loop (fun m L h' => ∃ (j : Nat) (o' : AV), lk 1 L = b /\ lk 2 L = c /\ lk 3 L = .ptr h.length 3 0 0 /\ lk 7 L = .int .i64 all.length /\ lk 8 L = .int .i64 best /\ lk 10 L = .int .i64 v /\ lk 11 L = o' /\ lk 21 L = c' /\ lk 22 L = .int .i64 all.length /\ lk 23 L = .int .i64 i /\
     lk 32 L = b' /\ lk 33 L = .int .i64 all.length /\ lk 34 L = .int .i64 j /\ Own (dInts (yesOf v (all.take j))) (fun m => h1.length <= m) h' o' /\ canApp h' o' /\ Ext nof h1 h' /\ j <= all.length /\ m = all.length - j) all.length ?_ ?_
    ·exact ⟨0, .nils, by simp [lk_ins, k1], by simp [lk_ins, k2], by simp [lk_ins, k3], by simp [lk_ins, k7], by simp [lk_ins, k8], by simp [lk_ins], by simp [lk_ins], by simp [lk_ins, k21], by simp [lk_ins, k22], by simp [lk_ins, k23],
      by simp [lk_ins], by simp [lk_ins], by simp [lk_ins], by simpa [yesOf, dInts] using Own.nils 1, trivial, Ext.refl _ _, by omega, by omega⟩
    ·rintro m L h2 ⟨j, o', k1, k2, k3, k7, k8, k10, k11, k21, k22, k23, k32, k33, k34, hO, hA, hE2, hj, rfl⟩
     simp only [c_quorum_Agreed_l0, go_sem, k33, k34]
     refine wCond_split (fun cj => ?_) (fun cj => ?_)
     ·simp at cj
      have e2 : IntKind.i64.wrap (↑j + 1) = (j : Int) + 1 := wrap_i64 (by omega)
      obtain ⟨q, hq1, hv1⟩ := (((hb2.up x0).up hE).up hE2).int_at (i := j) (by rw [List.length_take]; omega)
      obtain ⟨q2, hq2, hv2⟩ := (((hc.up x0).up hE).up hE2).int_at (i := j) (by omega)
      have hvj : (nodes.take all.length)[j]'(by rw [List.length_take]; omega) = nodes[j]'(by omega) := List.getElem_take
      rw [hvj] at hv1
      have hmore := yesOf_more (v := v) cj
      rw [hz j cj] at hmore
      simp only at hmore
      simp only [go_sem, reduceEqDiff, k2, k10, k32, k34, hq1, hv1, hq2, hv2]
      generalize nodes[j]'(by omega) = nj at *
      generalize reached[j]'(by omega) = rj at *
      by_cases cv : v <= rj
      ·rw [if_pos cv] at hmore
       have hyl := yesOf_length v (all.take j)
       rw [List.length_take] at hyl
       obtain ⟨o2, h3, ha, ho', hc2', he'⟩ := own_app (bytes := 8) (es := [[.int .i64 nj]]) (h := h2 ++ [some (.arr 1 [[.int .i64 nj]] false)]) hO hA (Ext.app _ _ _) (ys := [[.int .i64 nj]])
        (by simp [OwnLL, OwnL, Own]) hE2.1 (by simp; omega)
       simp only [go_sem, reduceEqDiff, reduceAdd, k1, k2, k3, k7, k8, k10, k11, k21, k22, k23, k32, k33, k34, decide_eq_true cv, aappend_of (aelems_new h2 1 [[.int .i64 nj]] false (some 1) (len := 1) rfl), ha, e2]
       refine ⟨_, by omega, j + 1, o2, rfl, by simp, ?_, hc2', ?_, cj, rfl⟩
       ·rw [hmore, dInts, List.map_append]; exact ho'
       ·exact (hE2.tr (Ext.b1 _)).then he' (fun m hm hm' => by have := hE2.1; omega)
      ·rw [if_neg cv, List.append_nil] at hmore
       simp only [go_sem, reduceEqDiff, k1, k2, k3, k7, k8, k10, k11, k21, k22, k23, k32, k33, k34, decide_eq_false cv, e2]
       exact ⟨_, by omega, j + 1, o', rfl, by simp, by rw [hmore]; exact hO, hA, hE2, cj, rfl⟩
     ·simp at cj
      obtain rfl : j = all.length := by omega
      rw [List.take_length] at hO
      have B := hE2.get (hE.get hbox)
      simp only [go_sem, reduceEqDiff, reduceAdd, reduceLeDiff, k1, k2, k3, k7, k8, k11, k21, k22, k23, B]
      have hyl := yesOf_length v all
      refine wCall_use ⟨hg.1, hg.2 F (fun _ => True) _ x (yesOf v all) _ o' ((((conf_rd ho hne he).up x0).up hE).up hE2) (Own.rd _ (fun _ _ => trivial) _ hO) hx (by omega)⟩ ?_
      rintro _ _ ⟨rfl, rfl⟩
      cases hw : x.won (yesOf v all)
      ·simp only [go_sem, reduceEqDiff, k1, k2, k3, k7, k8, k21, k22, k23, e1]
       rw [if_neg (fun h => by rw [hw] at h; exact absurd h.2 (by decide))] at hq
       exact ⟨_, by omega, i + 1, best, by simp, by simp, hE.tr hE2, ci, rfl, hq⟩
      ·simp only [go_sem, reduceEqDiff, k1, k2, k3, k7, k8, k10, k21, k22, k23, e1]
       rw [if_pos ⟨by omega, hw⟩] at hq
       exact ⟨_, by omega, i + 1, v, by simp, by simp, hE.tr hE2, ci, rfl, hq⟩
  ·simp at ci
   obtain rfl : i = all.length := by omega
   rw [List.drop_length] at hq
   simp only [Conf.best] at hq
   simp only [go_sem, reduceEqDiff, k8, hq, hag]
   exact x0.tr hE
end Glb
namespace Glb
open Go
open Nat (reduceAdd reduceEqDiff reduceLeDiff)
set_option maxRecDepth 10000
set_option maxHeartbeats 4000000
def pick (k n : Int) : Int := if n < 1 then 0 else k % n
theorem ownLL_ints (k : IntKind) (F : Nat -> Prop) (h : AHeap) : ∀ l : List Int, OwnLL (l.map fun n => [.int k n]) F h (l.map fun n => [AV.int k n])
 | [] => by simp only [List.map_nil, OwnLL]
 | n :: l => by simp only [List.map_cons, OwnLL, OwnL, Own]; exact ⟨_, _, rfl, ⟨_, _, rfl, rfl, rfl⟩, ownLL_ints k F h l⟩
theorem ownLL_ints_eq {k : IntKind} {F : Nat -> Prop} {h : AHeap} : ∀ {l : List Int} {r : List (List AV)}, OwnLL (l.map fun n => [.int k n]) F h r -> r = l.map fun n => [AV.int k n]
 | [], r, hh => by simp only [List.map_nil, OwnLL] at hh; simpa using hh
 | n :: l, r, hh => by
  simp only [List.map_cons, OwnLL, OwnL, Own] at hh
  obtain ⟨a, q, rfl, ⟨_, _, rfl, rfl, rfl⟩, h2⟩ := hh
  rw [ownLL_ints_eq h2]; rfl
end Glb
namespace Glb
open Go
open Nat (reduceAdd reduceEqDiff reduceLeDiff)
set_option maxRecDepth 10000
set_option maxHeartbeats 4000000
end Glb
