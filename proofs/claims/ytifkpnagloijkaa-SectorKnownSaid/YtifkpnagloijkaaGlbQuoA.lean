/-
  A library of its own: its parts, one behind the other.
-/
import Derived.Test.YtifkpnagloijkaaGlbKitB
import Derived.Test.YtifkpnagloijkaaGlbLibE
import Derived.Test.YtifkpnagloijkaaGlbLibB
import Derived.Test.YtifkpnagloijkaaGlbLibD
set_option linter.unusedSimpArgs false
set_option linter.unusedVariables false
/-
  Who is enough: the program's functions and the document's answer so.
-/
namespace Glb
open Go
set_option maxRecDepth 10000
set_option maxHeartbeats 4000000

theorem Rd.int_at {F : Nat → Prop} {h : AHeap} {l : List Int} {a : AV} (hx : Rd F h (dInts l) a) {i : Nat} (hi : i < l.length) :
    ∃ p, aindex 1 a (.int .i64 i) = some p ∧ aload h false 1 p = some (.int .i64 l[i]) := by
  obtain ⟨p, cs, hp, hpc, hcs⟩ := hx.index .i64 (i := i) (d := [.int .i64 l[i]]) (by omega) (by simp [hi])
  simp only [RdL, Rd] at hcs
  obtain ⟨_, _, rfl, rfl, rfl⟩ := hcs
  exact ⟨p, hp, by rw [aload_p hpc]; exact take_one _ _ _⟩
theorem Rd.ints_len {F : Nat → Prop} {h : AHeap} {l : List Int} {a : AV} (hx : Rd F h (dInts l) a) : alen a = some (.int .i64 l.length) := by simpa using hx.len

theorem rem64 (a b : Int) : abin .rem (.int .i64 a) (.int .i64 b) = if b = 0 then none else some (.int .i64 (a.tmod b)) := Eq.trans rfl rfl

end Glb

/-
  What enough have reached: the program's function and the document's answer so.
-/
namespace Glb
open Go
set_option maxRecDepth 10000
set_option maxHeartbeats 4000000

end Glb

/-
  Lists lent and kept, a number picked; what is told of those that have reached a number.
-/
namespace Glb
open Go
set_option maxRecDepth 10000
set_option maxHeartbeats 4000000

def pick (k n : Int) : Int := if n < 1 then 0 else k % n
theorem pick_lt {k n : Int} (h : 0 < n) : 0 ≤ pick k n ∧ pick k n < n := by
  simp only [pick]; rw [if_neg (by omega)]
  exact ⟨Int.emod_nonneg _ (by omega), Int.emod_lt_of_pos _ h⟩

def PickOk (P : Program) (f : FuncId) : Prop := isFn P f = true ∧ ∀ (k n : Int), n ≤ 2^40 → Pure P f [.int .i64 k, .int .i64 n] (.int .i64 (pick k n))

theorem Pick_ok {P : Program} {f : FuncId} (hf : Is P f c_glebekit_Pick) : PickOk P f := by
  refine ⟨hf.2, fun k n hn h => fun_sound hf.1 (Nat.le_of_ble_eq_true rfl) ?_⟩
  show vc P c_glebekit_Pick.code ⟨[(0, .int .i64 k), (1, .int .i64 n)], [], h⟩ (atEnd c_glebekit_Pick.res _)
  simp only [c_glebekit_Pick, go_sem, reduceIte, Nat.reduceEqDiff, Nat.reduceAdd, Nat.reduceLeDiff, Nat.reducePow, Nat.reduceDiv, Nat.reduceMod, decide_true]
  by_cases c : n < 1
  · simp only [go_sem, reduceIte, Nat.reduceEqDiff, Nat.reduceAdd, Nat.reduceLeDiff, Nat.reducePow, Nat.reduceDiv, Nat.reduceMod, decide_true, decide_eq_true c, pick, if_pos c]
  · have z : ∀ {x : Option AV}, (if n = 0 then none else x) = x := fun {x} => if_neg (by omega)
    simp only [go_sem, reduceIte, Nat.reduceEqDiff, Nat.reduceAdd, Nat.reduceLeDiff, Nat.reducePow, Nat.reduceDiv, Nat.reduceMod, decide_true, decide_eq_false c, rem64, z, pick, if_neg c]
    have h1 : k.tmod n = if 0 ≤ k then k % n else -((-k) % n) := by
      split
      · rename_i h; exact Int.tmod_eq_emod_of_nonneg h
      · rename_i h
        have : k.tmod n = -((-k).tmod n) := by rw [Int.neg_tmod]; omega
        rw [this, Int.tmod_eq_emod_of_nonneg (by omega)]
    have h2 := Int.emod_nonneg k (show n ≠ 0 by omega)
    have h3 := Int.emod_lt_of_pos k (show 0 < n by omega)
    have h4 := Int.emod_nonneg (-k) (show n ≠ 0 by omega)
    have h5 := Int.emod_lt_of_pos (-k) (show 0 < n by omega)
    by_cases ck : k.tmod n < 0
    · have e : IntKind.i64.wrap (k.tmod n + n) = k % n := by
        have hk : ¬ 0 ≤ k := by intro hk; rw [if_pos hk] at h1; omega
        rw [if_neg hk] at h1
        rw [wrap_i64 (by omega), h1]
        have h6 : (-k) % n ≠ 0 := by omega
        have : k % n = (n - (-k) % n) % n := by
          have : n - (-k) % n = k + n * (1 + (-k) / n) := by have := Int.mul_ediv_add_emod (-k) n; rw [Int.mul_add]; omega
          rw [this, Int.add_mul_emod_self_left]
        rw [this, Int.emod_eq_of_lt (a := n - -k % n) (b := n) (by omega) (by omega)]; omega
      simp only [go_sem, reduceIte, Nat.reduceEqDiff, Nat.reduceAdd, Nat.reduceLeDiff, Nat.reducePow, Nat.reduceDiv, Nat.reduceMod, decide_true, decide_eq_true ck, e]
    · have e : k.tmod n = k % n := by
        by_cases hk : 0 ≤ k
        · rw [if_pos hk] at h1; exact h1
        · rw [if_neg hk] at h1
          have h7 : (-k) % n = 0 := by omega
          have : k % n = 0 := by have := Int.dvd_of_emod_eq_zero h7; exact Int.emod_eq_zero_of_dvd ((Int.dvd_neg).1 this)
          omega
      rw [e] at ck
      simp only [go_sem, reduceIte, Nat.reduceEqDiff, Nat.reduceAdd, Nat.reduceLeDiff, Nat.reducePow, Nat.reduceDiv, Nat.reduceMod, decide_true, e, decide_eq_false ck]

theorem ownLL_ints (k : IntKind) (F : Nat → Prop) (h : AHeap) : ∀ l : List Int, OwnLL (l.map fun n => [.int k n]) F h (l.map fun n => [AV.int k n])
  | [] => by simp only [List.map_nil, OwnLL]
  | n :: l => by simp only [List.map_cons, OwnLL, OwnL, Own]; exact ⟨_, _, rfl, ⟨_, _, rfl, rfl, rfl⟩, ownLL_ints k F h l⟩
def lent (l : List Int) : List Int := l ++ List.replicate 5 (-77)
def LentIntsP (P : Program) (f : FuncId) : Prop := isFn P f = true ∧ ∀ l : List Int, l.length ≤ 2^40 → Pure P f [aints l] (aints (lent l))

theorem LentInts_ok {P : Program} {f : FuncId} (hf : Is P f c_glebekit_LentInts) : LentIntsP P f := by
  refine ⟨hf.2, fun l hl => pure_d (d := dInts (lent l)) fun h => fun_sound hf.1 (Nat.le_of_ble_eq_true rfl) ?_⟩
  show vc P c_glebekit_LentInts.code ⟨[(0, aints l)], [], h⟩ (atEnd c_glebekit_LentInts.res _)
  have e1 : IntKind.i64.wrap ((l.length : Int) + 5) = ((l.length + 5 : Nat) : Int) := by rw [wrap_i64 (by omega)]; omega
  have hm := amks_int (h := h) (sz := 1) (bytes := 8) (zero := [.int .i64 0]) (k := .i64) (k' := .i64) (l := ((l.length + 5 : Nat) : Int)) (c := ((l.length + 5 : Nat) : Int)) (by omega) (by omega) (by omega)
  simp only [Int.toNat_natCast] at hm
  have hlen : (lent l).length = l.length + 5 := by simp [lent]
  simp only [c_glebekit_LentInts, go_sem, reduceIte, Nat.reduceEqDiff, Nat.reduceAdd, Nat.reduceLeDiff, Nat.reducePow, Nat.reduceDiv, Nat.reduceMod, decide_true, e1, hev_mks, hm]
  refine vc_loop (fun m L h' => ∃ (i : Nat) (row : List (List AV)), lk 0 L = aints l ∧ lk 3 L = .ref h.length 1 0 (l.length + 5) (some (l.length + 5)) ∧ lk 4 L = .int .i64 i ∧ h' = h ++ [some (.arr 1 row false)] ∧ row.length = l.length + 5 ∧
    (∀ j, j < l.length + 5 → ∃ v, row[j]? = some [.int .i64 v]) ∧ (∀ j, j < i → row[j]? = (lent l)[j]?.map fun n => [.int .i64 n]) ∧ i ≤ l.length + 5 ∧ m = l.length + 5 - i) (l.length + 5) ?_ ?_
  · exact ⟨0, _, by simp [lk_ins, lk_cons], by simp [lk_ins, lk_cons], by simp [lk_ins], rfl, by simp, fun j hj => ⟨0, by simp [hj]⟩, fun j hj => by omega, by omega, by omega⟩
  · rintro m L h' ⟨i, row, h0, h3, h4, rfl, hr, hv, hd, hi, rfl⟩
    have la3 : alen (.ref h.length 1 0 (l.length + 5) (some (l.length + 5))) = some (.int .i64 ((l.length + 5 : Nat) : Int)) := rfl
    simp only [c_glebekit_LentInts_l0, go_sem, reduceIte, Nat.reduceEqDiff, Nat.reduceAdd, Nat.reduceLeDiff, Nat.reducePow, Nat.reduceDiv, Nat.reduceMod, decide_true, h0, h3, h4, la3]
    refine wCond_split (fun ci => ?_) (fun ci => ?_)
    · simp at ci
      have ci' : i < l.length + 5 := by omega
      obtain ⟨v, hvi⟩ := hv i ci'
      have e2 : IntKind.i64.wrap (↑i + 1) = (i : Int) + 1 := wrap_i64 (by omega)
      have hix : aindex 1 (.ref h.length 1 0 (l.length + 5) (some (l.length + 5))) (.int .i64 i) = some (.ptr h.length 1 i 0) := by
        simp only [aindex]; rw [if_pos ⟨trivial, by omega, by omega⟩]; simp
      have st : ∀ (row : List (List AV)) (u w : Int), row[i]? = some [.int .i64 w] → astore (h ++ [some (.arr 1 row false)]) 1 (.ptr h.length 1 i 0) (.int .i64 u) = some (h ++ [some (.arr 1 (row.set i [.int .i64 u]) false)]) := fun row u w hw => by
        have := astore_elem (x := .int .i64 u) (bx10 h (some (.arr 1 row false))) hw rfl rfl rfl rfl
        rw [this, sx10]
      simp only [go_sem, reduceIte, Nat.reduceEqDiff, Nat.reduceAdd, Nat.reduceLeDiff, Nat.reducePow, Nat.reduceDiv, Nat.reduceMod, decide_true, h0, h3, h4, hix, st row (-77) v hvi]
      have hset : (row.set i [.int .i64 (-77)])[i]? = some [.int .i64 (-77)] := List.getElem?_set_self (by omega)
      have nxt : ∀ (u : Int) (row' : List (List AV)), (∀ j, j ≠ i → row'[j]? = row[j]?) → row'[i]? = some [.int .i64 u] → (lent l)[i]? = some u → (∀ j, j < l.length + 5 → ∃ v, row'[j]? = some [.int .i64 v]) ∧ (∀ j, j < i + 1 → row'[j]? = (lent l)[j]?.map fun n => [.int .i64 n]) := by
        intro u row' ho hn hl
        refine ⟨fun j hj => ?_, fun j hj => ?_⟩
        · by_cases e : j = i
          · subst e; exact ⟨u, hn⟩
          · rw [ho j e]; exact hv j hj
        · by_cases e : j = i
          · subst e; rw [hn, hl]; rfl
          · rw [ho j e]; exact hd j (by omega)
      by_cases cl : (i : Int) < l.length
      · obtain ⟨p, hp, hpv⟩ := (rd_aints nof (h ++ [some (.arr 1 (row.set i [.int .i64 (-77)]) false)]) l).int_at (i := i) (by omega)
        simp only [go_sem, reduceIte, Nat.reduceEqDiff, Nat.reduceAdd, Nat.reduceLeDiff, Nat.reducePow, Nat.reduceDiv, Nat.reduceMod, decide_true, h0, h3, h4, decide_eq_true cl, hix, hp, hpv, st _ (l[i]'(by omega)) (-77) hset, e2]
        obtain ⟨q1, q2⟩ := nxt (l[i]'(by omega)) ((row.set i [.int .i64 (-77)]).set i [.int .i64 (l[i]'(by omega))]) (fun j hj => by rw [List.getElem?_set_ne (fun e => hj e.symm), List.getElem?_set_ne (fun e => hj e.symm)])
          (List.getElem?_set_self (by simp; omega)) (by simp only [lent]; rw [List.getElem?_append_left (by omega)]; simp)
        exact ⟨_, by omega, i + 1, _, by simp, rfl, by simpa using hr, q1, q2, by omega, rfl⟩
      · simp only [go_sem, reduceIte, Nat.reduceEqDiff, Nat.reduceAdd, Nat.reduceLeDiff, Nat.reducePow, Nat.reduceDiv, Nat.reduceMod, decide_true, h0, h3, h4, decide_eq_false cl, e2]
        obtain ⟨q1, q2⟩ := nxt (-77) (row.set i [.int .i64 (-77)]) (fun j hj => List.getElem?_set_ne (fun e => hj e.symm)) hset (by simp only [lent]; rw [List.getElem?_append_right (by omega), List.getElem?_replicate, if_pos (by omega)])
        exact ⟨_, by omega, i + 1, _, by simp, rfl, by simpa using hr, q1, q2, by omega, rfl⟩
    · simp at ci
      obtain rfl : i = l.length + 5 := by omega
      have hrow : row = (lent l).map fun n => [.int .i64 n] := by
        apply List.ext_getElem?
        intro j
        rcases Nat.lt_or_ge j (l.length + 5) with hj | hj
        · rw [hd j hj, List.getElem?_map]
        · rw [List.getElem?_eq_none (by omega), List.getElem?_eq_none (by simp [hlen]; omega)]
      subst hrow
      simp only [go_sem, reduceIte, Nat.reduceEqDiff, Nat.reduceAdd, Nat.reduceLeDiff, Nat.reducePow, Nat.reduceDiv, Nat.reduceMod, decide_true, h3]
      refine ⟨?_, Ext.b1 _⟩
      simp only [dInts, Own, List.length_map, hlen]
      exact .inr (.inr ⟨_, 0, _, _, false, rfl, Nat.le_refl _, bx10 _ _, by simp [hlen], (fun c hc => by cases hc; omega), by rw [List.drop_zero, List.take_of_length_le (by simp [hlen])]; exact ownLL_ints .i64 _ _ (lent l)⟩)

def KeptOk (P : Program) (f : FuncId) : Prop :=
  isFn P f = true ∧ ∀ (F : Nat → Prop) (h : AHeap) (l : List Int) (a b : AV), Rd F h (dInts (lent l)) a → Rd F h (dInts l) b → l.length ≤ 2^40 → ACalls P f [a, b] h fun r h' => r = .bool true ∧ h' = h

theorem KeptInts_ok {P : Program} {f g : FuncId} (hf : Is P f (c_glebekit_KeptInts g)) (hg : SameOk P g .i64) : KeptOk P f := by
  refine ⟨hf.2, fun F h l a b ha hb hl => fun_sound hf.1 (Nat.le_of_ble_eq_true rfl) ?_⟩
  show vc P (c_glebekit_KeptInts g).code ⟨[(0, a), (1, b)], [], h⟩ (atEnd (c_glebekit_KeptInts g).res _)
  have hlen : (lent l).length = l.length + 5 := by simp [lent]
  have la := ha.ints_len
  have lb := hb.ints_len
  rw [hlen] at la
  have e1 : IntKind.i64.wrap ((l.length : Int) + 5) = ((l.length + 5 : Nat) : Int) := by rw [wrap_i64 (by omega)]; omega
  obtain ⟨c, hs, hc⟩ := Rd.slice ha (lo := none) (hi := some (l.length : Int)) (mx := none) (by simp) (by simp) (by simp [hlen]; omega) (by simp) (by simp [hlen]; omega) (by simp)
  have hc2 : Rd F h (dInts l) c := by
    have : (lent l).take l.length = l := by simp [lent]
    simpa [dInts, ← List.map_take, this] using hc
  simp only [c_glebekit_KeptInts, go_sem, reduceIte, Nat.reduceEqDiff, Nat.reduceAdd, Nat.reduceLeDiff, Nat.reducePow, Nat.reduceDiv, Nat.reduceMod, decide_true, la, lb, e1, aslc, hs]
  refine use1 hg.1 (hg.2 F _ l l c b hc2 hb hl) ?_
  simp only [go_sem, reduceIte, Nat.reduceEqDiff, Nat.reduceAdd, Nat.reduceLeDiff, Nat.reducePow, Nat.reduceDiv, Nat.reduceMod, decide_true, lb]
  refine vc_loop (fun m L h' => ∃ (i : Nat), lk 0 L = a ∧ lk 5 L = .int .i64 i ∧ h' = h ∧ l.length ≤ i ∧ i ≤ l.length + 5 ∧ m = l.length + 5 - i) 5 ?_ ?_
  · exact ⟨l.length, by simp [lk_ins, lk_cons], by simp [lk_ins], rfl, by omega, by omega, by omega⟩
  · rintro m L h' ⟨i, h0, h5, rfl, hi, hi2, rfl⟩
    simp only [c_glebekit_KeptInts_l0, go_sem, reduceIte, Nat.reduceEqDiff, Nat.reduceAdd, Nat.reduceLeDiff, Nat.reducePow, Nat.reduceDiv, Nat.reduceMod, decide_true, h0, h5, la]
    refine wCond_split (fun ci => ?_) (fun ci => ?_)
    · simp at ci
      obtain ⟨p, hp, hv⟩ := ha.int_at (i := i) (by omega)
      have e : IntKind.i64.wrap (↑i + 1) = (i : Int) + 1 := wrap_i64 (by omega)
      have hx : (lent l)[i]'(by omega) = -77 := by simp only [lent]; rw [List.getElem_append_right hi]; exact List.getElem_replicate _
      simp only [go_sem, reduceIte, Nat.reduceEqDiff, Nat.reduceAdd, Nat.reduceLeDiff, Nat.reducePow, Nat.reduceDiv, Nat.reduceMod, decide_true, h0, h5, hp, hv, hx, e]
      exact ⟨_, by omega, i + 1, by simp, by omega, by omega, rfl⟩
    · simp only [go_sem, reduceIte, Nat.reduceEqDiff, Nat.reduceAdd, Nat.reduceLeDiff, Nat.reducePow, Nat.reduceDiv, Nat.reduceMod, decide_true]

theorem aints_slice (l : List Int) (n : Nat) (hn : n ≤ l.length) : ∃ a, aslice 1 (aints l) none (some (n : Int)) none = some a ∧ ∀ F h, Rd F h (dInts (l.take n)) a := by
  refine ⟨.vals 0 (sliceClip none n (l.map fun n => [AV.int .i64 n]).length false) 1 ((l.map fun n => [AV.int .i64 n]).take n), ?_, fun F h => ?_⟩
  · rw [aints_eq]; simp only [aslice, Option.getD_none, Option.getD_some]; rw [if_pos ⟨trivial, by omega, by omega, by simp; omega, by omega, by simp; omega⟩]; simp
  · simp only [dInts, Rd]
    refine ⟨_, .inr (.inl ⟨_, _, rfl⟩), ?_⟩
    have := OwnLL.rd (F := F) (F' := F) _ (fun _ x => x) _ (ownLL_ints .i64 F h (l.take n))
    rw [← List.map_take]
    exact this

end Glb

/-
  What is agreed: of it enough have reached it, and of no greater number.
-/
namespace Glb
open Go
set_option maxRecDepth 10000
set_option maxHeartbeats 4000000

end Glb
