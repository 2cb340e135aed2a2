/-
  Functions of the kit of the statements: entries and logs.
-/
import Derived.Test.YtoijpkpfgamlpaaGlbKit1
set_option linter.unusedSimpArgs false
set_option linter.unusedVariables false
namespace Glb
open Go
set_option maxRecDepth 10000

def SameEntryOk (P : Program) (f : FuncId) : Prop :=
  isFn P f = true ∧ ∀ (F : Nat → Prop) (h : AHeap) (x y : Entry) (a b : List AV), RdL F h x.c a → RdL F h y.c b → x.data.length ≤ 2^40 →
    ACalls P f [.agg a, .agg b] h fun r h' => r = .bool (decide (x = y)) ∧ h' = h

theorem SameEntry_ok {P : Program} {f g : FuncId} (hf : Is P f (c_glebekit_SameEntry g)) (hg : SameOk P g .u8) : SameEntryOk P f := by
  refine ⟨hf.2, fun F h x y a b hx hy hl => obs rfl (fun_sound hf.1 (Nat.le_of_ble_eq_true rfl) ?_)⟩
  show vc P (c_glebekit_SameEntry g).code ⟨[(0, .agg a), (1, .agg b)], [], h⟩ (atEnd (c_glebekit_SameEntry g).res _)
  simp only [Entry.c, RdL, Rd] at hx hy
  obtain ⟨_, _, rfl, rfl, _, _, rfl, rfl, d, _, rfl, hx, rfl⟩ := hx
  obtain ⟨_, _, rfl, rfl, _, _, rfl, rfl, e, _, rfl, hy, rfl⟩ := hy
  simp only [c_glebekit_SameEntry, go_sem, reduceIte, Nat.reduceEqDiff, Nat.reduceAdd, Nat.reduceLeDiff, Nat.reducePow, Nat.reduceDiv, Nat.reduceMod, decide_true, hx.scalar, hy.scalar]
  repeat' (first
    | refine wGuardT (fun _ => ?_) (fun _ => ?_)
    | (refine wCall_use ⟨hg.1, hg.2 F _ x.data y.data _ _ (hx.up (Ext.b2 _ _)) (hy.up (Ext.b2 _ _)) hl⟩ ?_; rintro _ _ ⟨rfl, rfl⟩)
    | simp only [go_sem, reduceIte, Nat.reduceEqDiff, Nat.reduceAdd, Nat.reduceLeDiff, Nat.reducePow, Nat.reduceDiv, Nat.reduceMod, decide_true, *])
  all_goals exact ⟨by simp [Entry.dec, *], Ext.b2 _ _⟩

def SameEntriesOk (P : Program) (f : FuncId) : Prop :=
  isFn P f = true ∧ ∀ (F : Nat → Prop) (h : AHeap) (x y : List Entry) (a b : AV), Rd F h (dEntries x) a → Rd F h (dEntries y) b → x.length ≤ 2^40 → (∀ e ∈ x, e.data.length ≤ 2^40) →
    ACalls P f [a, b] h fun r h' => r = .bool (decide (x = y)) ∧ h' = h

theorem SameEntries_ok {P : Program} {f g : FuncId} (hf : Is P f (c_glebekit_SameEntries g)) (hg : SameEntryOk P g) : SameEntriesOk P f := by
  refine ⟨hf.2, fun F h x y a b hx hy hl hd => fun_sound hf.1 (Nat.le_of_ble_eq_true rfl) ?_⟩
  show vc P (c_glebekit_SameEntries g).code ⟨[(0, a), (1, b)], [], h⟩ (atEnd (c_glebekit_SameEntries g).res _)
  have lx := hx.len
  have ly := hy.len
  simp only [List.length_map] at lx ly
  simp only [c_glebekit_SameEntries, go_sem, reduceIte, Nat.reduceEqDiff, Nat.reduceAdd, Nat.reduceLeDiff, Nat.reducePow, Nat.reduceDiv, Nat.reduceMod, decide_true, lx, ly]
  refine wCond_split (fun c => ?_) (fun c => ?_)
  · simp only [go_sem, reduceIte, Nat.reduceEqDiff, Nat.reduceAdd, Nat.reduceLeDiff, Nat.reducePow, Nat.reduceDiv, Nat.reduceMod, decide_true]
    simp at c
    simp; rintro rfl; exact c rfl
  · simp only [go_sem, reduceIte, Nat.reduceEqDiff, Nat.reduceAdd, Nat.reduceLeDiff, Nat.reducePow, Nat.reduceDiv, Nat.reduceMod, decide_true]
    simp at c
    have c' : x.length = y.length := by omega
    refine vc_loop (fun m L h' => ∃ i : Nat, lk 0 L = a ∧ lk 1 L = b ∧ lk 5 L = .int .i64 i ∧ h' = h ∧ i ≤ x.length ∧ m = x.length - i ∧ ∀ j : Nat, j < i → x[j]? = y[j]?) x.length ?_ ?_
    · exact ⟨0, by simp [lk_ins, lk_cons], by simp [lk_ins, lk_cons], by simp [lk_ins], rfl, by omega, by omega, by omega⟩
    · rintro m L h' ⟨i, h0, h1, h5, rfl, hi, rfl, hj⟩
      simp only [c_glebekit_SameEntries_l0, go_sem, reduceIte, Nat.reduceEqDiff, Nat.reduceAdd, Nat.reduceLeDiff, Nat.reducePow, Nat.reduceDiv, Nat.reduceMod, decide_true, lx, h0, h1, h5]
      refine wCond_split (fun ci => ?_) (fun ci => ?_)
      · simp at ci
        have iy : i < y.length := by omega
        obtain ⟨p, cs, hp, hpc, hcs⟩ := hx.index .i64 (i := i) (d := x[i].c) (by omega) (by simp [ci])
        obtain ⟨q, cs', hq, hqc, hcs'⟩ := hy.index .i64 (i := i) (d := y[i].c) (by omega) (by simp [iy])
        have e : IntKind.i64.wrap (↑i + 1) = (i : Int) + 1 := wrap_i64 (by omega)
        have l1 := RdL_length hcs
        have l2 := RdL_length hcs'
        simp only [Entry.c, go_sem, reduceIte, Nat.reduceEqDiff, Nat.reduceAdd, Nat.reduceLeDiff, Nat.reducePow, Nat.reduceDiv, Nat.reduceMod, decide_true] at l1 l2
        have t1 : cs.take 3 = cs := List.take_of_length_le (by omega)
        have t2 : cs'.take 3 = cs' := List.take_of_length_le (by omega)
        simp only [go_sem, reduceIte, Nat.reduceEqDiff, Nat.reduceAdd, Nat.reduceLeDiff, Nat.reducePow, Nat.reduceDiv, Nat.reduceMod, decide_true, h0, h1, h5, hp, hq, aload_p hpc, aload_p hqc, l1, l2, t1, t2]
        refine wCall_use ⟨hg.1, hg.2 F _ x[i] y[i] _ _ hcs hcs' (hd _ (by simp))⟩ ?_
        rintro _ _ ⟨rfl, rfl⟩
        simp only [go_sem, reduceIte, Nat.reduceEqDiff, Nat.reduceAdd, Nat.reduceLeDiff, Nat.reducePow, Nat.reduceDiv, Nat.reduceMod, decide_true, aload_p hpc, aload_p hqc, l1, l2, t1, t2, or_true]
        refine wCond_split (fun ce => ?_) (fun ce => ?_)
        · simp only [go_sem, reduceIte, Nat.reduceEqDiff, Nat.reduceAdd, Nat.reduceLeDiff, Nat.reducePow, Nat.reduceDiv, Nat.reduceMod, decide_true]
          simp at ce
          simp; rintro rfl; exact ce rfl
        · simp only [go_sem, reduceIte, Nat.reduceEqDiff, Nat.reduceAdd, Nat.reduceLeDiff, Nat.reducePow, Nat.reduceDiv, Nat.reduceMod, decide_true, h0, h1, h5, e]
          simp at ce
          refine ⟨_, ?_, i + 1, by simp, ci, rfl, fun j hj' => ?_⟩
          · omega
          · rcases Nat.lt_or_ge j i with hlt | hge
            · exact hj j hlt
            · obtain rfl : j = i := by omega
              simp [ci, iy, ce]
      · simp at ci
        simp only [go_sem, reduceIte, Nat.reduceEqDiff, Nat.reduceAdd, Nat.reduceLeDiff, Nat.reducePow, Nat.reduceDiv, Nat.reduceMod, decide_true, lx, h0, h1, h5]
        obtain rfl : i = x.length := by omega
        have : x = y := by
          apply List.ext_getElem?
          intro j
          rcases Nat.lt_or_ge j x.length with hlt | hge
          · exact hj j hlt
          · rw [List.getElem?_eq_none hge, List.getElem?_eq_none (by omega)]
        simp [this]

def SameLogOk (P : Program) (f : FuncId) : Prop :=
  isFn P f = true ∧ ∀ (F : Nat → Prop) (h : AHeap) (x y : Log) (a b : List AV), RdL F h x.c a → RdL F h y.c b → x.es.length ≤ 2^40 → (∀ e ∈ x.es, e.data.length ≤ 2^40) →
    ACalls P f [.agg a, .agg b] h fun r h' => r = .bool (decide (x = y)) ∧ h' = h

theorem SameLog_ok {P : Program} {f g : FuncId} (hf : Is P f (c_glebekit_SameLog g)) (hg : SameEntriesOk P g) : SameLogOk P f := by
  refine ⟨hf.2, fun F h x y a b hx hy hl hd => obs rfl (fun_sound hf.1 (Nat.le_of_ble_eq_true rfl) ?_)⟩
  show vc P (c_glebekit_SameLog g).code ⟨[(0, .agg a), (1, .agg b)], [], h⟩ (atEnd (c_glebekit_SameLog g).res _)
  simp only [Log.c, RdL, Rd] at hx hy
  obtain ⟨_, _, rfl, rfl, _, _, rfl, rfl, d, _, rfl, hx, rfl⟩ := hx
  obtain ⟨_, _, rfl, rfl, _, _, rfl, rfl, e, _, rfl, hy, rfl⟩ := hy
  simp only [c_glebekit_SameLog, go_sem, reduceIte, Nat.reduceEqDiff, Nat.reduceAdd, Nat.reduceLeDiff, Nat.reducePow, Nat.reduceDiv, Nat.reduceMod, decide_true, hx.scalar, hy.scalar]
  repeat' (first
    | refine wGuardT (fun _ => ?_) (fun _ => ?_)
    | (refine wCall_use ⟨hg.1, hg.2 F _ x.es y.es _ _ (hx.up (Ext.b2 _ _)) (hy.up (Ext.b2 _ _)) hl hd⟩ ?_; rintro _ _ ⟨rfl, rfl⟩)
    | simp only [go_sem, reduceIte, Nat.reduceEqDiff, Nat.reduceAdd, Nat.reduceLeDiff, Nat.reducePow, Nat.reduceDiv, Nat.reduceMod, decide_true, *])
  all_goals exact ⟨by simp [Log.dec, *], Ext.b2 _ _⟩

/-- whether entries are many, or long: where it answers no, they are not -/
def BigEntriesOk (P : Program) (f : FuncId) : Prop :=
  isFn P f = true ∧ ∀ (F : Nat → Prop) (h : AHeap) (x : List Entry) (a : AV) (items bytes : Int), Rd F h (dEntries x) a → 0 ≤ items ∧ items ≤ 2^40 → 0 ≤ bytes ∧ bytes ≤ 2^40 →
    ACalls P f [a, .int .i64 items, .int .i64 bytes] h fun r h' => ∃ b, r = .bool b ∧ h' = h ∧ (b = false → x.length ≤ items.toNat ∧ ∀ e ∈ x, e.data.length ≤ bytes.toNat)

theorem mnmx_min (k : IntKind) (a b : Int) : amnmx false [.int k a, .int k b] = some (.int k (min a b)) := by
  simp only [amnmx, amnmx.aux]
  by_cases h : b < a
  · simp [h]; omega
  · simp [h]; omega
theorem mnmx_max (k : IntKind) (a b : Int) : amnmx true [.int k a, .int k b] = some (.int k (max a b)) := by
  simp only [amnmx, amnmx.aux]
  by_cases h : a < b
  · simp [h]; omega
  · simp [h]; omega
theorem rev_mnmx (g : Opd → AV) (h : AHeap) (m : Bool) (xs : List Opd) : rev g h (.mnmx m xs) = amnmx m (xs.map g) := rfl

theorem BigEntries_ok {P : Program} {f : FuncId} (hf : Is P f c_glebekit_BigEntries) : BigEntriesOk P f := by
  refine ⟨hf.2, fun F h x a items bytes hx hit hby => fun_sound hf.1 (Nat.le_of_ble_eq_true rfl) ?_⟩
  show vc P c_glebekit_BigEntries.code ⟨[(0, a), (1, .int .i64 items), (2, .int .i64 bytes)], [], h⟩ (atEnd c_glebekit_BigEntries.res _)
  have lx := hx.len
  simp only [List.length_map] at lx
  simp only [c_glebekit_BigEntries, go_sem, reduceIte, Nat.reduceEqDiff, Nat.reduceAdd, Nat.reduceLeDiff, Nat.reducePow, Nat.reduceDiv, Nat.reduceMod, decide_true, lx]
  refine wCond_split (fun c => ?_) (fun c => ?_)
  · simp only [go_sem, reduceIte, Nat.reduceEqDiff, Nat.reduceAdd, Nat.reduceLeDiff, Nat.reducePow, Nat.reduceDiv, Nat.reduceMod, decide_true]
    exact ⟨true, rfl, fun e => by cases e⟩
  · simp only [go_sem, reduceIte, Nat.reduceEqDiff, Nat.reduceAdd, Nat.reduceLeDiff, Nat.reducePow, Nat.reduceDiv, Nat.reduceMod, decide_true]
    simp at c
    refine vc_loop (fun m L h' => ∃ (i : Nat) (n : Int), lk 0 L = a ∧ lk 2 L = .int .i64 bytes ∧ lk 7 L = .int .i64 n ∧ lk 8 L = .int .i64 i ∧ h' = h ∧ i ≤ x.length ∧ m = x.length - i ∧ 0 ≤ n ∧ n ≤ bytes ∧
      ∀ (j : Nat) (hj : j < x.length), j < i → x[j].data.length ≤ bytes.toNat) x.length ?_ ?_
    · exact ⟨0, 0, by simp [lk_ins, lk_cons], by simp [lk_ins, lk_cons], by simp [lk_ins], by simp [lk_ins], rfl, by omega, by omega, by omega, by omega, by omega⟩
    · rintro m L h' ⟨i, n, h0, h2, h7, h8, rfl, hi, rfl, hn, hn', hj⟩
      simp only [c_glebekit_BigEntries_l0, go_sem, reduceIte, Nat.reduceEqDiff, Nat.reduceAdd, Nat.reduceLeDiff, Nat.reducePow, Nat.reduceDiv, Nat.reduceMod, decide_true, lx, h0, h2, h7, h8]
      refine wCond_split (fun ci => ?_) (fun ci => ?_)
      · simp at ci
        obtain ⟨p, cs, hp, hpc, hcs⟩ := hx.index .i64 (i := i) (d := x[i].c) (by omega) (by simp [ci])
        simp only [Entry.c, RdL, Rd] at hcs
        obtain ⟨_, _, rfl, rfl, _, _, rfl, rfl, d, _, rfl, hd, rfl⟩ := hcs
        have ld := hd.len
        simp only [List.length_map] at ld
        have e : IntKind.i64.wrap (↑i + 1) = (i : Int) + 1 := wrap_i64 (by omega)
        have e1 : IntKind.i64.wrap (bytes + 1) = bytes + 1 := wrap_i64 (by omega)
        have e2 : IntKind.i64.wrap (n + min (↑x[i].data.length) (bytes + 1)) = n + min (↑x[i].data.length) (bytes + 1) := wrap_i64 (by omega)
        simp only [go_sem, reduceIte, Nat.reduceEqDiff, Nat.reduceAdd, Nat.reduceLeDiff, Nat.reducePow, Nat.reduceDiv, Nat.reduceMod, decide_true, h0, h2, h7, h8, hp, afield_p hpc, aload_off hpc, ld, e1, rev_mnmx, mnmx_min, e2]
        refine wCond_split (fun cb => ?_) (fun cb => ?_)
        · simp only [go_sem, reduceIte, Nat.reduceEqDiff, Nat.reduceAdd, Nat.reduceLeDiff, Nat.reducePow, Nat.reduceDiv, Nat.reduceMod, decide_true]
          exact ⟨true, rfl, fun e => by cases e⟩
        · simp only [go_sem, reduceIte, Nat.reduceEqDiff, Nat.reduceAdd, Nat.reduceLeDiff, Nat.reducePow, Nat.reduceDiv, Nat.reduceMod, decide_true, h0, h2, h7, h8, e]
          simp at cb
          refine ⟨_, ?_, i + 1, _, rfl, by simp, ci, rfl, by omega, by omega, fun j hj1 hj2 => ?_⟩
          · omega
          · rcases Nat.lt_or_ge j i with hlt | hge
            · exact hj j hj1 hlt
            · obtain rfl : j = i := by omega
              omega
      · simp at ci
        simp only [go_sem, reduceIte, Nat.reduceEqDiff, Nat.reduceAdd, Nat.reduceLeDiff, Nat.reducePow, Nat.reduceDiv, Nat.reduceMod, decide_true]
        obtain rfl : i = x.length := by omega
        refine ⟨false, rfl, fun _ => ⟨by omega, fun e he => ?_⟩⟩
        obtain ⟨j, hj', rfl⟩ := List.mem_iff_getElem.1 he
        exact hj j hj' hj'

end Glb
