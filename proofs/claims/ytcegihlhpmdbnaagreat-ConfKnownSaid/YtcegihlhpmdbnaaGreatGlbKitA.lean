/-
  A library of its own: its parts, one behind the other.
-/
import Derived.Test.YtcegihlhpmdbnaaGreatGlbLibD
import Derived.Test.YtcegihlhpmdbnaaGreatGlbCglebekit
set_option linter.unusedSimpArgs false
set_option linter.unusedVariables false
/-
  The data of the program.
-/
namespace Glb
open Go

def dBytes (l : List Int) : D := .sl 1 (l.map fun n => [.int .u8 n])
def dInts (l : List Int) : D := .sl 1 (l.map fun n => [.int .i64 n])

structure Entry where
  term : Int
  kind : Int
  data : List Int
  deriving DecidableEq

theorem Entry.dec (x y : Entry) : decide (x = y) = (decide (x.term = y.term) && (decide (x.kind = y.kind) && decide (x.data = y.data))) := by
  cases x; cases y; simp [Bool.decide_and]
def Entry.c (e : Entry) : List D := [.int .i64 e.term, .int .i64 e.kind, dBytes e.data]
def dEntries (l : List Entry) : D := .sl 3 (l.map Entry.c)

structure Log where
  base : Int
  bterm : Int
  es : List Entry
  deriving DecidableEq

theorem Log.dec (x y : Log) : decide (x = y) = (decide (x.base = y.base) && (decide (x.bterm = y.bterm) && decide (x.es = y.es))) := by
  cases x; cases y; simp [Bool.decide_and]
def Log.c (l : Log) : List D := [.int .i64 l.base, .int .i64 l.bterm, dEntries l.es]

/-- an answer that is told by a value that names nothing, whatever was made on the way -/
theorem obs {P : Program} {f : FuncId} {avs : List AV} {h : AHeap} {b : AV} (hb : b.upto h.length = true) (hc : ACalls P f avs h fun r h' => r = b ∧ Ext nof h h') : ACalls P f avs h fun r h' => r = b ∧ h' = h :=
  (ACalls.trunc (K' := fun r => r = b) hc fun r h' hk => ⟨hk.2, by rw [hk.1]; exact hb, hk.1⟩).mono fun _ _ hk => ⟨hk.2, hk.1⟩

theorem upto_bool (n : Nat) (b : Bool) : (AV.bool b).upto n = true := by simp only [AV.upto]
theorem upto_tup2 {n : Nat} {x y : AV} (h : x.upto n = true) (h' : y.upto n = true) : (AV.tup [x, y]).upto n = true := by simp only [AV.upto, AV.uptoL, h, h', Bool.and_self]

end Glb

/-
  Functions of the kit of the statements: lists held against one another, copied, written over.
-/
namespace Glb
open Go
set_option maxRecDepth 10000


/-- two lists of numbers are the same -/
def SameOk (P : Program) (f : FuncId) (k : IntKind) : Prop :=
  isFn P f = true ∧ ∀ (F : Nat → Prop) (h : AHeap) (x y : List Int) (a b : AV), Rd F h (.sl 1 (x.map fun n => [.int k n])) a → Rd F h (.sl 1 (y.map fun n => [.int k n])) b → x.length ≤ 2^40 →
    ACalls P f [a, b] h fun r h' => r = .bool (decide (x = y)) ∧ h' = h

theorem same_ok {P : Program} {f : FuncId} (k : IntKind) (hf : Is P f c_glebekit_SameBytes) : SameOk P f k := by
  refine ⟨hf.2, fun F h x y a b hx hy hl => fun_sound hf.1 (Nat.le_of_ble_eq_true rfl) ?_⟩
  show vc P c_glebekit_SameBytes.code ⟨[(0, a), (1, b)], [], h⟩ (atEnd c_glebekit_SameBytes.res _)
  have lx := hx.len
  have ly := hy.len
  simp only [List.length_map] at lx ly
  simp only [c_glebekit_SameBytes, go_sem, reduceIte, Nat.reduceEqDiff, Nat.reduceAdd, Nat.reduceLeDiff, Nat.reducePow, Nat.reduceDiv, Nat.reduceMod, decide_true, lx, ly]
  refine wCond_split (fun c => ?_) (fun c => ?_)
  · simp only [go_sem, reduceIte, Nat.reduceEqDiff, Nat.reduceAdd, Nat.reduceLeDiff, Nat.reducePow, Nat.reduceDiv, Nat.reduceMod, decide_true]
    simp at c
    simp; rintro rfl; exact c rfl
  · simp only [go_sem, reduceIte, Nat.reduceEqDiff, Nat.reduceAdd, Nat.reduceLeDiff, Nat.reducePow, Nat.reduceDiv, Nat.reduceMod, decide_true]
    simp at c
    have c' : x.length = y.length := by omega
    refine vc_loop (fun m L h' => ∃ i : Nat, lk 0 L = a ∧ lk 1 L = b ∧ lk 5 L = .int .i64 i ∧ h' = h ∧ i ≤ x.length ∧ m = x.length - i ∧ ∀ j : Nat, j < i → x[j]? = y[j]?) x.length ?_ ?_
    · exact ⟨0, by simp [lk_ins, lk_cons], by simp [lk_ins, lk_cons], by simp [lk_ins], rfl, by omega, by omega, by omega⟩
    · rintro m L h' ⟨i, h0, h1, h5, rfl, hi, rfl, hj⟩
      simp only [c_glebekit_SameBytes_l0, go_sem, reduceIte, Nat.reduceEqDiff, Nat.reduceAdd, Nat.reduceLeDiff, Nat.reducePow, Nat.reduceDiv, Nat.reduceMod, decide_true, lx, h0, h1, h5]
      refine wCond_split (fun ci => ?_) (fun ci => ?_)
      · simp at ci
        have iy : i < y.length := by omega
        obtain ⟨p, cs, hp, hpc, hcs⟩ := hx.index .i64 (i := i) (d := [.int k x[i]]) (by omega) (by simp [ci])
        obtain ⟨q, cs', hq, hqc, hcs'⟩ := hy.index .i64 (i := i) (d := [.int k y[i]]) (by omega) (by simp [iy])
        simp only [RdL, Rd] at hcs hcs'
        obtain ⟨_, _, rfl, rfl, rfl⟩ := hcs
        obtain ⟨_, _, rfl, rfl, rfl⟩ := hcs'
        have e : IntKind.i64.wrap (↑i + 1) = (i : Int) + 1 := wrap_i64 (by omega)
        simp only [go_sem, reduceIte, Nat.reduceEqDiff, Nat.reduceAdd, Nat.reduceLeDiff, Nat.reducePow, Nat.reduceDiv, Nat.reduceMod, decide_true, h0, h1, h5, hp, hq, aload_p hpc, aload_p hqc]
        refine wCond_split (fun ce => ?_) (fun ce => ?_)
        · simp only [go_sem, reduceIte, Nat.reduceEqDiff, Nat.reduceAdd, Nat.reduceLeDiff, Nat.reducePow, Nat.reduceDiv, Nat.reduceMod, decide_true]
          simp at ce
          simp; rintro rfl; exact ce rfl
        · simp only [go_sem, reduceIte, Nat.reduceEqDiff, Nat.reduceAdd, Nat.reduceLeDiff, Nat.reducePow, Nat.reduceDiv, Nat.reduceMod, decide_true, h0, h1, h5, e]
          simp at ce
          refine ⟨_, ?_, i + 1, by simp, ci, rfl, fun j hj' => ?_⟩
          · omega
          · rcases Nat.lt_or_ge j i with hlt | hge
            · exact hj j hlt
            · obtain rfl : j = i := by omega
              simp [ci, iy, ce]
      · simp at ci
        simp only [go_sem, reduceIte, Nat.reduceEqDiff, Nat.reduceAdd, Nat.reduceLeDiff, Nat.reducePow, Nat.reduceDiv, Nat.reduceMod, decide_true, lx, h0, h1, h5]
        obtain rfl : i = x.length := by omega
        have : x = y := by
          apply List.ext_getElem?
          intro j
          rcases Nat.lt_or_ge j x.length with hlt | hge
          · exact hj j hlt
          · rw [List.getElem?_eq_none hge, List.getElem?_eq_none (by omega)]
        simp [this]

theorem SameBytes_ok {P : Program} {f : FuncId} (hf : Is P f c_glebekit_SameBytes) : SameOk P f .u8 := same_ok .u8 hf
theorem SameInts_ok {P : Program} {f : FuncId} (hf : Is P f c_glebekit_SameInts) : SameOk P f .i64 := same_ok .i64 hf

/-- a list of numbers is copied -/
def CopyOk (P : Program) (f : FuncId) (k : IntKind) : Prop :=
  isFn P f = true ∧ ∀ (F : Nat → Prop) (h : AHeap) (x : List Int) (a : AV), Rd F h (.sl 1 (x.map fun n => [.int k n])) a → x.length ≤ 2^40 →
    ACalls P f [a] h fun r h' => Own (.sl 1 (x.map fun n => [.int k n])) (fun m => h.length ≤ m) h' r ∧ canApp h' r ∧ Ext nof h h'

theorem CopyBytes_ok {P : Program} {f : FuncId} (hf : Is P f c_glebekit_CopyBytes) : CopyOk P f .u8 := by
  refine ⟨hf.2, fun F h x a hx hl => fun_sound hf.1 (Nat.le_of_ble_eq_true rfl) ?_⟩
  show vc P c_glebekit_CopyBytes.code ⟨[(0, a)], [], h⟩ (atEnd c_glebekit_CopyBytes.res _)
  have lx := hx.len
  simp only [List.length_map] at lx
  simp only [c_glebekit_CopyBytes, go_sem, reduceIte, Nat.reduceEqDiff, Nat.reduceAdd, Nat.reduceLeDiff, Nat.reducePow, Nat.reduceDiv, Nat.reduceMod, decide_true]
  refine vc_loop (fun m L h' => ∃ (i : Nat) (o : AV), lk 0 L = a ∧ lk 3 L = o ∧ lk 4 L = .int .i64 i ∧ i ≤ x.length ∧ m = x.length - i ∧
    Own (.sl 1 ((x.take i).map fun n => [.int .u8 n])) (fun m => h.length ≤ m) h' o ∧ canApp h' o ∧ Ext nof h h') x.length ?_ ?_
  · exact ⟨0, _, by simp [lk_ins, lk_cons], by simp [lk_ins, lk_cons], by simp [lk_ins], by omega, by omega, Own.nils 1, trivial, Ext.refl _ _⟩
  · rintro m L h' ⟨i, o, h0, h3, h4, hi, rfl, ho, hc, he⟩
    simp only [c_glebekit_CopyBytes_l0, go_sem, reduceIte, Nat.reduceEqDiff, Nat.reduceAdd, Nat.reduceLeDiff, Nat.reducePow, Nat.reduceDiv, Nat.reduceMod, decide_true, lx, h0, h3, h4]
    refine wCond_split (fun ci => ?_) (fun ci => ?_)
    · simp at ci
      obtain ⟨p, cs, hp, hpc, hcs⟩ := (Rd.mono (fun _ x => x) (he.keep F) _ _ hx).index .i64 (i := i) (d := [.int .u8 x[i]]) (by omega) (by simp [ci])
      simp only [RdL, Rd] at hcs
      obtain ⟨_, _, rfl, rfl, rfl⟩ := hcs
      have e : IntKind.i64.wrap (↑i + 1) = (i : Int) + 1 := wrap_i64 (by omega)
      obtain ⟨o', h2, ha, ho', hc', he'⟩ := own_app (bytes := 1) (es := [[.int .u8 x[i]]]) (h := h' ++ [some (.arr 1 [[.int .u8 x[i]]] false)]) ho hc (Ext.app _ _ _) (ys := [[.int .u8 x[i]]])
        (by simp [OwnLL, OwnL, Own]) he.1 (by simp; omega)
      simp only [go_sem, reduceIte, Nat.reduceEqDiff, Nat.reduceAdd, Nat.reduceLeDiff, Nat.reducePow, Nat.reduceDiv, Nat.reduceMod, decide_true, h0, h3, h4, e, hp, aload_p hpc, aappend_of (aelems_new h' 1 [[.int .u8 x[i]]] false (some 1) (len := 1) rfl), ha]
      refine ⟨_, ?_, i + 1, o', rfl, by simp, ci, rfl, ?_, hc', ?_⟩
      · omega
      · have : x.take (i + 1) = x.take i ++ [x[i]] := by simp [ci]
        rw [this, List.map_append]; exact ho'
      · exact (he.trans (Ext.app nof h' _) (fun _ _ x => x) (fun _ _ x => x)).trans he' (fun _ _ x => x) (fun m hm hm' => by omega)
    · simp at ci
      simp only [go_sem, reduceIte, Nat.reduceEqDiff, Nat.reduceAdd, Nat.reduceLeDiff, Nat.reducePow, Nat.reduceDiv, Nat.reduceMod, decide_true, h3]
      obtain rfl : i = x.length := by omega
      rw [List.take_length] at ho
      exact ⟨ho, hc, he⟩
theorem CopyInts_ok {P : Program} {f : FuncId} (hf : Is P f c_glebekit_CopyInts) : CopyOk P f .i64 := by
  refine ⟨hf.2, fun F h x a hx hl => fun_sound hf.1 (Nat.le_of_ble_eq_true rfl) ?_⟩
  show vc P c_glebekit_CopyInts.code ⟨[(0, a)], [], h⟩ (atEnd c_glebekit_CopyInts.res _)
  have lx := hx.len
  simp only [List.length_map] at lx
  simp only [c_glebekit_CopyInts, go_sem, reduceIte, Nat.reduceEqDiff, Nat.reduceAdd, Nat.reduceLeDiff, Nat.reducePow, Nat.reduceDiv, Nat.reduceMod, decide_true]
  refine vc_loop (fun m L h' => ∃ (i : Nat) (o : AV), lk 0 L = a ∧ lk 3 L = o ∧ lk 4 L = .int .i64 i ∧ i ≤ x.length ∧ m = x.length - i ∧
    Own (.sl 1 ((x.take i).map fun n => [.int .i64 n])) (fun m => h.length ≤ m) h' o ∧ canApp h' o ∧ Ext nof h h') x.length ?_ ?_
  · exact ⟨0, _, by simp [lk_ins, lk_cons], by simp [lk_ins, lk_cons], by simp [lk_ins], by omega, by omega, Own.nils 1, trivial, Ext.refl _ _⟩
  · rintro m L h' ⟨i, o, h0, h3, h4, hi, rfl, ho, hc, he⟩
    simp only [c_glebekit_CopyInts_l0, go_sem, reduceIte, Nat.reduceEqDiff, Nat.reduceAdd, Nat.reduceLeDiff, Nat.reducePow, Nat.reduceDiv, Nat.reduceMod, decide_true, lx, h0, h3, h4]
    refine wCond_split (fun ci => ?_) (fun ci => ?_)
    · simp at ci
      obtain ⟨p, cs, hp, hpc, hcs⟩ := (Rd.mono (fun _ x => x) (he.keep F) _ _ hx).index .i64 (i := i) (d := [.int .i64 x[i]]) (by omega) (by simp [ci])
      simp only [RdL, Rd] at hcs
      obtain ⟨_, _, rfl, rfl, rfl⟩ := hcs
      have e : IntKind.i64.wrap (↑i + 1) = (i : Int) + 1 := wrap_i64 (by omega)
      obtain ⟨o', h2, ha, ho', hc', he'⟩ := own_app (bytes := 8) (es := [[.int .i64 x[i]]]) (h := h' ++ [some (.arr 1 [[.int .i64 x[i]]] false)]) ho hc (Ext.app _ _ _) (ys := [[.int .i64 x[i]]])
        (by simp [OwnLL, OwnL, Own]) he.1 (by simp; omega)
      simp only [go_sem, reduceIte, Nat.reduceEqDiff, Nat.reduceAdd, Nat.reduceLeDiff, Nat.reducePow, Nat.reduceDiv, Nat.reduceMod, decide_true, h0, h3, h4, e, hp, aload_p hpc, aappend_of (aelems_new h' 1 [[.int .i64 x[i]]] false (some 1) (len := 1) rfl), ha]
      refine ⟨_, ?_, i + 1, o', rfl, by simp, ci, rfl, ?_, hc', ?_⟩
      · omega
      · have : x.take (i + 1) = x.take i ++ [x[i]] := by simp [ci]
        rw [this, List.map_append]; exact ho'
      · exact (he.trans (Ext.app nof h' _) (fun _ _ x => x) (fun _ _ x => x)).trans he' (fun _ _ x => x) (fun m hm hm' => by omega)
    · simp at ci
      simp only [go_sem, reduceIte, Nat.reduceEqDiff, Nat.reduceAdd, Nat.reduceLeDiff, Nat.reducePow, Nat.reduceDiv, Nat.reduceMod, decide_true, h3]
      obtain rfl : i = x.length := by omega
      rw [List.take_length] at ho
      exact ⟨ho, hc, he⟩

theorem SpoilInts_ok {P : Program} {f : FuncId} (hf : Is P f c_glebekit_SpoilInts) : SpoilOk P f (.sl 1 [.int .i64]) := by
  refine ⟨hf.2, fun F h a ho => fun_sound hf.1 (Nat.le_of_ble_eq_true rfl) ?_⟩
  show vc P c_glebekit_SpoilInts.code ⟨[(0, a)], [], h⟩ (atEnd c_glebekit_SpoilInts.res _)
  have lx := ho.len
  simp only [c_glebekit_SpoilInts, go_sem, reduceIte, Nat.reduceEqDiff, Nat.reduceAdd, Nat.reduceLeDiff, Nat.reducePow, Nat.reduceDiv, Nat.reduceMod, decide_true]
  refine vc_loop (fun m L h' => ∃ (i : Nat), lk 0 L = a ∧ lk 2 L = .int .i64 i ∧ i ≤ slen a ∧ m = slen a - i ∧ Ext F h h' ∧ PresT h h') (slen a) ?_ ?_
  · exact ⟨0, by simp [lk_ins, lk_cons], by simp [lk_ins], by omega, by omega, Ext.refl _ _, PresT.refl _⟩
  · rintro m L h' ⟨i, h0, h2, hi, rfl, he, hp⟩
    simp only [c_glebekit_SpoilInts_l0, go_sem, reduceIte, Nat.reduceEqDiff, Nat.reduceAdd, Nat.reduceLeDiff, Nat.reducePow, Nat.reduceDiv, Nat.reduceMod, decide_true, lx, h0, h2]
    refine wCond_split (fun ci => ?_) (fun ci => ?_)
    · simp at ci
      obtain ⟨n, off, row, g, cs, h5, h6, h7, h8, h9⟩ := (hp.1 _ _ _ ho).index ci
      simp only [OwnTL, OwnT] at h9
      obtain ⟨_, _, rfl, ⟨v, rfl⟩, rfl⟩ := h9
      have hl := ho.small
      have e : IntKind.i64.wrap (↑i + 1) = (i : Int) + 1 := wrap_i64 (by omega)
      have hpc : pcells h' (.ptr n 1 (off + i) 0) = some [.int .i64 v] := by simp [pcells, h7, h8]
      have hst := astore_elem (x := .int .i64 (xorv .i64 v 77)) h7 h8 rfl rfl rfl rfl
      simp only [go_sem, reduceIte, Nat.reduceEqDiff, Nat.reduceAdd, Nat.reduceLeDiff, Nat.reducePow, Nat.reduceDiv, Nat.reduceMod, decide_true, h0, h2, h5, e, aload_p hpc, hst]
      refine ⟨_, ?_, i + 1, by simp, ci, rfl, ?_, hp.trans (PresT.set h7 h8 ⟨_, _, rfl, .inr (.inl ⟨_, _, _, rfl, rfl⟩), rfl⟩)⟩
      · omega
      · exact he.trans (Ext.set (F := F) _ (fun _ => h6)) (fun _ _ x => x) (fun _ _ x => x)
    · simp only [go_sem, reduceIte, Nat.reduceEqDiff, Nat.reduceAdd, Nat.reduceLeDiff, Nat.reducePow, Nat.reduceDiv, Nat.reduceMod, decide_true]
      exact ⟨he, hp⟩

end Glb

/-
  Functions of the kit of the statements: entries and logs.
-/
namespace Glb
open Go
set_option maxRecDepth 10000

def SameEntryOk (P : Program) (f : FuncId) : Prop :=
  isFn P f = true ∧ ∀ (F : Nat → Prop) (h : AHeap) (x y : Entry) (a b : List AV), RdL F h x.c a → RdL F h y.c b → x.data.length ≤ 2^40 →
    ACalls P f [.agg a, .agg b] h fun r h' => r = .bool (decide (x = y)) ∧ h' = h

theorem SameEntry_ok {P : Program} {f g : FuncId} (hf : Is P f (c_glebekit_SameEntry g)) (hg : SameOk P g .u8) : SameEntryOk P f := by
  refine ⟨hf.2, fun F h x y a b hx hy hl => obs rfl (fun_sound hf.1 (Nat.le_of_ble_eq_true rfl) ?_)⟩
  show vc P (c_glebekit_SameEntry g).code ⟨[(0, .agg a), (1, .agg b)], [], h⟩ (atEnd (c_glebekit_SameEntry g).res _)
  simp only [Entry.c, RdL, Rd] at hx hy
  obtain ⟨_, _, rfl, rfl, _, _, rfl, rfl, d, _, rfl, hx, rfl⟩ := hx
  obtain ⟨_, _, rfl, rfl, _, _, rfl, rfl, e, _, rfl, hy, rfl⟩ := hy
  simp only [c_glebekit_SameEntry, go_sem, reduceIte, Nat.reduceEqDiff, Nat.reduceAdd, Nat.reduceLeDiff, Nat.reducePow, Nat.reduceDiv, Nat.reduceMod, decide_true, hx.scalar, hy.scalar]
  repeat' (first
    | refine wGuardT (fun _ => ?_) (fun _ => ?_)
    | (refine wCall_use ⟨hg.1, hg.2 F _ x.data y.data _ _ (hx.up (Ext.b2 _ _)) (hy.up (Ext.b2 _ _)) hl⟩ ?_; rintro _ _ ⟨rfl, rfl⟩)
    | simp only [go_sem, reduceIte, Nat.reduceEqDiff, Nat.reduceAdd, Nat.reduceLeDiff, Nat.reducePow, Nat.reduceDiv, Nat.reduceMod, decide_true, *])
  all_goals exact ⟨by simp [Entry.dec, *], Ext.b2 _ _⟩

def SameEntriesOk (P : Program) (f : FuncId) : Prop :=
  isFn P f = true ∧ ∀ (F : Nat → Prop) (h : AHeap) (x y : List Entry) (a b : AV), Rd F h (dEntries x) a → Rd F h (dEntries y) b → x.length ≤ 2^40 → (∀ e ∈ x, e.data.length ≤ 2^40) →
    ACalls P f [a, b] h fun r h' => r = .bool (decide (x = y)) ∧ h' = h

theorem SameEntries_ok {P : Program} {f g : FuncId} (hf : Is P f (c_glebekit_SameEntries g)) (hg : SameEntryOk P g) : SameEntriesOk P f := by
  refine ⟨hf.2, fun F h x y a b hx hy hl hd => fun_sound hf.1 (Nat.le_of_ble_eq_true rfl) ?_⟩
  show vc P (c_glebekit_SameEntries g).code ⟨[(0, a), (1, b)], [], h⟩ (atEnd (c_glebekit_SameEntries g).res _)
  have lx := hx.len
  have ly := hy.len
  simp only [List.length_map] at lx ly
  simp only [c_glebekit_SameEntries, go_sem, reduceIte, Nat.reduceEqDiff, Nat.reduceAdd, Nat.reduceLeDiff, Nat.reducePow, Nat.reduceDiv, Nat.reduceMod, decide_true, lx, ly]
  refine wCond_split (fun c => ?_) (fun c => ?_)
  · simp only [go_sem, reduceIte, Nat.reduceEqDiff, Nat.reduceAdd, Nat.reduceLeDiff, Nat.reducePow, Nat.reduceDiv, Nat.reduceMod, decide_true]
    simp at c
    simp; rintro rfl; exact c rfl
  · simp only [go_sem, reduceIte, Nat.reduceEqDiff, Nat.reduceAdd, Nat.reduceLeDiff, Nat.reducePow, Nat.reduceDiv, Nat.reduceMod, decide_true]
    simp at c
    have c' : x.length = y.length := by omega
    refine vc_loop (fun m L h' => ∃ i : Nat, lk 0 L = a ∧ lk 1 L = b ∧ lk 5 L = .int .i64 i ∧ h' = h ∧ i ≤ x.length ∧ m = x.length - i ∧ ∀ j : Nat, j < i → x[j]? = y[j]?) x.length ?_ ?_
    · exact ⟨0, by simp [lk_ins, lk_cons], by simp [lk_ins, lk_cons], by simp [lk_ins], rfl, by omega, by omega, by omega⟩
    · rintro m L h' ⟨i, h0, h1, h5, rfl, hi, rfl, hj⟩
      simp only [c_glebekit_SameEntries_l0, go_sem, reduceIte, Nat.reduceEqDiff, Nat.reduceAdd, Nat.reduceLeDiff, Nat.reducePow, Nat.reduceDiv, Nat.reduceMod, decide_true, lx, h0, h1, h5]
      refine wCond_split (fun ci => ?_) (fun ci => ?_)
      · simp at ci
        have iy : i < y.length := by omega
        obtain ⟨p, cs, hp, hpc, hcs⟩ := hx.index .i64 (i := i) (d := x[i].c) (by omega) (by simp [ci])
        obtain ⟨q, cs', hq, hqc, hcs'⟩ := hy.index .i64 (i := i) (d := y[i].c) (by omega) (by simp [iy])
        have e : IntKind.i64.wrap (↑i + 1) = (i : Int) + 1 := wrap_i64 (by omega)
        have l1 := RdL_length hcs
        have l2 := RdL_length hcs'
        simp only [Entry.c, go_sem, reduceIte, Nat.reduceEqDiff, Nat.reduceAdd, Nat.reduceLeDiff, Nat.reducePow, Nat.reduceDiv, Nat.reduceMod, decide_true] at l1 l2
        have t1 : cs.take 3 = cs := List.take_of_length_le (by omega)
        have t2 : cs'.take 3 = cs' := List.take_of_length_le (by omega)
        simp only [go_sem, reduceIte, Nat.reduceEqDiff, Nat.reduceAdd, Nat.reduceLeDiff, Nat.reducePow, Nat.reduceDiv, Nat.reduceMod, decide_true, h0, h1, h5, hp, hq, aload_p hpc, aload_p hqc, l1, l2, t1, t2]
        refine wCall_use ⟨hg.1, hg.2 F _ x[i] y[i] _ _ hcs hcs' (hd _ (by simp))⟩ ?_
        rintro _ _ ⟨rfl, rfl⟩
        simp only [go_sem, reduceIte, Nat.reduceEqDiff, Nat.reduceAdd, Nat.reduceLeDiff, Nat.reducePow, Nat.reduceDiv, Nat.reduceMod, decide_true, aload_p hpc, aload_p hqc, l1, l2, t1, t2, or_true]
        refine wCond_split (fun ce => ?_) (fun ce => ?_)
        · simp only [go_sem, reduceIte, Nat.reduceEqDiff, Nat.reduceAdd, Nat.reduceLeDiff, Nat.reducePow, Nat.reduceDiv, Nat.reduceMod, decide_true]
          simp at ce
          simp; rintro rfl; exact ce rfl
        · simp only [go_sem, reduceIte, Nat.reduceEqDiff, Nat.reduceAdd, Nat.reduceLeDiff, Nat.reducePow, Nat.reduceDiv, Nat.reduceMod, decide_true, h0, h1, h5, e]
          simp at ce
          refine ⟨_, ?_, i + 1, by simp, ci, rfl, fun j hj' => ?_⟩
          · omega
          · rcases Nat.lt_or_ge j i with hlt | hge
            · exact hj j hlt
            · obtain rfl : j = i := by omega
              simp [ci, iy, ce]
      · simp at ci
        simp only [go_sem, reduceIte, Nat.reduceEqDiff, Nat.reduceAdd, Nat.reduceLeDiff, Nat.reducePow, Nat.reduceDiv, Nat.reduceMod, decide_true, lx, h0, h1, h5]
        obtain rfl : i = x.length := by omega
        have : x = y := by
          apply List.ext_getElem?
          intro j
          rcases Nat.lt_or_ge j x.length with hlt | hge
          · exact hj j hlt
          · rw [List.getElem?_eq_none hge, List.getElem?_eq_none (by omega)]
        simp [this]

def SameLogOk (P : Program) (f : FuncId) : Prop :=
  isFn P f = true ∧ ∀ (F : Nat → Prop) (h : AHeap) (x y : Log) (a b : List AV), RdL F h x.c a → RdL F h y.c b → x.es.length ≤ 2^40 → (∀ e ∈ x.es, e.data.length ≤ 2^40) →
    ACalls P f [.agg a, .agg b] h fun r h' => r = .bool (decide (x = y)) ∧ h' = h

theorem SameLog_ok {P : Program} {f g : FuncId} (hf : Is P f (c_glebekit_SameLog g)) (hg : SameEntriesOk P g) : SameLogOk P f := by
  refine ⟨hf.2, fun F h x y a b hx hy hl hd => obs rfl (fun_sound hf.1 (Nat.le_of_ble_eq_true rfl) ?_)⟩
  show vc P (c_glebekit_SameLog g).code ⟨[(0, .agg a), (1, .agg b)], [], h⟩ (atEnd (c_glebekit_SameLog g).res _)
  simp only [Log.c, RdL, Rd] at hx hy
  obtain ⟨_, _, rfl, rfl, _, _, rfl, rfl, d, _, rfl, hx, rfl⟩ := hx
  obtain ⟨_, _, rfl, rfl, _, _, rfl, rfl, e, _, rfl, hy, rfl⟩ := hy
  simp only [c_glebekit_SameLog, go_sem, reduceIte, Nat.reduceEqDiff, Nat.reduceAdd, Nat.reduceLeDiff, Nat.reducePow, Nat.reduceDiv, Nat.reduceMod, decide_true, hx.scalar, hy.scalar]
  repeat' (first
    | refine wGuardT (fun _ => ?_) (fun _ => ?_)
    | (refine wCall_use ⟨hg.1, hg.2 F _ x.es y.es _ _ (hx.up (Ext.b2 _ _)) (hy.up (Ext.b2 _ _)) hl hd⟩ ?_; rintro _ _ ⟨rfl, rfl⟩)
    | simp only [go_sem, reduceIte, Nat.reduceEqDiff, Nat.reduceAdd, Nat.reduceLeDiff, Nat.reducePow, Nat.reduceDiv, Nat.reduceMod, decide_true, *])
  all_goals exact ⟨by simp [Log.dec, *], Ext.b2 _ _⟩

/-- whether entries are many, or long: where it answers no, they are not -/
def BigEntriesOk (P : Program) (f : FuncId) : Prop :=
  isFn P f = true ∧ ∀ (F : Nat → Prop) (h : AHeap) (x : List Entry) (a : AV) (items bytes : Int), Rd F h (dEntries x) a → 0 ≤ items ∧ items ≤ 2^40 → 0 ≤ bytes ∧ bytes ≤ 2^40 →
    ACalls P f [a, .int .i64 items, .int .i64 bytes] h fun r h' => ∃ b, r = .bool b ∧ h' = h ∧ (b = false → x.length ≤ items.toNat ∧ ∀ e ∈ x, e.data.length ≤ bytes.toNat)

theorem mnmx_min (k : IntKind) (a b : Int) : amnmx false [.int k a, .int k b] = some (.int k (min a b)) := by
  simp only [amnmx, amnmx.aux]
  by_cases h : b < a
  · simp [h]; omega
  · simp [h]; omega
theorem rev_mnmx (g : Opd → AV) (h : AHeap) (m : Bool) (xs : List Opd) : rev g h (.mnmx m xs) = amnmx m (xs.map g) := rfl

theorem BigEntries_ok {P : Program} {f : FuncId} (hf : Is P f c_glebekit_BigEntries) : BigEntriesOk P f := by
  refine ⟨hf.2, fun F h x a items bytes hx hit hby => fun_sound hf.1 (Nat.le_of_ble_eq_true rfl) ?_⟩
  show vc P c_glebekit_BigEntries.code ⟨[(0, a), (1, .int .i64 items), (2, .int .i64 bytes)], [], h⟩ (atEnd c_glebekit_BigEntries.res _)
  have lx := hx.len
  simp only [List.length_map] at lx
  simp only [c_glebekit_BigEntries, go_sem, reduceIte, Nat.reduceEqDiff, Nat.reduceAdd, Nat.reduceLeDiff, Nat.reducePow, Nat.reduceDiv, Nat.reduceMod, decide_true, lx]
  refine wCond_split (fun c => ?_) (fun c => ?_)
  · simp only [go_sem, reduceIte, Nat.reduceEqDiff, Nat.reduceAdd, Nat.reduceLeDiff, Nat.reducePow, Nat.reduceDiv, Nat.reduceMod, decide_true]
    exact ⟨true, rfl, fun e => by cases e⟩
  · simp only [go_sem, reduceIte, Nat.reduceEqDiff, Nat.reduceAdd, Nat.reduceLeDiff, Nat.reducePow, Nat.reduceDiv, Nat.reduceMod, decide_true]
    simp at c
    refine vc_loop (fun m L h' => ∃ (i : Nat) (n : Int), lk 0 L = a ∧ lk 2 L = .int .i64 bytes ∧ lk 7 L = .int .i64 n ∧ lk 8 L = .int .i64 i ∧ h' = h ∧ i ≤ x.length ∧ m = x.length - i ∧ 0 ≤ n ∧ n ≤ bytes ∧
      ∀ (j : Nat) (hj : j < x.length), j < i → x[j].data.length ≤ bytes.toNat) x.length ?_ ?_
    · exact ⟨0, 0, by simp [lk_ins, lk_cons], by simp [lk_ins, lk_cons], by simp [lk_ins], by simp [lk_ins], rfl, by omega, by omega, by omega, by omega, by omega⟩
    · rintro m L h' ⟨i, n, h0, h2, h7, h8, rfl, hi, rfl, hn, hn', hj⟩
      simp only [c_glebekit_BigEntries_l0, go_sem, reduceIte, Nat.reduceEqDiff, Nat.reduceAdd, Nat.reduceLeDiff, Nat.reducePow, Nat.reduceDiv, Nat.reduceMod, decide_true, lx, h0, h2, h7, h8]
      refine wCond_split (fun ci => ?_) (fun ci => ?_)
      · simp at ci
        obtain ⟨p, cs, hp, hpc, hcs⟩ := hx.index .i64 (i := i) (d := x[i].c) (by omega) (by simp [ci])
        simp only [Entry.c, RdL, Rd] at hcs
        obtain ⟨_, _, rfl, rfl, _, _, rfl, rfl, d, _, rfl, hd, rfl⟩ := hcs
        have ld := hd.len
        simp only [List.length_map] at ld
        have e : IntKind.i64.wrap (↑i + 1) = (i : Int) + 1 := wrap_i64 (by omega)
        have e1 : IntKind.i64.wrap (bytes + 1) = bytes + 1 := wrap_i64 (by omega)
        have e2 : IntKind.i64.wrap (n + min (↑x[i].data.length) (bytes + 1)) = n + min (↑x[i].data.length) (bytes + 1) := wrap_i64 (by omega)
        simp only [go_sem, reduceIte, Nat.reduceEqDiff, Nat.reduceAdd, Nat.reduceLeDiff, Nat.reducePow, Nat.reduceDiv, Nat.reduceMod, decide_true, h0, h2, h7, h8, hp, afield_p hpc, aload_off hpc, ld, e1, rev_mnmx, mnmx_min, e2]
        refine wCond_split (fun cb => ?_) (fun cb => ?_)
        · simp only [go_sem, reduceIte, Nat.reduceEqDiff, Nat.reduceAdd, Nat.reduceLeDiff, Nat.reducePow, Nat.reduceDiv, Nat.reduceMod, decide_true]
          exact ⟨true, rfl, fun e => by cases e⟩
        · simp only [go_sem, reduceIte, Nat.reduceEqDiff, Nat.reduceAdd, Nat.reduceLeDiff, Nat.reducePow, Nat.reduceDiv, Nat.reduceMod, decide_true, h0, h2, h7, h8, e]
          simp at cb
          refine ⟨_, ?_, i + 1, _, rfl, by simp, ci, rfl, by omega, by omega, fun j hj1 hj2 => ?_⟩
          · omega
          · rcases Nat.lt_or_ge j i with hlt | hge
            · exact hj j hj1 hlt
            · obtain rfl : j = i := by omega
              omega
      · simp at ci
        simp only [go_sem, reduceIte, Nat.reduceEqDiff, Nat.reduceAdd, Nat.reduceLeDiff, Nat.reducePow, Nat.reduceDiv, Nat.reduceMod, decide_true]
        obtain rfl : i = x.length := by omega
        refine ⟨false, rfl, fun _ => ⟨by omega, fun e he => ?_⟩⟩
        obtain ⟨j, hj', rfl⟩ := List.mem_iff_getElem.1 he
        exact hj j hj' hj'

end Glb

/-
  Functions of the kit of the statements: entries and logs, copied and written over.
-/
namespace Glb
open Go
set_option maxRecDepth 10000

def SmallEntries (l : List Entry) : Prop := l.length ≤ 2^30 ∧ ∀ e ∈ l, e.data.length ≤ 2^40

def CopyEntriesOk (P : Program) (f : FuncId) : Prop :=
  isFn P f = true ∧ ∀ (F : Nat → Prop) (h : AHeap) (x : List Entry) (a : AV), Rd F h (dEntries x) a → SmallEntries x →
    ACalls P f [a] h fun r h' => Own (dEntries x) (fun m => h.length ≤ m) h' r ∧ canApp h' r ∧ Ext nof h h'

theorem CopyEntries_ok {P : Program} {f g : FuncId} (hf : Is P f (c_glebekit_CopyEntries g)) (hg : CopyOk P g .u8) : CopyEntriesOk P f := by
  refine ⟨hf.2, fun F h x a hx hl => fun_sound hf.1 (Nat.le_of_ble_eq_true rfl) ?_⟩
  show vc P (c_glebekit_CopyEntries g).code ⟨[(0, a)], [], h⟩ (atEnd (c_glebekit_CopyEntries g).res _)
  have lx := hx.len
  simp only [List.length_map] at lx
  have hl1 := hl.1
  simp only [c_glebekit_CopyEntries, go_sem, reduceIte, Nat.reduceEqDiff, Nat.reduceAdd, Nat.reduceLeDiff, Nat.reducePow, Nat.reduceDiv, Nat.reduceMod, decide_true]
  refine vc_loop (fun m L h' => ∃ (i : Nat) (o : AV), lk 0 L = a ∧ lk 3 L = o ∧ lk 4 L = .int .i64 i ∧ i ≤ x.length ∧ m = x.length - i ∧
    Own (dEntries (x.take i)) (fun m => h.length ≤ m) h' o ∧ canApp h' o ∧ Ext nof h h') x.length ?_ ?_
  · exact ⟨0, _, by simp [lk_ins, lk_cons], by simp [lk_ins, lk_cons], by simp [lk_ins], by omega, by omega, Own.nils 3, trivial, Ext.refl _ _⟩
  · rintro m L h' ⟨i, o, h0, h3, h4, hi, rfl, ho, hc, he⟩
    simp only [c_glebekit_CopyEntries_l0, go_sem, reduceIte, Nat.reduceEqDiff, Nat.reduceAdd, Nat.reduceLeDiff, Nat.reducePow, Nat.reduceDiv, Nat.reduceMod, decide_true, lx, h0, h3, h4]
    refine wCond_split (fun ci => ?_) (fun ci => ?_)
    · simp at ci
      obtain ⟨p, cs, hp, hpc, hcs⟩ := (hx.up he).index .i64 (i := i) (d := x[i].c) (by omega) (by simp [ci])
      simp only [Entry.c, RdL, Rd] at hcs
      obtain ⟨_, _, rfl, rfl, _, _, rfl, rfl, d, _, rfl, hd, rfl⟩ := hcs
      have e : IntKind.i64.wrap (↑i + 1) = (i : Int) + 1 := wrap_i64 (by omega)
      have hpc1 := pup hpc (Ext.b1 none)
      simp only [go_sem, reduceIte, Nat.reduceEqDiff, Nat.reduceAdd, Nat.reduceLeDiff, Nat.reducePow, Nat.reduceDiv, Nat.reduceMod, decide_true, h0, h3, h4, e, hp, afield_p hpc, aload_off hpc1, notRes_of hpc]
      refine wCall_use ⟨hg.1, hg.2 F _ x[i].data d (hd.up (Ext.b1 none)) (hl.2 _ (by simp))⟩ ?_
      rintro r h2 ⟨hr, _, he2⟩
      have hpc2 := pup hpc1 he2
      have hfree := he2.get (bx1 h' none)
      have hlt := (List.getElem?_eq_some_iff.1 hfree).1
      have hs : (h2.set h'.length (some (.arr 3 [[.int .i64 x[i].term, .int .i64 x[i].kind, r]] false)))[h'.length]? = some (some (.arr 3 [[.int .i64 x[i].term, .int .i64 x[i].kind, r]] false)) := List.getElem?_set_self hlt
      have hpc3 := pup hpc (((Ext.b1 none).tr he2).setNew (Nat.le_refl _) (some (.arr 3 [[.int .i64 x[i].term, .int .i64 x[i].kind, r]] false)))
      obtain ⟨o', h3', ha, ho', hc', he'⟩ := own_app (bytes := 40) (es := [x[i].c]) (h := h2.set h'.length (some (.arr 3 [[.int .i64 x[i].term, .int .i64 x[i].kind, r]] false))) ho hc
        (((Ext.b1 none).tr he2).setNew (Nat.le_refl _) _) (ys := [[.int .i64 x[i].term, .int .i64 x[i].kind, r]])
        (by
          simp only [OwnLL, OwnL, Entry.c, Own]
          refine ⟨_, _, rfl, ⟨_, _, rfl, rfl, _, _, rfl, rfl, r, _, rfl, ?_, rfl⟩, rfl⟩
          refine Own.mono _ (fun m hm => ?_) (fun m hm y hy => ?_) _ hr
          · simp at hm; omega
          · rw [List.getElem?_set_ne (by simp at hm; omega)]; exact hy) he.1 (by simp; omega)
      have ha' : aappend (h2.set h'.length (some (.arr 3 [[.int .i64 x[i].term, .int .i64 x[i].kind, r]] false))) 3 40 o (.ref h'.length 3 0 1 (some 1)) = some (o', h3') := by
        rw [aappend_of (aelems_at hs (some 1) (len := 1) rfl)]; exact ha
      simp only [go_sem, reduceIte, Nat.reduceEqDiff, Nat.reduceAdd, Nat.reduceLeDiff, Nat.reducePow, Nat.reduceDiv, Nat.reduceMod, decide_true, h0, h3, h4, e, aload_off hpc2, aload_off hpc3, hr.scalar, cells_of hr.scalar, hfree, ha']
      refine ⟨_, ?_, i + 1, o', rfl, by simp, ci, rfl, ?_, hc', ?_⟩
      · omega
      · have : x.take (i + 1) = x.take i ++ [x[i]] := by simp [ci]
        rw [this, dEntries, List.map_append]; exact ho'
      · exact (he.tr (((Ext.b1 none).tr he2).setNew (Nat.le_refl _) _)).trans he' (fun _ _ x => x) (fun m hm hm' => by omega)
    · simp at ci
      simp only [go_sem, reduceIte, Nat.reduceEqDiff, Nat.reduceAdd, Nat.reduceLeDiff, Nat.reducePow, Nat.reduceDiv, Nat.reduceMod, decide_true, h3]
      obtain rfl : i = x.length := by omega
      rw [List.take_length] at ho
      exact ⟨ho, hc, he⟩
def CopyLogOk (P : Program) (f : FuncId) : Prop :=
  isFn P f = true ∧ ∀ (F : Nat → Prop) (h : AHeap) (x : Log) (a : List AV), RdL F h x.c a → SmallEntries x.es →
    ACalls P f [.agg a] h fun r h' => ∃ cs, r = .agg cs ∧ OwnL x.c (fun m => h.length ≤ m) h' cs ∧ Ext nof h h'

theorem CopyLog_ok {P : Program} {f g : FuncId} (hf : Is P f (c_glebekit_CopyLog g)) (hg : CopyEntriesOk P g) : CopyLogOk P f := by
  refine ⟨hf.2, fun F h x a hx hl => fun_sound hf.1 (Nat.le_of_ble_eq_true rfl) ?_⟩
  show vc P (c_glebekit_CopyLog g).code ⟨[(0, .agg a)], [], h⟩ (atEnd (c_glebekit_CopyLog g).res _)
  simp only [Log.c, RdL, Rd] at hx
  obtain ⟨_, _, rfl, rfl, _, _, rfl, rfl, d, _, rfl, hx, rfl⟩ := hx
  simp only [c_glebekit_CopyLog, go_sem, reduceIte, Nat.reduceEqDiff, Nat.reduceAdd, Nat.reduceLeDiff, Nat.reducePow, Nat.reduceDiv, Nat.reduceMod, decide_true, hx.scalar]
  refine wCall_use ⟨hg.1, hg.2 F _ x.es d (hx.up (Ext.b2 _ _)) hl⟩ ?_
  rintro r h2 ⟨hr, _, he⟩
  have hA := he.get (bx20 _ _ _)
  have hB := he.get (bx21 _ _ _)
  have l1 := (List.getElem?_eq_some_iff.1 hA).1
  have l2 := (List.getElem?_eq_some_iff.1 hB).1
  simp only [go_sem, reduceIte, Nat.reduceEqDiff, Nat.reduceAdd, Nat.reduceLeDiff, Nat.reducePow, Nat.reduceDiv, Nat.reduceMod, decide_true, hA, hB, hr.scalar, cells_of hr.scalar, l1, l2, List.length_set]
  refine ⟨_, rfl, ?_, ?_⟩
  · simp only [Log.c, OwnL, Own]
    refine ⟨_, _, rfl, rfl, _, _, rfl, rfl, r, _, rfl, ?_, rfl⟩
    refine Own.mono _ (fun m hm => ?_) (fun m hm y hy => ?_) _ hr
    · simp at hm; omega
    · simp at hm
      rw [List.getElem?_set_ne (by omega), List.getElem?_set_ne (by omega)]; exact hy
  · exact (((Ext.b2 _ _).tr he).setNew (Nat.le_refl _) _).setNew (by omega) _

end Glb

/-
  Messages and flows; whether a message is big, a message copied.
-/
namespace Glb
open Go
set_option maxRecDepth 10000
set_option maxHeartbeats 4000000

theorem rdL_int {F h k n ds a} : RdL F h (.int k n :: ds) a ↔ ∃ r, a = .int k n :: r ∧ RdL F h ds r := by
  simp only [RdL, Rd]
  constructor
  · rintro ⟨x, r, h1, h2, h3⟩; subst h2; exact ⟨r, h1, h3⟩
  · rintro ⟨r, h1, h3⟩; exact ⟨_, r, h1, rfl, h3⟩
end Glb
