/-
  A library of its own: its parts, one behind the other.
-/
import Derived.Test.YtcegihlhpmdbnaaGreatGlbQuoB
import Derived.Test.YtcegihlhpmdbnaaGreatGlbMorA
import Derived.Test.YtcegihlhpmdbnaaGreatGlbCconf
set_option linter.unusedSimpArgs false
set_option linter.unusedVariables false
/-
  The library's Clone, Delete and ContainsFunc on numbers.
-/
namespace Glb
open Go
set_option maxRecDepth 10000
set_option maxHeartbeats 4000000

/-- where nothing that was there has changed -/
theorem Gam.stay {G : Gh} {w w' : World} {h : AHeap} (g : Gam G w h) (hr : Rest w w') (same : ∀ b, b < w.heap.size → w'.heap[b]? = w.heap[b]?) : Gam G w' h ∧ Stp G w G w' := by
  have hsz := hr.2.2.1
  have sh : ∀ b, (w.shape? b).isSome → w'.shape? b = w.shape? b := fun b hb => by
    have hlt : b < w.heap.size := by
      apply Classical.byContradiction; intro hn
      simp only [World.shape?, Array.getElem?_eq_none (Nat.le_of_not_lt hn)] at hb
      exact absurd hb (by simp)
    simp only [World.shape?, same b hlt]
  have k : Keeps G w G w' := ⟨Nat.le_refl _, fun _ _ _ h => h, fun _ _ h => h, fun _ _ h => h, fun t b hp => same b (g.protLt hp), sh⟩
  exact ⟨{ len := g.len, live := g.live, tag := g.tag, inj := g.inj, liveTag := g.liveTag, liveS := g.liveS, tagInj := g.tagInj, tagS := g.tagS,
           tagLt := fun n b hb => Nat.lt_of_lt_of_le (g.tagLt n b hb) hsz, sLt := fun b hb => Nat.lt_of_lt_of_le (g.sLt b hb) hsz,
           arr := fun n sz es gr b hn hb => (g.arr n sz es gr b hn hb).keep k (same b (g.locLt (g.mkLive hn hb) hb)), nil := g.nil, nilLoc := g.nilLoc,
           map := fun n es b hn hb => (g.map n es b hn hb).keep k (same b (g.locLt (g.mkLiveM hn hb) hb)) },
    k, ⟨fun _ h => h, fun _ h => .inl h⟩, fun _ _ => rfl, fun _ _ => Iff.rfl, hsz, fun b hb _ => same b hb, fun b hb => .inl hb, hr⟩

/-- the library's contract for a list without items that is not nil -/
structure CloneKit (P : Program) (f : FuncId) : Prop where
  zero : ∀ (a : Addr) (c : Nat) (w : World), Calls P f #[.slice (some a) 0 c] w fun e w' => ∃ a' c', e = .returned (.slice (some a') 0 c') ∧ a'.spot = none ∧ Rest w w' ∧ ∀ k, k < w.heap.size → w'.heap[k]? = w.heap[k]?

def CloneOk (P : Program) (f : FuncId) : Prop :=
  isFn P f = true ∧ ∀ (F : Nat → Prop) (h : AHeap) (l : List Int) (a : AV), Rd F h (dInts l) a → l.length ≤ 2^40 → ACalls P f [a] h fun r h' => Own (dInts l) (fun m => h.length ≤ m) h' r ∧ (l ≠ [] → canApp h' r) ∧ Ext nof h h'

def anileq (b : Bool) (x : AV) : Option AV := if sliceish x then (anil x).map fun c => .bool (c != b) else none
theorem rev_nileq (g : Opd → AV) (h : AHeap) (b : Bool) (x : Opd) : rev g h (.nileq b x) = anileq b (g x) := Eq.trans rfl rfl

theorem one_arg {G w} {a : AV} {vs : Array Value} (hv : VL G w [a] vs) : ∃ v, vs = #[v] ∧ V G w a v := by
  have := hv.1
  match vs with
  | ⟨[v]⟩ => exact ⟨v, rfl, hv.2 0 a v rfl rfl⟩
  | ⟨[]⟩ => simp at this
  | ⟨_ :: _ :: _⟩ => simp at this
theorem one_args {G w} {a : AV} {v : Value} (hv : V G w a v) : VL G w [a] #[v] := ⟨rfl, fun j c v' hc hv' => by
  cases j with
  | zero => simp at hc hv'; subst hc; subst hv'; exact hv
  | succ j => simp at hc⟩

theorem Clone_ok {P : Program} {f : FuncId} (hf : Is P f c_slices_Clone_int_int) (hk : CloneKit P f) : CloneOk P f := by
  refine ⟨hf.2, fun F h l a ha hl => ?_⟩
  by_cases h0 : l = []
  · subst h0
    intro G w vs g hv
    obtain ⟨v, rfl, hV⟩ := one_arg hv
    -- the value has no items
    have hz : v = .slice none 0 0 ∨ ∃ p c, v = .slice (some p) 0 c := by
      simp only [dInts, List.map_nil, Rd, RdLL] at ha
      obtain ⟨es, he, rfl⟩ := ha
      rcases he with ⟨rfl, _⟩ | ⟨t, c, rfl⟩ | ⟨n, off, len, cap, row, gr, rfl, _, hrow, hle, hcl, hes⟩
      · cases hV; exact .inl rfl
      · generalize hee : ([] : List (List AV)) = es at hV
        cases hV with
        | valsNil => exact .inl rfl
        | vals => subst hee; exact .inr ⟨_, _, rfl⟩
      · have h1 : len = 0 := by
          have := congrArg List.length hes
          simp at this; omega
        subst h1
        cases hV with
        | refNil => exact .inl rfl
        | ref => exact .inr ⟨_, _, rfl⟩
    rcases hz with rfl | ⟨p, c, rfl⟩
    · have : ACalls P f [.nils] h fun r h' => Own (dInts []) (fun m => h.length ≤ m) h' r ∧ (([] : List Int) ≠ [] → canApp h' r) ∧ Ext nof h h' := by
        refine fun_sound hf.1 (Nat.le_of_ble_eq_true rfl) ?_
        show vc P c_slices_Clone_int_int.code ⟨[(0, .nils)], [], h⟩ (atEnd c_slices_Clone_int_int.res _)
        have an : anileq false .nils = some (.bool true) := rfl
        simp only [c_slices_Clone_int_int, go_sem, reduceIte, Nat.reduceEqDiff, Nat.reduceAdd, Nat.reduceLeDiff, Nat.reducePow, Nat.reduceDiv, Nat.reduceMod, decide_true, rev_nileq, an]
        exact ⟨Own.nils 1, fun h => absurd rfl h, Ext.refl _ _⟩
      exact this G w _ g (one_args .nils)
    · refine (hk.zero p c w).mono ?_
      rintro e w' ⟨a', c', rfl, hsp, hr, hs⟩
      obtain ⟨g', s'⟩ := g.stay hr hs
      refine ⟨_, .vals 0 false 1 [], h, G, rfl, ⟨?_, fun h => absurd rfl h, Ext.refl _ _⟩, g', ?_, s'⟩
      · simp only [dInts, List.map_nil, Own]; exact .inr (.inl ⟨0, false, rfl, trivial⟩)
      · exact V.vals (G := G) (w := w') 0 false 1 [] a' c' (fun _ _ => undef) (Nat.zero_le _) (fun e => by cases e) (fun _ => hsp) (fun hne => absurd rfl hne) (fun e he => by simp at he) (fun i j c hj => by simp [getc] at hj) (fun i j c hj => by simp [getc] at hj)
  · refine fun_sound hf.1 (Nat.le_of_ble_eq_true rfl) ?_
    show vc P c_slices_Clone_int_int.code ⟨[(0, a)], [], h⟩ (atEnd c_slices_Clone_int_int.res _)
    have an : anileq false a = some (.bool false) := by
      have hpos : 0 < l.length := List.length_pos_iff.2 h0
      have hl' := ha.ints_len
      simp only [dInts, Rd] at ha
      obtain ⟨es, he, hes⟩ := ha
      have hlen := RdLL_length hes
      rw [List.length_map] at hlen
      rcases he with ⟨rfl, rfl⟩ | ⟨t, c, rfl⟩ | ⟨n, off, len, cap, row, gr, rfl, _, hrow, hle, hcl, rfl⟩
      · simp at hlen; omega
      · simp only [anileq, sliceish, anil, if_true]; rw [if_pos (by omega)]; rfl
      · simp only [List.length_take, List.length_drop] at hlen
        simp only [anileq, sliceish, anil, if_true]; rw [if_pos (by omega)]; rfl
    obtain ⟨ys, hys, hyr⟩ := (ha.up (Ext.b1 (some (.arr 1 [] false)))).elems
    obtain ⟨o, h', hap, ho', hc', he'⟩ := own_app (lo := h.length) (sz := 1) (bytes := 8) (ds := []) (h0 := h ++ [some (.arr 1 [] false)]) (h := h ++ [some (.arr 1 [] false)]) (av := .ref h.length 1 0 0 (some 0))
      (by simp only [Own]; exact .inr (.inr ⟨_, 0, some 0, [], false, rfl, Nat.le_refl _, bx10 _ _, by simp, (fun c hc => by cases hc; simp), by simp [OwnLL]⟩))
      ⟨[], false, bx10 _ _, (fun h => by cases h), fun c hc => by cases hc; simp⟩ (Ext.refl nof _) (own_ints1 hyr) (by simp) (by simp; omega)
    have ha2 := aappend_of hys 8 (.ref h.length 1 0 0 (some 0))
    rw [hap] at ha2
    simp only [c_slices_Clone_int_int, go_sem, reduceIte, Nat.reduceEqDiff, Nat.reduceAdd, Nat.reduceLeDiff, Nat.reducePow, Nat.reduceDiv, Nat.reduceMod, decide_true, rev_nileq, an, ha2]
    exact ⟨by simpa [dInts] using ho', fun _ => hc', (Ext.b1 _).then he' (fun m hm hm' => by omega)⟩

/-- a list's room, told -/
theorem ACalls.room {P : Program} {f : FuncId} {n sz off len : Nat} {r : List AV} {h : AHeap} {K : AV → AHeap → Prop} (hlen : 0 < len) (hc : ∀ c, len ≤ c → ACalls P f (.ref n sz off len (some c) :: r) h K) : ACalls P f (.ref n sz off len none :: r) h K := by
  intro G w vs g hv
  have hsz := hv.1
  simp only [List.length_cons] at hsz
  have h0 : 0 < vs.size := by omega
  obtain ⟨v, hv0⟩ : ∃ v, vs[0]? = some v := ⟨vs[0], by simp [h0]⟩
  have hV := hv.2 0 _ v rfl hv0
  cases hV with
  | refNil => omega
  | ref _ _ _ _ _ c ty m b hn hb hlc hcapc hs hm =>
    refine hc c hlc G w vs g ⟨by simpa using hv.1, fun j x u hx hu => ?_⟩
    cases j with
    | zero =>
      simp at hx; subst hx
      rw [hv0] at hu; cases hu
      exact .ref _ _ _ _ _ c ty m b hn hb hlc (fun k hk => by cases hk; rfl) hs hm
    | succ j => exact hv.2 (j + 1) x u (by simpa using hx) hu

def DeleteOk (P : Program) (f : FuncId) : Prop :=
  isFn P f = true ∧ ∀ (F : Nat → Prop) (h : AHeap) (l : List Int) (a : AV) (i : Nat), Own (dInts l) F h a → l.length ≤ 2^40 → i < l.length → ACalls P f [a, .int .i64 i, .int .i64 ((i : Int) + 1)] h fun r h' => Own (dInts (l.take i ++ l.drop (i + 1))) F h' r ∧ Ext F h h'

theorem Delete_cap {P : Program} {f : FuncId} (hf : Is P f c_slices_Delete_int_int) {F : Nat → Prop} {h : AHeap} {l : List Int} {n off c : Nat} {i : Nat} (hI : OwnI n off (some c) l F h) (hl : l.length ≤ 2^40) (hi : i < l.length) :
    ACalls P f [.ref n 1 off l.length (some c), .int .i64 i, .int .i64 ((i : Int) + 1)] h fun r h' => Own (dInts (l.take i ++ l.drop (i + 1))) F h' r ∧ Ext F h h' := by
  refine fun_sound hf.1 (Nat.le_of_ble_eq_true rfl) ?_
  show vc P c_slices_Delete_int_int.code ⟨[(0, .ref n 1 off l.length (some c)), (1, .int .i64 i), (2, .int .i64 ((i : Int) + 1))], [], h⟩ (atEnd c_slices_Delete_int_int.res _)
  have hO := hI.own (Nat.le_refl l.length)
  rw [List.take_length] at hO
  obtain ⟨hF, row, g, hrow, hle, hcap, hes⟩ := hI
  have hcl := hcap c rfl
  obtain ⟨c', rfl⟩ : ∃ c', c = c' + 1 := ⟨c - 1, by omega⟩
  have la : alen (.ref n 1 off l.length (some (c' + 1))) = some (.int .i64 l.length) := rfl
  have hb : aslice 1 (.ref n 1 off l.length (some (c' + 1))) (some (i : Int)) (some ((i : Int) + 1)) (some (l.length : Int)) = some (.ref n 1 (off + i) 1 (some (l.length - i))) ∨ i = 0 := by
    rcases Nat.eq_zero_or_pos i with h0 | h0
    · exact .inr h0
    left
    simp only [aslice, Option.getD_some]
    rw [if_pos ⟨trivial, by omega, by omega, by omega, by omega, by omega⟩, if_neg (by omega), if_pos (by omega)]
    simp [sliceCap]
  have hb0 : ∃ z, aslice 1 (.ref n 1 off l.length (some (c' + 1))) (some (i : Int)) (some ((i : Int) + 1)) (some (l.length : Int)) = some z := by
    rcases hb with h | h
    · exact ⟨_, h⟩
    subst h
    simp only [aslice, Option.getD_some]
    rw [if_pos ⟨trivial, by omega, by omega, by omega, by omega, by omega⟩, if_pos (by omega)]
    exact ⟨_, rfl⟩
  obtain ⟨z, hz⟩ := hb0
  have hne : ¬ (i : Int) = (i : Int) + 1 := by omega
  have s1 : aslice 1 (.ref n 1 off l.length (some (c' + 1))) none (some (i : Int)) none = some (.ref n 1 off i (some (c' + 1))) := by
    simp only [aslice, Option.getD_some, Option.getD_none]
    rw [if_pos ⟨trivial, by omega, by omega, by omega, by omega, by omega⟩, if_pos trivial]
    simp [sliceCap]
  obtain ⟨q, s2, s3⟩ := (Own.rd _ (F' := fun _ => True) (fun _ _ => trivial) _ hO).slice (lo := some ((i : Int) + 1)) (hi := none) (mx := none) (by simp; omega) (by simp; omega) (by simp) (by simp) (by simp) (by simp)
  obtain ⟨ys, y1, y2⟩ := s3.elems
  simp only [Option.getD_some, Option.getD_none, List.length_map, Int.toNat_natCast, List.take_of_length_le (Nat.le_of_eq (List.length_map (as := l) (fun n => [D.int .i64 n])))] at y2
  rw [show ((i : Int) + 1).toNat = i + 1 by omega, ← List.map_drop] at y2
  have y3 : ys = (l.drop (i + 1)).map fun n => [AV.int .i64 n] := ownLL_ints_eq (F := F) (h := h) (own_ints1 y2)
  subst y3
  have hlt := (List.getElem?_eq_some_iff.1 hrow).1
  generalize hY : ((l.drop (i + 1)).map fun n => [AV.int .i64 n]) = Y at y1
  have hYl : Y.length = l.length - (i + 1) := by rw [← hY]; simp
  have ap : aappend h 1 8 (.ref n 1 off i (some (c' + 1))) q = some (.ref n 1 off (l.length - 1) (some (c' + 1)), h.set n (some (.arr 1 (splice row (off + i) Y) g))) := by
    rw [aappend_of y1]
    simp only [aappendY, hrow]
    rw [if_pos ⟨trivial, trivial, by omega, by omega⟩, if_neg (by omega), if_pos (by omega)]
    rw [show i + Y.length = l.length - 1 by omega]
  have lr : alen (.ref n 1 off (l.length - 1) (some (c' + 1))) = some (.int .i64 ((l.length - 1 : Nat) : Int)) := rfl
  obtain ⟨cc, s5⟩ : ∃ cc, aslice 1 (.ref n 1 off (l.length - 1) (some (c' + 1))) (some ((l.length - 1 : Nat) : Int)) (some (l.length : Int)) none = some (.ref n 1 (off + (l.length - 1)) 1 cc) := by
    simp only [aslice, Option.getD_some, Option.getD_none]
    rw [if_pos ⟨trivial, by omega, by omega, .inr rfl, by omega, by omega⟩]
    by_cases h1 : ((l.length - 1 : Nat) : Int) = 0
    · rw [if_pos h1]
      refine ⟨sliceCap none ((l.length - 1 : Nat) : Int).toNat (some (c' + 1)), ?_⟩
      rw [show off + (l.length - 1) = off by omega, show ((l.length : Int)).toNat = 1 by omega]
    · rw [if_neg h1, if_pos (by omega)]
      refine ⟨sliceCap none ((l.length - 1 : Nat) : Int).toNat (some (c' + 1)), ?_⟩
      rw [show ((l.length : Int)).toNat - (((l.length - 1 : Nat) : Int)).toNat = 1 by omega, Int.toNat_natCast]
  have sl1 : (splice row (off + i) Y).length = row.length := by simp [splice]; omega
  have cl : aclear (h.set n (some (.arr 1 (splice row (off + i) Y) g))) 1 [.int .i64 0] (.ref n 1 (off + (l.length - 1)) 1 cc) = some (h.set n (some (.arr 1 (splice (splice row (off + i) Y) (off + (l.length - 1)) [[.int .i64 0]]) g))) := by
    simp only [aclear]
    rw [if_neg (by omega), List.getElem?_set_self hlt]
    simp only []
    rw [if_pos ⟨trivial, trivial, by rw [sl1]; omega⟩, List.set_set]
    rfl
  simp only [c_slices_Delete_int_int, go_sem, reduceIte, Nat.reduceEqDiff, Nat.reduceAdd, Nat.reduceLeDiff, Nat.reducePow, Nat.reduceDiv, Nat.reduceMod, decide_true, la, aslc, hz, decide_eq_false hne, s1, s2, ap, lr, s5, cl, hev_clr]
  refine ⟨?_, Ext.set _ (fun _ => hF)⟩
  have hl' : (l.take i ++ l.drop (i + 1)).length = l.length - 1 := by simp; omega
  have fin : OwnI n off (some (c' + 1)) (l.take i ++ l.drop (i + 1)) F (h.set n (some (.arr 1 (splice (splice row (off + i) Y) (off + (l.length - 1)) [[.int .i64 0]]) g))) := by
    refine ⟨hF, _, g, List.getElem?_set_self hlt, ?_, fun c hc => by cases hc; rw [hl']; omega, ?_⟩
    · rw [hl']; simp only [splice, List.length_append, List.length_take, List.length_drop, List.length_cons, List.length_nil]; omega
    · rw [hl', List.map_append, hY]
      have e1 : (splice row (off + i) Y).take (off + (l.length - 1)) = row.take (off + i) ++ Y := by
        rw [splice]; exact List.take_left' (by simp; omega)
      rw [splice, e1]
      rw [List.append_assoc, List.append_assoc, List.drop_append_of_le_length (by simp; omega), List.drop_take, show off + i - off = i by omega]
      rw [← List.append_assoc]
      have e2 : (row.drop off).take i = (l.take i).map fun n => [AV.int .i64 n] := by
        have := congrArg (List.take i) hes
        rw [List.take_take, Nat.min_eq_left (by omega), ← List.map_take] at this
        exact this
      rw [e2]
      exact List.take_left' (by simp; omega)
  have := fin.own (Nat.le_refl _)
  rw [List.take_length, hl'] at this
  exact this

theorem Delete_ok {P : Program} {f : FuncId} (hf : Is P f c_slices_Delete_int_int) : DeleteOk P f := by
  refine ⟨hf.2, fun F h l a i ho hl hi => ?_⟩
  obtain ⟨n, off, cap, rfl, hI⟩ := own_ref ho (by rintro rfl; simp at hi)
  cases cap with
  | some c => exact Delete_cap hf hI hl hi
  | none =>
    refine ACalls.room (by omega) fun c hc => ?_
    obtain ⟨hF, row, g, hrow, hle, hcap, hes⟩ := hI
    exact Delete_cap hf ⟨hF, row, g, hrow, hle, fun k hk => by cases hk; exact hc, hes⟩ hl hi

/-- is something so of an item? -/
def AnyOk (P : Program) (f : FuncId) : Prop :=
  isFn P f = true ∧ ∀ (F : Nat → Prop) (h : AHeap) (l : List Int) (a : AV) (g : FuncId) (fs cs : List AV) (p : Int → Bool), Rd F h (dInts l) a → l.length ≤ 2^40 → isFn P g = true →
    (∀ n, ACalls P g (fs ++ [.int .i64 n] ++ cs) h fun r h' => r = .bool (p n) ∧ h' = h) → ACalls P f [a, .clo g fs cs] h fun r h' => r = .bool (l.any p) ∧ h' = h

def firstAt (p : Int → Bool) : List Int → Nat → Int
  | [], _ => -1
  | x :: r, k => if p x then k else firstAt p r (k + 1)
theorem firstAt_any (p : Int → Bool) : ∀ (l : List Int) (k : Nat), decide (0 ≤ firstAt p l k) = l.any p := by
  intro l
  induction l with
  | nil => intro k; simp [firstAt]
  | cons x r ih =>
    intro k
    simp only [firstAt, List.any_cons]
    by_cases hp : p x = true
    · simp [hp]
    · simpa [hp] using ih (k + 1)
theorem findAt_first (n : Int) : ∀ (l : List Int) (k : Nat), findAt n l k = -1 ∧ n ∉ l ∨ ∃ i, i < l.length ∧ findAt n l k = ((k + i : Nat) : Int) ∧ l[i]? = some n := by
  intro l
  induction l with
  | nil => intro k; exact .inl ⟨rfl, by simp⟩
  | cons x r ih =>
    intro k
    simp only [findAt]
    split
    · rename_i e; subst e; exact .inr ⟨0, by simp, by simp, by simp⟩
    · rename_i e
      rcases ih (k + 1) with ⟨h1, h2⟩ | ⟨i, h1, h2, h3⟩
      · exact .inl ⟨h1, by simp [e, h2]⟩
      · exact .inr ⟨i + 1, by simp; omega, by rw [h2]; congr 1; omega, by simpa using h3⟩

theorem IndexFunc_ok {P : Program} {f : FuncId} (hf : Is P f c_slices_IndexFunc_int_int) {F : Nat → Prop} {h : AHeap} {l : List Int} {a : AV} {g : FuncId} {fs cs : List AV} {p : Int → Bool} (ha : Rd F h (dInts l) a) (hl : l.length ≤ 2^40) (hi : isFn P g = true)
    (hg : ∀ n, ACalls P g (fs ++ [.int .i64 n] ++ cs) h fun r h' => r = .bool (p n) ∧ h' = h) : ACalls P f [a, .clo g fs cs] h fun r h' => r = .int .i64 (firstAt p l 0) ∧ h' = h := by
  refine fun_sound hf.1 (Nat.le_of_ble_eq_true rfl) ?_
  show vc P c_slices_IndexFunc_int_int.code ⟨[(0, a), (1, .clo g fs cs)], [], h⟩ (atEnd c_slices_IndexFunc_int_int.res _)
  have la := ha.ints_len
  simp only [c_slices_IndexFunc_int_int, go_sem, reduceIte, Nat.reduceEqDiff, Nat.reduceAdd, Nat.reduceLeDiff, Nat.reducePow, Nat.reduceDiv, Nat.reduceMod, decide_true, la]
  refine vc_loop (fun m L h' => ∃ i : Nat, lk 0 L = a ∧ lk 1 L = .clo g fs cs ∧ lk 7 L = .int .i64 l.length ∧ lk 8 L = .int .i64 i ∧ h = h' ∧ i ≤ l.length ∧ m = l.length - i ∧ firstAt p (l.drop i) i = firstAt p l 0) l.length ?_ ?_
  · exact ⟨0, by simp [lk_ins, lk_cons], by simp [lk_ins, lk_cons], by simp [lk_ins, lk_cons], by simp [lk_ins], rfl, by omega, by omega, rfl⟩
  · rintro m L h' ⟨i, k0, k1, k7, k8, rfl, hi2, rfl, hq⟩
    simp only [c_slices_IndexFunc_int_int_l0, go_sem, reduceIte, Nat.reduceEqDiff, Nat.reduceAdd, Nat.reduceLeDiff, Nat.reducePow, Nat.reduceDiv, Nat.reduceMod, decide_true, k0, k1, k7, k8]
    refine wCond_split (fun ci => ?_) (fun ci => ?_)
    · simp at ci
      obtain ⟨q, hp, hv⟩ := ha.int_at ci
      have e : IntKind.i64.wrap (↑i + 1) = (i : Int) + 1 := wrap_i64 (by omega)
      rw [List.drop_eq_getElem_cons ci] at hq
      simp only [firstAt] at hq
      simp only [go_sem, reduceIte, Nat.reduceEqDiff, Nat.reduceAdd, Nat.reduceLeDiff, Nat.reducePow, Nat.reduceDiv, Nat.reduceMod, decide_true, k0, k1, k7, k8, hp, hv]
      refine use1 hi (hg _) ?_
      cases hpb : p l[i]
      · rw [hpb] at hq
        simp only [go_sem, reduceIte, Nat.reduceEqDiff, Nat.reduceAdd, Nat.reduceLeDiff, Nat.reducePow, Nat.reduceDiv, Nat.reduceMod, decide_true, k0, k1, k7, k8, e]
        exact ⟨_, by omega, i + 1, by simp, ci, rfl, by simpa using hq⟩
      · rw [hpb] at hq
        simp only [go_sem, reduceIte, Nat.reduceEqDiff, Nat.reduceAdd, Nat.reduceLeDiff, Nat.reducePow, Nat.reduceDiv, Nat.reduceMod, decide_true]
        rw [← hq]; rfl
    · simp at ci
      obtain rfl : i = l.length := by omega
      rw [List.drop_length] at hq
      simp only [go_sem, reduceIte, Nat.reduceEqDiff, Nat.reduceAdd, Nat.reduceLeDiff, Nat.reducePow, Nat.reduceDiv, Nat.reduceMod, decide_true]
      rw [← hq]; rfl

theorem ContainsFunc_ok {P : Program} {f k : FuncId} (hf : Is P f (c_slices_ContainsFunc_int_int k)) (hk : Is P k c_slices_IndexFunc_int_int) : AnyOk P f := by
  refine ⟨hf.2, fun F h l a g fs cs p ha hl hi hg => fun_sound hf.1 (Nat.le_of_ble_eq_true rfl) ?_⟩
  show vc P (c_slices_ContainsFunc_int_int k).code ⟨[(0, a), (1, .clo g fs cs)], [], h⟩ (atEnd (c_slices_ContainsFunc_int_int k).res _)
  simp only [c_slices_ContainsFunc_int_int, go_sem, reduceIte, Nat.reduceEqDiff, Nat.reduceAdd, Nat.reduceLeDiff, Nat.reducePow, Nat.reduceDiv, Nat.reduceMod, decide_true]
  refine use1 hk.2 (IndexFunc_ok hk ha hl hi hg) ?_
  simp only [go_sem, reduceIte, Nat.reduceEqDiff, Nat.reduceAdd, Nat.reduceLeDiff, Nat.reducePow, Nat.reduceDiv, Nat.reduceMod, decide_true, firstAt_any]

end Glb

/-
  How members change: the program's functions and the document's.
-/
namespace Glb
open Go
set_option maxRecDepth 10000
set_option maxHeartbeats 8000000

def Conf.busy (x : Conf) : Bool := decide (0 < x.new.length + x.learners.length)
def Conf.may (x : Conf) (n : Int) : Int := if x.right = false then 29 else if n < 1 ∨ 7 < n then 28 else if x.busy = true then 11 else 0
def Conf.no : Conf := ⟨[], [], []⟩
def Conf.add (x : Conf) (n : Int) : Conf × Int := if x.may n ≠ 0 then (.no, x.may n) else if n ∈ x.old then (.no, 7) else (⟨x.old, [], [n]⟩, 0)
def Conf.drop (x : Conf) (n : Int) : Conf × Int := if x.may n ≠ 0 then (.no, x.may n) else if n ∉ x.old then (.no, 6) else if x.old.length = 1 then (.no, 29) else (⟨x.old, x.old.filter (fun m => !decide (m = n)), []⟩, 0)
def Conf.stays (x : Conf) (far : List Int) : Bool := !x.right || !x.busy || (decide (x.new.length = 0) && x.learners.any fun n => !decide (n ∈ far))
def Conf.next (x : Conf) (far : List Int) : Conf × Bool := if x.stays far = true then (x, false) else if 0 < x.new.length then (⟨x.new, [], []⟩, true) else (⟨x.old, sorted (x.old ++ x.learners), []⟩, true)

def BusyOk (P : Program) (f : FuncId) : Prop := isFn P f = true ∧ ∀ (F : Nat → Prop) (h : AHeap) (x : Conf) (a : List AV), RdL F h x.c a → x.few (2^38) → ACalls P f [.agg a] h fun r h' => r = .bool x.busy ∧ h' = h

theorem busy_ok {P : Program} {f : FuncId} (hf : Is P f c_conf_members_busy) : BusyOk P f := by
  refine ⟨hf.2, fun F h x a ha hx => obs (upto_bool _ _) (fun_sound hf.1 (Nat.le_of_ble_eq_true rfl) ?_)⟩
  show vc P c_conf_members_busy.code ⟨[(0, .agg a)], [], h⟩ (atEnd c_conf_members_busy.res _)
  obtain ⟨o, n, e, rfl, ho, hn, he⟩ := rd_conf ha
  obtain ⟨h1, h2, h3⟩ := hx
  have e1 : IntKind.i64.wrap ((x.new.length : Int) + x.learners.length) = ((x.new.length + x.learners.length : Nat) : Int) := by rw [wrap_i64 (by omega)]; omega
  simp only [c_conf_members_busy, go_sem, reduceIte, Nat.reduceEqDiff, Nat.reduceAdd, Nat.reduceLeDiff, Nat.reducePow, Nat.reduceDiv, Nat.reduceMod, decide_true, ho.scalar, hn.scalar, he.scalar, hn.ints_len, he.ints_len, e1]
  exact ⟨by simp only [Conf.busy]; congr 1; simp only [decide_eq_decide]; omega, Ext.b1 _⟩

theorem Changing_ok {P : Program} {f : FuncId} (hf : Is P f c_gleberef16_Changing) : BusyOk P f := by
  refine ⟨hf.2, fun F h x a ha hx => obs (upto_bool _ _) (fun_sound hf.1 (Nat.le_of_ble_eq_true rfl) ?_)⟩
  show vc P c_gleberef16_Changing.code ⟨[(0, .agg a)], [], h⟩ (atEnd c_gleberef16_Changing.res _)
  obtain ⟨o, n, e, rfl, ho, hn, he⟩ := rd_conf ha
  obtain ⟨h1, h2, h3⟩ := hx
  simp only [c_gleberef16_Changing, go_sem, reduceIte, Nat.reduceEqDiff, Nat.reduceAdd, Nat.reduceLeDiff, Nat.reducePow, Nat.reduceDiv, Nat.reduceMod, decide_true, ho.scalar, hn.scalar, he.scalar, hn.ints_len]
  by_cases c : 0 < (x.new.length : Int)
  · simp only [go_sem, reduceIte, Nat.reduceEqDiff, Nat.reduceAdd, Nat.reduceLeDiff, Nat.reducePow, Nat.reduceDiv, Nat.reduceMod, decide_true, decide_eq_true c]
    exact ⟨by simp only [Conf.busy]; congr 1; simp; omega, Ext.b1 _⟩
  · simp only [go_sem, reduceIte, Nat.reduceEqDiff, Nat.reduceAdd, Nat.reduceLeDiff, Nat.reducePow, Nat.reduceDiv, Nat.reduceMod, decide_true, decide_eq_false c, he.ints_len]
    exact ⟨by simp only [Conf.busy]; congr 1; simp only [decide_eq_decide]; omega, Ext.b1 _⟩

def MayOk (P : Program) (f : FuncId) : Prop := isFn P f = true ∧ ∀ (F : Nat → Prop) (h : AHeap) (x : Conf) (a : List AV) (n : Int), RdL F h x.c a → x.few (2^38) → ACalls P f [.agg a, .int .i64 n] h fun r h' => r = .int .i64 (x.may n) ∧ h' = h

theorem nz0 : (!decide ((0 : Int) = 0)) = false := rfl
theorem nz29 : (!decide ((29 : Int) = 0)) = true := rfl

theorem conf_may_ok {P : Program} {f g b : FuncId} (hf : Is P f (c_conf_may g b)) (hg : CheckOk P g) (hb : BusyOk P b) : MayOk P f := by
  refine ⟨hf.2, fun F h x a n ha hx => obs rfl (fun_sound hf.1 (Nat.le_of_ble_eq_true rfl) ?_)⟩
  show vc P (c_conf_may g b).code ⟨[(0, .agg a), (1, .int .i64 n)], [], h⟩ (atEnd (c_conf_may g b).res _)
  have ha2 := ha
  obtain ⟨o, k, e, rfl, ho, hn, he⟩ := rd_conf ha
  simp only [c_conf_may, go_sem, reduceIte, Nat.reduceEqDiff, Nat.reduceAdd, Nat.reduceLeDiff, Nat.reducePow, Nat.reduceDiv, Nat.reduceMod, decide_true, ho.scalar, hn.scalar, he.scalar]
  refine use1 hg.1 (hg.2 F _ x _ (ha2.up (Ext.b1 _)) hx) ?_
  cases hr : x.right
  · simp only [go_sem, reduceIte, Nat.reduceEqDiff, Nat.reduceAdd, Nat.reduceLeDiff, Nat.reducePow, Nat.reduceDiv, Nat.reduceMod, decide_true, Bool.false_eq_true, if_false, nz29]
    exact ⟨by simp [Conf.may, hr], Ext.b1 _⟩
  simp only [go_sem, reduceIte, Nat.reduceEqDiff, Nat.reduceAdd, Nat.reduceLeDiff, Nat.reducePow, Nat.reduceDiv, Nat.reduceMod, decide_true, if_true, nz0]
  by_cases c1 : n < 1
  · simp only [go_sem, reduceIte, Nat.reduceEqDiff, Nat.reduceAdd, Nat.reduceLeDiff, Nat.reducePow, Nat.reduceDiv, Nat.reduceMod, decide_true, decide_eq_true c1]
    exact ⟨by simp [Conf.may, hr, c1], Ext.b1 _⟩
  by_cases c2 : 7 < n
  · simp only [go_sem, reduceIte, Nat.reduceEqDiff, Nat.reduceAdd, Nat.reduceLeDiff, Nat.reducePow, Nat.reduceDiv, Nat.reduceMod, decide_true, decide_eq_false c1, decide_eq_true c2]
    exact ⟨by simp [Conf.may, hr, c2], Ext.b1 _⟩
  simp only [go_sem, reduceIte, Nat.reduceEqDiff, Nat.reduceAdd, Nat.reduceLeDiff, Nat.reducePow, Nat.reduceDiv, Nat.reduceMod, decide_true, decide_eq_false c1, decide_eq_false c2, ho.scalar, hn.scalar, he.scalar]
  refine use1 hb.1 (hb.2 F _ x _ (ha2.up (Ext.b1 _)) hx) ?_
  cases hy : x.busy
  · simp only [go_sem, reduceIte, Nat.reduceEqDiff, Nat.reduceAdd, Nat.reduceLeDiff, Nat.reducePow, Nat.reduceDiv, Nat.reduceMod, decide_true]
    exact ⟨by simp [Conf.may, hr, c1, c2, hy], Ext.b1 _⟩
  · simp only [go_sem, reduceIte, Nat.reduceEqDiff, Nat.reduceAdd, Nat.reduceLeDiff, Nat.reducePow, Nat.reduceDiv, Nat.reduceMod, decide_true]
    exact ⟨by simp [Conf.may, hr, c1, c2, hy], Ext.b1 _⟩
theorem gleberef16_forbids_ok {P : Program} {f g b : FuncId} (hf : Is P f (c_gleberef16_forbids g b)) (hg : CheckOk P g) (hb : BusyOk P b) : MayOk P f := by
  refine ⟨hf.2, fun F h x a n ha hx => obs rfl (fun_sound hf.1 (Nat.le_of_ble_eq_true rfl) ?_)⟩
  show vc P (c_gleberef16_forbids g b).code ⟨[(0, .agg a), (1, .int .i64 n)], [], h⟩ (atEnd (c_gleberef16_forbids g b).res _)
  have ha2 := ha
  obtain ⟨o, k, e, rfl, ho, hn, he⟩ := rd_conf ha
  simp only [c_gleberef16_forbids, go_sem, reduceIte, Nat.reduceEqDiff, Nat.reduceAdd, Nat.reduceLeDiff, Nat.reducePow, Nat.reduceDiv, Nat.reduceMod, decide_true, ho.scalar, hn.scalar, he.scalar]
  refine use1 hg.1 (hg.2 F _ x _ (ha2.up (Ext.b1 _)) hx) ?_
  cases hr : x.right
  · simp only [go_sem, reduceIte, Nat.reduceEqDiff, Nat.reduceAdd, Nat.reduceLeDiff, Nat.reducePow, Nat.reduceDiv, Nat.reduceMod, decide_true, Bool.false_eq_true, if_false, nz29]
    exact ⟨by simp [Conf.may, hr], Ext.b1 _⟩
  simp only [go_sem, reduceIte, Nat.reduceEqDiff, Nat.reduceAdd, Nat.reduceLeDiff, Nat.reducePow, Nat.reduceDiv, Nat.reduceMod, decide_true, if_true, nz0]
  by_cases c1 : n < 1
  · simp only [go_sem, reduceIte, Nat.reduceEqDiff, Nat.reduceAdd, Nat.reduceLeDiff, Nat.reducePow, Nat.reduceDiv, Nat.reduceMod, decide_true, decide_eq_true c1]
    exact ⟨by simp [Conf.may, hr, c1], Ext.b1 _⟩
  by_cases c2 : 7 < n
  · simp only [go_sem, reduceIte, Nat.reduceEqDiff, Nat.reduceAdd, Nat.reduceLeDiff, Nat.reducePow, Nat.reduceDiv, Nat.reduceMod, decide_true, decide_eq_false c1, decide_eq_true c2]
    exact ⟨by simp [Conf.may, hr, c2], Ext.b1 _⟩
  simp only [go_sem, reduceIte, Nat.reduceEqDiff, Nat.reduceAdd, Nat.reduceLeDiff, Nat.reducePow, Nat.reduceDiv, Nat.reduceMod, decide_true, decide_eq_false c1, decide_eq_false c2, ho.scalar, hn.scalar, he.scalar]
  refine use1 hb.1 (hb.2 F _ x _ (ha2.up (Ext.b1 _)) hx) ?_
  cases hy : x.busy
  · simp only [go_sem, reduceIte, Nat.reduceEqDiff, Nat.reduceAdd, Nat.reduceLeDiff, Nat.reducePow, Nat.reduceDiv, Nat.reduceMod, decide_true]
    exact ⟨by simp [Conf.may, hr, c1, c2, hy], Ext.b1 _⟩
  · simp only [go_sem, reduceIte, Nat.reduceEqDiff, Nat.reduceAdd, Nat.reduceLeDiff, Nat.reducePow, Nat.reduceDiv, Nat.reduceMod, decide_true]
    exact ⟨by simp [Conf.may, hr, c1, c2, hy], Ext.b1 _⟩

/-- a step by a node, in new memory -/
def StepOk (P : Program) (f : FuncId) (t : Conf → Int → Conf × Int) : Prop :=
  isFn P f = true ∧ ∀ (F : Nat → Prop) (h : AHeap) (x : Conf) (a : List AV) (n : Int), RdL F h x.c a → x.few (2^38) → ACalls P f [.agg a, .int .i64 n] h fun r h' => ∃ cs, r = .tup [.agg cs, .int .i64 (t x n).2] ∧ OwnL (t x n).1.c (fun m => h.length ≤ m) h' cs ∧ Ext nof h h'

theorem own_conf {F : Nat → Prop} {h : AHeap} {x : Conf} {o n e : AV} (ho : Own (dInts x.old) F h o) (hn : Own (dInts x.new) F h n) (he : Own (dInts x.learners) F h e) : OwnL x.c F h [o, n, e] := by
  simp only [Conf.c, OwnL]; exact ⟨_, _, rfl, ho, _, _, rfl, hn, _, _, rfl, he, rfl⟩
theorem own_no {F : Nat → Prop} {h : AHeap} : OwnL Conf.no.c F h [.nils, .nils, .nils] := own_conf (Own.nils 1) (Own.nils 1) (Own.nils 1)

theorem own_setOff {d : D} {lo n : Nat} {h : AHeap} {a : AV} (ho : Own d (fun m => lo ≤ m) h a) (hn : n < lo) (x : Option ABlk) {k : Nat} (hk : k ≤ lo) : Own d (fun m => k ≤ m) (h.set n x) a :=
  Own.mono _ (fun m hm => by omega) (fun m hm y hy => by rw [List.getElem?_set_ne (by omega)]; exact hy) _ ho
theorem own_app1 {d : D} {lo : Nat} {h : AHeap} {a : AV} (ho : Own d (fun m => lo ≤ m) h a) (x : Option ABlk) : Own d (fun m => lo ≤ m) (h ++ [x]) a :=
  Own.mono _ (fun m hm => hm) (fun m hm y hy => (Ext.b1 x).get hy) _ ho

theorem CopyOk.clone {P : Program} {f : FuncId} (hc : CopyOk P f .i64) : CloneOk P f := ⟨hc.1, fun F h l a ha hl => (hc.2 F h l a ha hl).mono fun _ _ hk => ⟨hk.1, fun _ => hk.2.1, hk.2.2⟩⟩

theorem conf_Add_ok {P : Program} {f m s k : FuncId} (hf : Is P f (c_conf_Add m s k)) (hm : MayOk P m) (hs : HasOk P s) (hk : CloneOk P k) : StepOk P f Conf.add := by
  refine ⟨hf.2, fun F h x a n ha hx => fun_sound hf.1 (Nat.le_of_ble_eq_true rfl) ?_⟩
  show vc P (c_conf_Add m s k).code ⟨[(0, .agg a), (1, .int .i64 n)], [], h⟩ (atEnd (c_conf_Add m s k).res _)
  have ha2 := ha
  obtain ⟨o, u, e, rfl, ho, hn, he⟩ := rd_conf ha
  obtain ⟨h1, h2, h3⟩ := id hx
  simp only [c_conf_Add, go_sem, reduceIte, Nat.reduceEqDiff, Nat.reduceAdd, Nat.reduceLeDiff, Nat.reducePow, Nat.reduceDiv, Nat.reduceMod, decide_true, ho.scalar, hn.scalar, he.scalar]
  refine use1 hm.1 (hm.2 F _ x _ n (ha2.up (Ext.b2 _ _)) hx) ?_
  by_cases c0 : x.may n = 0
  · simp only [go_sem, reduceIte, Nat.reduceEqDiff, Nat.reduceAdd, Nat.reduceLeDiff, Nat.reducePow, Nat.reduceDiv, Nat.reduceMod, decide_true, c0, nz0]
    refine use1 hs.1 (hs.2 F _ x.old o n (ho.up (Ext.b2 _ _)) (by omega)) ?_
    by_cases c1 : n ∈ x.old
    · simp only [go_sem, reduceIte, Nat.reduceEqDiff, Nat.reduceAdd, Nat.reduceLeDiff, Nat.reducePow, Nat.reduceDiv, Nat.reduceMod, decide_true, decide_eq_true c1]
      have ee : x.add n = (.no, 7) := by simp [Conf.add, c0, c1]
      rw [ee]
      exact ⟨_, rfl, own_no, Ext.b2 _ _⟩
    · simp only [go_sem, reduceIte, Nat.reduceEqDiff, Nat.reduceAdd, Nat.reduceLeDiff, Nat.reducePow, Nat.reduceDiv, Nat.reduceMod, decide_true, decide_eq_false c1]
      have ee : x.add n = (⟨x.old, [], [n]⟩, 0) := by simp [Conf.add, c0, c1]
      rw [ee]
      refine wCall_use ⟨hk.1, hk.2 F _ x.old o (ho.up (Ext.b2 _ _)) (by omega)⟩ ?_
      rintro r H ⟨ro, _, rx⟩
      have B := (rx.tr (Ext.b1 (some (.arr 1 [[.int .i64 n]] false)))).get (bx21 _ _ _)
      have hl := rx.1
      simp only [len_app1] at hl
      have l1 : h.length + 1 < H.length + 1 := by omega
      have l2 : h.length + 1 < H.length := by omega
      simp only [go_sem, reduceIte, Nat.reduceEqDiff, Nat.reduceAdd, Nat.reduceLeDiff, Nat.reducePow, Nat.reduceDiv, Nat.reduceMod, decide_true, B, ro.scalar, cells_of ro.scalar, l1, l2, List.length_set]
      refine ⟨_, rfl, own_conf ?_ (Own.nils 1) ?_, ?_⟩
      · simp only [len_app1] at ro
        exact own_setOff (own_app1 ro _) (by omega) _ (by omega)
      · simp only [dInts, List.map_cons, List.map_nil, Own]
        refine .inr (.inr ⟨H.length, 0, some 1, [[.int .i64 n]], false, rfl, by omega, ?_, by simp, (fun c hc => by cases hc; simp), by simp [OwnLL, OwnL, Own]⟩)
        rw [List.getElem?_set_ne (by omega)]; exact bx10 _ _
      · exact (((Ext.b2 _ _).tr rx).tr (Ext.b1 _)).setNew (by omega) _
  · have nz : (!decide (x.may n = 0)) = true := by simp [c0]
    simp only [go_sem, reduceIte, Nat.reduceEqDiff, Nat.reduceAdd, Nat.reduceLeDiff, Nat.reducePow, Nat.reduceDiv, Nat.reduceMod, decide_true, nz]
    have ee : x.add n = (.no, x.may n) := by simp [Conf.add, c0]
    rw [ee]
    exact ⟨_, rfl, own_no, Ext.b2 _ _⟩
theorem gleberef16_Add_ok {P : Program} {f m s k : FuncId} (hf : Is P f (c_gleberef16_Add m s k)) (hm : MayOk P m) (hs : HasOk P s) (hk : CloneOk P k) : StepOk P f Conf.add := by
  refine ⟨hf.2, fun F h x a n ha hx => fun_sound hf.1 (Nat.le_of_ble_eq_true rfl) ?_⟩
  show vc P (c_gleberef16_Add m s k).code ⟨[(0, .agg a), (1, .int .i64 n)], [], h⟩ (atEnd (c_gleberef16_Add m s k).res _)
  have ha2 := ha
  obtain ⟨o, u, e, rfl, ho, hn, he⟩ := rd_conf ha
  obtain ⟨h1, h2, h3⟩ := id hx
  simp only [c_gleberef16_Add, go_sem, reduceIte, Nat.reduceEqDiff, Nat.reduceAdd, Nat.reduceLeDiff, Nat.reducePow, Nat.reduceDiv, Nat.reduceMod, decide_true, ho.scalar, hn.scalar, he.scalar]
  refine use1 hm.1 (hm.2 F _ x _ n (ha2.up (Ext.b2 _ _)) hx) ?_
  by_cases c0 : x.may n = 0
  · simp only [go_sem, reduceIte, Nat.reduceEqDiff, Nat.reduceAdd, Nat.reduceLeDiff, Nat.reducePow, Nat.reduceDiv, Nat.reduceMod, decide_true, c0, nz0]
    refine use1 hs.1 (hs.2 F _ x.old o n (ho.up (Ext.b2 _ _)) (by omega)) ?_
    by_cases c1 : n ∈ x.old
    · simp only [go_sem, reduceIte, Nat.reduceEqDiff, Nat.reduceAdd, Nat.reduceLeDiff, Nat.reducePow, Nat.reduceDiv, Nat.reduceMod, decide_true, decide_eq_true c1]
      have ee : x.add n = (.no, 7) := by simp [Conf.add, c0, c1]
      rw [ee]
      exact ⟨_, rfl, own_no, Ext.b2 _ _⟩
    · simp only [go_sem, reduceIte, Nat.reduceEqDiff, Nat.reduceAdd, Nat.reduceLeDiff, Nat.reducePow, Nat.reduceDiv, Nat.reduceMod, decide_true, decide_eq_false c1]
      have ee : x.add n = (⟨x.old, [], [n]⟩, 0) := by simp [Conf.add, c0, c1]
      rw [ee]
      refine wCall_use ⟨hk.1, hk.2 F _ x.old o (ho.up (Ext.b2 _ _)) (by omega)⟩ ?_
      rintro r H ⟨ro, _, rx⟩
      have B := (rx.tr (Ext.b1 (some (.arr 1 [[.int .i64 n]] false)))).get (bx21 _ _ _)
      have hl := rx.1
      simp only [len_app1] at hl
      have l1 : h.length + 1 < H.length + 1 := by omega
      have l2 : h.length + 1 < H.length := by omega
      simp only [go_sem, reduceIte, Nat.reduceEqDiff, Nat.reduceAdd, Nat.reduceLeDiff, Nat.reducePow, Nat.reduceDiv, Nat.reduceMod, decide_true, B, ro.scalar, cells_of ro.scalar, l1, l2, List.length_set]
      refine ⟨_, rfl, own_conf ?_ (Own.nils 1) ?_, ?_⟩
      · simp only [len_app1] at ro
        exact own_setOff (own_app1 ro _) (by omega) _ (by omega)
      · simp only [dInts, List.map_cons, List.map_nil, Own]
        refine .inr (.inr ⟨H.length, 0, some 1, [[.int .i64 n]], false, rfl, by omega, ?_, by simp, (fun c hc => by cases hc; simp), by simp [OwnLL, OwnL, Own]⟩)
        rw [List.getElem?_set_ne (by omega)]; exact bx10 _ _
      · exact (((Ext.b2 _ _).tr rx).tr (Ext.b1 _)).setNew (by omega) _
  · have nz : (!decide (x.may n = 0)) = true := by simp [c0]
    simp only [go_sem, reduceIte, Nat.reduceEqDiff, Nat.reduceAdd, Nat.reduceLeDiff, Nat.reducePow, Nat.reduceDiv, Nat.reduceMod, decide_true, nz]
    have ee : x.add n = (.no, x.may n) := by simp [Conf.add, c0]
    rw [ee]
    exact ⟨_, rfl, own_no, Ext.b2 _ _⟩

end Glb

/-
  A node goes: the program's function and the document's.
-/
namespace Glb
open Go
set_option maxRecDepth 10000
set_option maxHeartbeats 8000000

theorem rise_spec : ∀ {l : List Int} {p : Option Int}, rise p l = true → Rises l ∧ (∀ y, p = some y → ∀ m ∈ l, y < m) ∧ ∀ m ∈ l, 1 ≤ m ∧ m ≤ 7
  | [], _, _ => ⟨List.Pairwise.nil, by simp, by simp⟩
  | x :: r, p, h => by
    simp only [rise, Bool.and_eq_true, Bool.not_eq_true', Bool.or_eq_false_iff, decide_eq_false_iff_not] at h
    obtain ⟨⟨⟨h1, h2⟩, h3⟩, h4⟩ := h
    obtain ⟨g1, g2, g3⟩ := rise_spec h4
    refine ⟨List.pairwise_cons.2 ⟨g2 x rfl, g1⟩, fun y hy m hm => ?_, fun m hm => ?_⟩
    · subst hy
      simp only [decide_eq_false_iff_not] at h3
      rcases List.mem_cons.1 hm with rfl | hm
      · omega
      · have := g2 x rfl m hm; omega
    · rcases List.mem_cons.1 hm with rfl | hm
      · omega
      · exact g3 m hm

theorem right_spec {x : Conf} (h : x.right = true) : x.old.length ≠ 0 ∧ Rises x.old ∧ Rises x.new ∧ Rises x.learners ∧ (∀ m ∈ x.old, 1 ≤ m ∧ m ≤ 7) ∧ (∀ m ∈ x.new, 1 ≤ m ∧ m ≤ 7) ∧ (∀ m ∈ x.learners, 1 ≤ m ∧ m ≤ 7) ∧ (∀ m ∈ x.learners, m ∉ x.old ∧ m ∉ x.new) := by
  simp only [Conf.right_eq, Bool.not_eq_true', Bool.or_eq_false_iff, decide_eq_false_iff_not, Bool.not_eq_false'] at h
  obtain ⟨⟨⟨⟨h0, h1⟩, h2⟩, h3⟩, h4⟩ := h
  refine ⟨h0, (rise_spec h1).1, (rise_spec h2).1, (rise_spec h3).1, (rise_spec h1).2.2, (rise_spec h2).2.2, (rise_spec h3).2.2, fun m hm => ?_⟩
  have : x.votes m = false := by
    cases hv : x.votes m
    · rfl
    · have : x.learners.any x.votes = true := List.any_eq_true.2 ⟨m, hm, hv⟩
      rw [h4] at this; cases this
  simp only [Conf.votes, Bool.or_eq_false_iff, decide_eq_false_iff_not] at this
  exact this

theorem del_filter {n : Int} : ∀ {l : List Int} {i : Nat}, Rises l → l[i]? = some n → l.take i ++ l.drop (i + 1) = l.filter fun m => !decide (m = n)
  | [], i, _, h => by simp at h
  | x :: r, 0, hr, h => by
    simp at h; subst h
    have hr' := List.pairwise_cons.1 hr
    simp only [List.take_zero, List.nil_append, List.drop_succ_cons, List.drop_zero, List.filter_cons, decide_true, Bool.not_true, Bool.false_eq_true, if_false]
    rw [List.filter_eq_self.2]
    intro m hm
    have := hr'.1 m hm
    simp; omega
  | x :: r, i + 1, hr, h => by
    have hr' := List.pairwise_cons.1 hr
    simp at h
    have hm : n ∈ r := List.mem_of_getElem? h
    have hlt := hr'.1 n hm
    have hne : ¬ x = n := by omega
    simp only [List.take_succ_cons, List.drop_succ_cons, List.cons_append, List.filter_cons, decide_eq_false hne, Bool.not_false, if_true]
    rw [del_filter hr'.2 h]

theorem may_zero {x : Conf} {n : Int} (h : x.may n = 0) : x.right = true ∧ 1 ≤ n ∧ n ≤ 7 ∧ x.new = [] ∧ x.learners = [] := by
  simp only [Conf.may] at h
  split at h
  · cases h
  · rename_i h1
    split at h
    · cases h
    · rename_i h2
      split at h
      · cases h
      · rename_i h3
        simp only [Conf.busy, decide_eq_true_eq] at h3
        refine ⟨by simpa using h1, by omega, by omega, List.eq_nil_of_length_eq_zero (by omega), List.eq_nil_of_length_eq_zero (by omega)⟩

theorem conf_Drop_ok {P : Program} {f m s k d : FuncId} (hf : Is P f (c_conf_Drop m s k d)) (hm : MayOk P m) (hs : IndexOk P s) (hk : CloneOk P k) (hd : DeleteOk P d) : StepOk P f Conf.drop := by
  refine ⟨hf.2, fun F h x a n ha hx => fun_sound hf.1 (Nat.le_of_ble_eq_true rfl) ?_⟩
  show vc P (c_conf_Drop m s k d).code ⟨[(0, .agg a), (1, .int .i64 n)], [], h⟩ (atEnd (c_conf_Drop m s k d).res _)
  have ha2 := ha
  obtain ⟨o, u, e, rfl, ho, hn, he⟩ := rd_conf ha
  obtain ⟨h1, h2, h3⟩ := id hx
  simp only [c_conf_Drop, go_sem, reduceIte, Nat.reduceEqDiff, Nat.reduceAdd, Nat.reduceLeDiff, Nat.reducePow, Nat.reduceDiv, Nat.reduceMod, decide_true, ho.scalar, hn.scalar, he.scalar]
  refine use1 hm.1 (hm.2 F _ x _ n (ha2.up (Ext.b2 _ _)) hx) ?_
  by_cases c0 : x.may n = 0
  rotate_left
  · have nz : (!decide (x.may n = 0)) = true := by simp [c0]
    simp only [go_sem, reduceIte, Nat.reduceEqDiff, Nat.reduceAdd, Nat.reduceLeDiff, Nat.reducePow, Nat.reduceDiv, Nat.reduceMod, decide_true, nz]
    have ee : x.drop n = (.no, x.may n) := by simp [Conf.drop, c0]
    rw [ee]
    exact ⟨_, rfl, own_no, Ext.b2 _ _⟩
  simp only [go_sem, reduceIte, Nat.reduceEqDiff, Nat.reduceAdd, Nat.reduceLeDiff, Nat.reducePow, Nat.reduceDiv, Nat.reduceMod, decide_true, c0, nz0]
  refine use1 hs.1 (hs.2 F _ x.old o n (ho.up (Ext.b2 _ _)) (by omega)) ?_
  rcases findAt_first n x.old 0 with ⟨hf1, hni⟩ | ⟨i, hi, hf1, hat⟩
  · simp only [go_sem, reduceIte, Nat.reduceEqDiff, Nat.reduceAdd, Nat.reduceLeDiff, Nat.reducePow, Nat.reduceDiv, Nat.reduceMod, decide_true, hf1, show decide ((-1 : Int) < 0) = true from rfl]
    have ee : x.drop n = (.no, 6) := by simp [Conf.drop, c0, hni]
    rw [ee]
    exact ⟨_, rfl, own_no, Ext.b2 _ _⟩
  simp only [Nat.zero_add] at hf1
  have hin : n ∈ x.old := List.mem_of_getElem? hat
  have cn : ¬ (i : Int) < 0 := by omega
  have e1 : IntKind.i64.wrap (↑i + 1) = (i : Int) + 1 := wrap_i64 (by omega)
  have lo := ho.ints_len
  simp only [go_sem, reduceIte, Nat.reduceEqDiff, Nat.reduceAdd, Nat.reduceLeDiff, Nat.reducePow, Nat.reduceDiv, Nat.reduceMod, decide_true, hf1, decide_eq_false cn, lo]
  by_cases c1 : (x.old.length : Int) = 1
  · simp only [go_sem, reduceIte, Nat.reduceEqDiff, Nat.reduceAdd, Nat.reduceLeDiff, Nat.reducePow, Nat.reduceDiv, Nat.reduceMod, decide_true, decide_eq_true c1]
    have c1' : x.old.length = 1 := by omega
    have ee : x.drop n = (.no, 29) := by simp [Conf.drop, c0, hin, c1']
    rw [ee]
    exact ⟨_, rfl, own_no, Ext.b2 _ _⟩
  simp only [go_sem, reduceIte, Nat.reduceEqDiff, Nat.reduceAdd, Nat.reduceLeDiff, Nat.reducePow, Nat.reduceDiv, Nat.reduceMod, decide_true, decide_eq_false c1, e1]
  have c1' : ¬ x.old.length = 1 := by omega
  have ee : x.drop n = (⟨x.old, x.old.filter (fun m => !decide (m = n)), []⟩, 0) := by simp [Conf.drop, c0, hin, c1']
  rw [ee]
  refine wCall_use ⟨hk.1, hk.2 F _ x.old o (ho.up (Ext.b2 _ _)) (by omega)⟩ ?_
  rintro r H ⟨ro, _, rx⟩
  have A := rx.get (bx20 _ _ _)
  have B := rx.get (bx21 _ _ _)
  simp only [go_sem, reduceIte, Nat.reduceEqDiff, Nat.reduceAdd, Nat.reduceLeDiff, Nat.reducePow, Nat.reduceDiv, Nat.reduceMod, decide_true, A, B]
  refine wCall_use ⟨hk.1, hk.2 F _ x.old o ((ho.up (Ext.b2 _ _)).up rx) (by omega)⟩ ?_
  rintro q H2 ⟨qo, _, qx⟩
  simp only [go_sem, reduceIte, Nat.reduceEqDiff, Nat.reduceAdd, Nat.reduceLeDiff, Nat.reducePow, Nat.reduceDiv, Nat.reduceMod, decide_true, qx.get A, qx.get B]
  refine wCall_use ⟨hd.1, hd.2 _ _ x.old q i qo (by omega) hi⟩ ?_
  rintro v H3 ⟨vo, vx⟩
  rw [del_filter (right_spec (may_zero c0).1).2.1 hat] at vo
  have X3 := qx.then vx (fun m hm hm' => by omega)
  have B3 := X3.get B
  have hl := rx.1
  have hl2 := qx.1
  have hl3 := vx.1
  simp only [len_app1] at hl
  have l2 : h.length + 1 < H3.length := by omega
  simp only [go_sem, reduceIte, Nat.reduceEqDiff, Nat.reduceAdd, Nat.reduceLeDiff, Nat.reducePow, Nat.reduceDiv, Nat.reduceMod, decide_true, X3.get A, B3, ro.scalar, cells_of ro.scalar, vo.scalar, cells_of vo.scalar, l2, List.length_set]
  refine ⟨_, rfl, own_conf ?_ ?_ (Own.nils 1), ?_⟩
  · simp only [len_app1] at ro
    exact own_setOff (Own.mono (F' := fun m => h.length + 1 + 1 ≤ m) _ (fun m hm => hm.1) (X3.keep _) _ (Own.lt _ _ ro)) (by omega) _ (by omega)
  · exact own_setOff vo (by omega) _ (by omega)
  · exact ((Ext.b2 _ _).tr rx).tr X3 |>.setNew (by omega) _

theorem gleberef16_Drop_ok {P : Program} {f m s k : FuncId} (hf : Is P f (c_gleberef16_Drop m s k)) (hm : MayOk P m) (hs : HasOk P s) (hk : CloneOk P k) : StepOk P f Conf.drop := by
  refine ⟨hf.2, fun F h x a n ha hx => fun_sound hf.1 (Nat.le_of_ble_eq_true rfl) ?_⟩
  show vc P (c_gleberef16_Drop m s k).code ⟨[(0, .agg a), (1, .int .i64 n)], [], h⟩ (atEnd (c_gleberef16_Drop m s k).res _)
  have ha2 := ha
  obtain ⟨o, u, e, rfl, ho, hn, he⟩ := rd_conf ha
  obtain ⟨h1, h2, h3⟩ := id hx
  simp only [c_gleberef16_Drop, go_sem, reduceIte, Nat.reduceEqDiff, Nat.reduceAdd, Nat.reduceLeDiff, Nat.reducePow, Nat.reduceDiv, Nat.reduceMod, decide_true, ho.scalar, hn.scalar, he.scalar]
  refine use1 hm.1 (hm.2 F _ x _ n (ha2.up (Ext.b2 _ _)) hx) ?_
  by_cases c0 : x.may n = 0
  rotate_left
  · have nz : (!decide (x.may n = 0)) = true := by simp [c0]
    simp only [go_sem, reduceIte, Nat.reduceEqDiff, Nat.reduceAdd, Nat.reduceLeDiff, Nat.reducePow, Nat.reduceDiv, Nat.reduceMod, decide_true, nz]
    have ee : x.drop n = (.no, x.may n) := by simp [Conf.drop, c0]
    rw [ee]
    exact ⟨_, rfl, own_no, Ext.b2 _ _⟩
  simp only [go_sem, reduceIte, Nat.reduceEqDiff, Nat.reduceAdd, Nat.reduceLeDiff, Nat.reducePow, Nat.reduceDiv, Nat.reduceMod, decide_true, c0, nz0]
  refine use1 hs.1 (hs.2 F _ x.old o n (ho.up (Ext.b2 _ _)) (by omega)) ?_
  have lo := ho.ints_len
  by_cases hin : n ∈ x.old
  rotate_left
  · simp only [go_sem, reduceIte, Nat.reduceEqDiff, Nat.reduceAdd, Nat.reduceLeDiff, Nat.reducePow, Nat.reduceDiv, Nat.reduceMod, decide_true, decide_eq_false hin]
    have ee : x.drop n = (.no, 6) := by simp [Conf.drop, c0, hin]
    rw [ee]
    exact ⟨_, rfl, own_no, Ext.b2 _ _⟩
  simp only [go_sem, reduceIte, Nat.reduceEqDiff, Nat.reduceAdd, Nat.reduceLeDiff, Nat.reducePow, Nat.reduceDiv, Nat.reduceMod, decide_true, decide_eq_true hin, lo]
  by_cases c1 : (x.old.length : Int) = 1
  · simp only [go_sem, reduceIte, Nat.reduceEqDiff, Nat.reduceAdd, Nat.reduceLeDiff, Nat.reducePow, Nat.reduceDiv, Nat.reduceMod, decide_true, decide_eq_true c1]
    have c1' : x.old.length = 1 := by omega
    have ee : x.drop n = (.no, 29) := by simp [Conf.drop, c0, hin, c1']
    rw [ee]
    exact ⟨_, rfl, own_no, Ext.b2 _ _⟩
  simp only [go_sem, reduceIte, Nat.reduceEqDiff, Nat.reduceAdd, Nat.reduceLeDiff, Nat.reducePow, Nat.reduceDiv, Nat.reduceMod, decide_true, decide_eq_false c1]
  have c1' : ¬ x.old.length = 1 := by omega
  have ee : x.drop n = (⟨x.old, x.old.filter (fun m => !decide (m = n)), []⟩, 0) := by simp [Conf.drop, c0, hin, c1']
  rw [ee]
  have bxA := bx20 h (some (.arr 3 [[o, u, e]] false)) (some (.arr 3 [[.nils, .nils, .nils]] false))
  have bxB := bx21 h (some (.arr 3 [[o, u, e]] false)) (some (.arr 3 [[.nils, .nils, .nils]] false))
  have hoH := ho.up (Ext.b2 (some (.arr 3 [[o, u, e]] false)) (some (.arr 3 [[.nils, .nils, .nils]] false)))
  have hX0 := Ext.b2 (h := h) (some (.arr 3 [[o, u, e]] false)) (some (.arr 3 [[.nils, .nils, .nils]] false))
  have hlen : (h ++ [some (ABlk.arr 3 [[o, u, e]] false)] ++ [some (ABlk.arr 3 [[.nils, .nils, .nils]] false)]).length = h.length + 1 + 1 := by simp
  generalize h ++ [some (ABlk.arr 3 [[o, u, e]] false)] ++ [some (ABlk.arr 3 [[.nils, .nils, .nils]] false)] = H0 at *
  refine vc_loop (fun m L h' => ∃ (i : Nat) (q : AV), lk 1 L = .int .i64 n ∧ lk 2 L = .ptr h.length 3 0 0 ∧ lk 4 L = .ptr (h.length + 1) 3 0 0 ∧ lk 5 L = .int .i64 0 ∧ lk 7 L = q ∧ lk 8 L = .int .i64 i ∧ Own (dInts ((x.old.take i).filter fun m => !decide (m = n))) (fun m => H0.length ≤ m) h' q ∧ canApp h' q ∧ Ext nof H0 h' ∧ i ≤ x.old.length ∧ m = x.old.length - i) x.old.length ?_ ?_
  · exact ⟨0, .nils, by simp [lk_ins, lk_cons], by simp [lk_ins, lk_cons], by simp [lk_ins, lk_cons], by simp [lk_ins, lk_cons], by simp [lk_ins, lk_cons], by simp [lk_ins], Own.nils 1, trivial, Ext.refl _ _, by omega, by omega⟩
  · rintro m L H1 ⟨i, q, k1, k2, k4, k5, k7, k8, hO, hA, hE, hi, rfl⟩
    have A := hE.get bxA
    have B := hE.get bxB
    simp only [c_gleberef16_Drop_l0, go_sem, reduceIte, Nat.reduceEqDiff, Nat.reduceAdd, Nat.reduceLeDiff, Nat.reducePow, Nat.reduceDiv, Nat.reduceMod, decide_true, k1, k2, k4, k5, k7, k8, A, lo]
    refine wCond_split (fun ci => ?_) (fun ci => ?_)
    · simp at ci
      obtain ⟨p, hp, hv⟩ := (hoH.up hE).int_at ci
      have e1 : IntKind.i64.wrap (↑i + 1) = (i : Int) + 1 := wrap_i64 (by omega)
      have hfl : (x.old.take (i + 1)).filter (fun m => !decide (m = n)) = (x.old.take i).filter (fun m => !decide (m = n)) ++ if x.old[i] = n then [] else [x.old[i]] := by
        rw [List.take_succ_eq_append_getElem ci, List.filter_append]
        congr 1
        by_cases c : x.old[i] = n <;> simp [c]
      have hyl := List.length_filter_le (fun m => !decide (m = n)) (x.old.take i)
      simp only [List.length_take] at hyl
      simp only [go_sem, reduceIte, Nat.reduceEqDiff, Nat.reduceAdd, Nat.reduceLeDiff, Nat.reducePow, Nat.reduceDiv, Nat.reduceMod, decide_true, k1, k2, k4, k5, k7, k8, A, hp, hv]
      by_cases c : x.old[i] = n
      · rw [if_pos c, List.append_nil] at hfl
        simp only [go_sem, reduceIte, Nat.reduceEqDiff, Nat.reduceAdd, Nat.reduceLeDiff, Nat.reducePow, Nat.reduceDiv, Nat.reduceMod, decide_true, decide_eq_true c, k1, k2, k4, k5, k7, k8, e1]
        exact ⟨_, by omega, i + 1, q, rfl, by simp, by rw [hfl]; exact hO, hA, hE, ci, rfl⟩
      · rw [if_neg c] at hfl
        obtain ⟨o2, H2, s1, s2, s3, s4⟩ := own_app (bytes := 8) (es := [[.int .i64 x.old[i]]]) (h := H1 ++ [some (.arr 1 [[.int .i64 x.old[i]]] false)]) hO hA (Ext.app _ _ _) (ys := [[.int .i64 x.old[i]]])
          (by simp [OwnLL, OwnL, Own]) hE.1 (by simp; omega)
        simp only [go_sem, reduceIte, Nat.reduceEqDiff, Nat.reduceAdd, Nat.reduceLeDiff, Nat.reducePow, Nat.reduceDiv, Nat.reduceMod, decide_true, decide_eq_false c, k1, k2, k4, k5, k7, k8, A, hp, hv, aappend_of (aelems_new H1 1 [[.int .i64 x.old[i]]] false (some 1) (len := 1) rfl), s1, e1]
        exact ⟨_, by omega, i + 1, o2, rfl, by simp, by rw [hfl, dInts, List.map_append]; exact s2, s3, (hE.tr (Ext.b1 _)).then s4 (fun m hm hm' => by omega), ci, rfl⟩
    · simp at ci
      obtain rfl : i = x.old.length := by omega
      rw [List.take_length] at hO
      simp only [go_sem, reduceIte, Nat.reduceEqDiff, Nat.reduceAdd, Nat.reduceLeDiff, Nat.reducePow, Nat.reduceDiv, Nat.reduceMod, decide_true, k1, k2, k4, k5, k7, k8, A]
      refine wCall_use ⟨hk.1, hk.2 F _ x.old o (hoH.up hE) (by omega)⟩ ?_
      rintro r H2 ⟨ro, _, rx⟩
      have hl := hE.1
      have hl2 := rx.1
      have l2 : h.length + 1 < H2.length := by omega
      simp only [go_sem, reduceIte, Nat.reduceEqDiff, Nat.reduceAdd, Nat.reduceLeDiff, Nat.reducePow, Nat.reduceDiv, Nat.reduceMod, decide_true, k1, k2, k4, k5, k7, k8, rx.get A, rx.get B, ro.scalar, cells_of ro.scalar, hO.scalar, cells_of hO.scalar, l2, List.length_set]
      refine ⟨_, rfl, own_conf ?_ ?_ (Own.nils 1), ?_⟩
      · exact own_setOff ro (by omega) _ (by omega)
      · exact own_setOff (Own.mono (F' := fun m => H0.length ≤ m) _ (fun m hm => hm) (rx.keep _) _ hO) (by omega) _ (by omega)
      · exact ((hX0.tr hE).tr rx).setNew (by omega) _

end Glb
