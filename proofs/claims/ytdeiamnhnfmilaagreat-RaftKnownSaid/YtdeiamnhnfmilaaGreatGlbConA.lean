/-
  A library of its own: its parts, one behind the other.
-/
import Derived.Test.YtdeiamnhnfmilaaGreatGlbQuoB
import Derived.Test.YtdeiamnhnfmilaaGreatGlbMorA
import Derived.Test.YtdeiamnhnfmilaaGreatGlbCconf
set_option linter.unusedSimpArgs false
set_option linter.unusedVariables false
namespace Glb
open Go
open Nat (reduceEqDiff)
set_option maxRecDepth 10000
set_option maxHeartbeats 4000000
theorem Gam.stay {G : Gh} {w w' : World} {h : AHeap} (g : Gam G w h) (hr : Rest w w') (same : ∀ b, b < w.heap.size -> w'.heap[b]? = w.heap[b]?) : Gam G w' h /\ Stp G w G w' := by
  have hsz := hr.2.2.1
  have sh : ∀ b, (w.shape? b).isSome -> w'.shape? b = w.shape? b := fun b hb => by
    have hlt : b < w.heap.size := by
      apply Classical.byContradiction; intro hn
      simp only [World.shape?, Array.getElem?_eq_none (Nat.le_of_not_lt hn)] at hb
      exact absurd hb (by simp)
    simp only [World.shape?, same b hlt]
  have k : Keeps G w G w' := ⟨Nat.le_refl _, fun _ _ _ h => h, fun _ _ h => h, fun _ _ h => h, fun t b hp => same b (g.protLt hp), sh⟩
  exact ⟨{ len := g.len, live := g.live, tag := g.tag, inj := g.inj, liveTag := g.liveTag, liveS := g.liveS, tagInj := g.tagInj, tagS := g.tagS,
           tagLt := fun n b hb => Nat.lt_of_lt_of_le (g.tagLt n b hb) hsz, sLt := fun b hb => Nat.lt_of_lt_of_le (g.sLt b hb) hsz,
           arr := fun n sz es gr b hn hb => (g.arr n sz es gr b hn hb).keep k (same b (g.locLt (g.mkLive hn hb) hb)), nil := g.nil, nilLoc := g.nilLoc,
           map := fun n es b hn hb => (g.map n es b hn hb).keep k (same b (g.locLt (g.mkLiveM hn hb) hb)) },
    k, ⟨fun _ h => h, fun _ h => .inl h⟩, fun _ _ => rfl, fun _ _ => Iff.rfl, hsz, fun b hb _ => same b hb, fun b hb => .inl hb, hr⟩
structure CloneKit (P : Program) (f : FuncId) : Prop where
 zero : ∀ (a : Addr) (c : Nat) (w : World), Calls P f #[.slice (some a) 0 c] w fun e w' => ∃ a' c', e = .returned (.slice (some a') 0 c') /\ a'.spot = none /\ Rest w w' /\ ∀ k, k < w.heap.size -> w'.heap[k]? = w.heap[k]?
def CloneOk (P : Program) (f : FuncId) : Prop :=
 isFn P f = true /\ ∀ (F : Nat -> Prop) (h : AHeap) (l : List Int) (a : AV), Rd F h (dInts l) a -> l.length <= 2^40 -> ACalls P f [a] h fun r h' => Own (dInts l) (fun m => h.length <= m) h' r /\ (l ≠ [] -> canApp h' r) /\ Ext nof h h'
def anileq (b : Bool) (x : AV) : Option AV := if sliceish x then (anil x).map fun c => .bool (c != b) else none
theorem rev_nileq (g : Opd -> AV) (h : AHeap) (b : Bool) (x : Opd) : rev g h (.nileq b x) = anileq b (g x) := Eq.trans rfl rfl
theorem one_arg {G w} {a : AV} {vs : Array Value} (hv : VL G w [a] vs) : ∃ v, vs = #[v] /\ V G w a v := by
 have := hv.1
 match vs with
 | ⟨[v]⟩ => exact ⟨v, rfl, hv.2 0 a v rfl rfl⟩
 | ⟨[]⟩ => simp at this
 | ⟨_ :: _ :: _⟩ => simp at this
theorem one_args {G w} {a : AV} {v : Value} (hv : V G w a v) : VL G w [a] #[v] := ⟨rfl, fun j c v' hc hv' => by
 cases j with
 | zero => simp at hc hv'; subst hc; subst hv'; exact hv
 | succ j => simp at hc⟩
theorem Clone_ok {P : Program} {f : FuncId} (hf : Is P f c_slices_Clone_int_int) (hk : CloneKit P f) : CloneOk P f := by
 refine ⟨hf.2, fun F h l a ha hl => ?_⟩
 by_cases h0 : l = []
 ·subst h0
  intro G w vs g hv
  obtain ⟨v, rfl, hV⟩ := one_arg hv
  have hz : v = .slice none 0 0 \/ ∃ p c, v = .slice (some p) 0 c := by
   simp only [dInts, List.map_nil, Rd, RdLL] at ha
   obtain ⟨es, he, rfl⟩ := ha
   rcases he with ⟨rfl, _⟩ | ⟨t, c, rfl⟩ | ⟨n, off, len, cap, row, gr, rfl, _, hrow, hle, hcl, hes⟩
   ·cases hV; exact .inl rfl
   ·generalize hee : ([] : List (List AV)) = es at hV
    cases hV with
    | valsNil => exact .inl rfl
    | vals => subst hee; exact .inr ⟨_, _, rfl⟩
   ·have h1 : len = 0 := by
     have := congrArg List.length hes
     simp at this; omega
    subst h1
    cases hV with
    | refNil => exact .inl rfl
    | ref => exact .inr ⟨_, _, rfl⟩
  rcases hz with rfl | ⟨p, c, rfl⟩
  ·have : ACalls P f [.nils] h fun r h' => Own (dInts []) (fun m => h.length <= m) h' r /\ (([] : List Int) ≠ [] -> canApp h' r) /\ Ext nof h h' := by
    refine fun_sound hf.1 (Nat.le_of_ble_eq_true rfl) ?_
    show vc P c_slices_Clone_int_int.code ⟨[(0, .nils)], [], h⟩ (atEnd c_slices_Clone_int_int.res _)
    have an : anileq false .nils = some (.bool true) := rfl
    simp only [c_slices_Clone_int_int, go_sem, reduceEqDiff, rev_nileq, an]
    exact ⟨Own.nils 1, fun h => absurd rfl h, Ext.refl _ _⟩
   exact this G w _ g (one_args .nils)
  ·refine (hk.zero p c w).mono ?_
   rintro e w' ⟨a', c', rfl, hsp, hr, hs⟩
   obtain ⟨g', s'⟩ := g.stay hr hs
   refine ⟨_, .vals 0 false 1 [], h, G, rfl, ⟨?_, fun h => absurd rfl h, Ext.refl _ _⟩, g', ?_, s'⟩
   ·simp only [dInts, List.map_nil, Own]; exact .inr (.inl ⟨0, false, rfl, trivial⟩)
   ·exact V.vals (G := G) (w := w') 0 false 1 [] a' c' (fun _ _ => undef) (Nat.zero_le _) (fun e => by cases e) (fun _ => hsp) (fun hne => absurd rfl hne) (fun e he => by simp at he) (fun i j c hj => by simp [getc] at hj) (fun i j c hj => by simp [getc] at hj)
 ·refine fun_sound hf.1 (Nat.le_of_ble_eq_true rfl) ?_
  show vc P c_slices_Clone_int_int.code ⟨[(0, a)], [], h⟩ (atEnd c_slices_Clone_int_int.res _)
  have an : anileq false a = some (.bool false) := by
   have hpos : 0 < l.length := List.length_pos_iff.2 h0
   have hl' := ha.ints_len
   simp only [dInts, Rd] at ha
   obtain ⟨es, he, hes⟩ := ha
   have hlen := RdLL_length hes
   rw [List.length_map] at hlen
   rcases he with ⟨rfl, rfl⟩ | ⟨t, c, rfl⟩ | ⟨n, off, len, cap, row, gr, rfl, _, hrow, hle, hcl, rfl⟩
   ·simp at hlen; omega
   ·simp only [anileq, sliceish, anil, if_true]; rw [if_pos (by omega)]; rfl
   ·simp only [List.length_take, List.length_drop] at hlen
    simp only [anileq, sliceish, anil, if_true]; rw [if_pos (by omega)]; rfl
  obtain ⟨ys, hys, hyr⟩ := (ha.up (Ext.b1 (some (.arr 1 [] false)))).elems
  obtain ⟨o, h', hap, ho', hc', he'⟩ := own_app (lo := h.length) (sz := 1) (bytes := 8) (ds := []) (h0 := h ++ [some (.arr 1 [] false)]) (h := h ++ [some (.arr 1 [] false)]) (av := .ref h.length 1 0 0 (some 0))
   (by simp only [Own]; exact .inr (.inr ⟨_, 0, some 0, [], false, rfl, Nat.le_refl _, bx10 _ _, by simp, (fun c hc => by cases hc; simp), by simp [OwnLL]⟩))
   ⟨[], false, bx10 _ _, (fun h => by cases h), fun c hc => by cases hc; simp⟩ (Ext.refl nof _) (own_ints1 hyr) (by simp) (by simp; omega)
  have ha2 := aappend_of hys 8 (.ref h.length 1 0 0 (some 0))
  rw [hap] at ha2
  simp only [c_slices_Clone_int_int, go_sem, reduceEqDiff, rev_nileq, an, ha2]
  exact ⟨by simpa [dInts] using ho', fun _ => hc', (Ext.b1 _).then he' (fun m hm hm' => by omega)⟩
end Glb
namespace Glb
open Go
open Nat (reduceEqDiff)
set_option maxRecDepth 10000
set_option maxHeartbeats 8000000
theorem own_conf {F : Nat -> Prop} {h : AHeap} {x : Conf} {o n e : AV} (ho : Own (dInts x.old) F h o) (hn : Own (dInts x.new) F h n) (he : Own (dInts x.learners) F h e) : OwnL x.c F h [o, n, e] := by
 simp only [Conf.c, OwnL]; exact ⟨_, _, rfl, ho, _, _, rfl, hn, _, _, rfl, he, rfl⟩
theorem own_setOff {d : D} {lo n : Nat} {h : AHeap} {a : AV} (ho : Own d (fun m => lo <= m) h a) (hn : n < lo) (x : Option ABlk) {k : Nat} (hk : k <= lo) : Own d (fun m => k <= m) (h.set n x) a :=
 Own.mono _ (fun m hm => by omega) (fun m hm y hy => by rw [List.getElem?_set_ne (by omega)]; exact hy) _ ho
end Glb
namespace Glb
open Go
open Nat (reduceEqDiff)
set_option maxRecDepth 10000
set_option maxHeartbeats 8000000
theorem rise_spec : ∀ {l : List Int} {p : Option Int}, rise p l = true -> Rises l /\ (∀ y, p = some y -> ∀ m ∈ l, y < m) /\ ∀ m ∈ l, 1 <= m /\ m <= 7
 | [], _, _ => ⟨List.Pairwise.nil, by simp, by simp⟩
 | x :: r, p, h => by
  simp only [rise, Bool.and_eq_true, Bool.not_eq_true', Bool.or_eq_false_iff, decide_eq_false_iff_not] at h
  obtain ⟨⟨⟨h1, h2⟩, h3⟩, h4⟩ := h
  obtain ⟨g1, g2, g3⟩ := rise_spec h4
  refine ⟨List.pairwise_cons.2 ⟨g2 x rfl, g1⟩, fun y hy m hm => ?_, fun m hm => ?_⟩
  ·subst hy
   simp only [decide_eq_false_iff_not] at h3
   rcases List.mem_cons.1 hm with rfl | hm
   ·omega
   ·have := g2 x rfl m hm; omega
  ·rcases List.mem_cons.1 hm with rfl | hm
   ·omega
   ·exact g3 m hm
theorem right_spec {x : Conf} (h : x.right = true) : x.old.length ≠ 0 /\ Rises x.old /\ Rises x.new /\ Rises x.learners /\ (∀ m ∈ x.old, 1 <= m /\ m <= 7) /\ (∀ m ∈ x.new, 1 <= m /\ m <= 7) /\ (∀ m ∈ x.learners, 1 <= m /\ m <= 7) /\ (∀ m ∈ x.learners, m ∉ x.old /\ m ∉ x.new) := by
 simp only [Conf.right_eq, Bool.not_eq_true', Bool.or_eq_false_iff, decide_eq_false_iff_not, Bool.not_eq_false'] at h
 obtain ⟨⟨⟨⟨h0, h1⟩, h2⟩, h3⟩, h4⟩ := h
 refine ⟨h0, (rise_spec h1).1, (rise_spec h2).1, (rise_spec h3).1, (rise_spec h1).2.2, (rise_spec h2).2.2, (rise_spec h3).2.2, fun m hm => ?_⟩
 have : x.votes m = false := by
  cases hv : x.votes m
  ·rfl
  ·have : x.learners.any x.votes = true := List.any_eq_true.2 ⟨m, hm, hv⟩
   rw [h4] at this; cases this
 simp only [Conf.votes, Bool.or_eq_false_iff, decide_eq_false_iff_not] at this
 exact this
end Glb
