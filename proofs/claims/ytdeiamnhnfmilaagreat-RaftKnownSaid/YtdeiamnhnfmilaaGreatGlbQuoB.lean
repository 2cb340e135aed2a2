/-
  A library of its own: its parts, one behind the other.
-/
import Derived.Test.YtdeiamnhnfmilaaGreatGlbQuoA
import Derived.Sort.Grow
set_option linter.unusedSimpArgs false
set_option linter.unusedVariables false
namespace Glb
open Go
open Nat (reduceAdd reduceEqDiff)
set_option maxRecDepth 10000
set_option maxHeartbeats 4000000
structure SortKit (P : Program) (f : FuncId) : Prop where
 is : isFn P f = true
 some_ : ∀ (blk off cap : Nat) (zs : List Int) (w : World), Go.Sort.Holds (Value.int .i64) w blk off zs.toArray -> blk < w.heap.size -> zs.length < 4611686018427387904 ->
  Calls P f #[.slice (some ⟨blk, off, none⟩) zs.length cap] w fun e w' => e = .returned (.tuple #[]) /\ ∃ n os, w' = Go.Sort.grow (Go.Sort.putRow (Value.int .i64) (Go.Sort.ahead w n) blk off (zs.mergeSort fun x y => decide (x <= y)).toArray) os
 none_ : ∀ (p : Option Addr) (cap : Nat) (w : World), Calls P f #[.slice p 0 cap] w fun e w' => e = .returned (.tuple #[]) /\ w' = w
def sorted (l : List Int) : List Int := l.mergeSort fun x y => decide (x <= y)
theorem sorted_length (l : List Int) : (sorted l).length = l.length := List.length_mergeSort _
def SortOk (P : Program) (f : FuncId) : Prop :=
 isFn P f = true /\ ∀ (F : Nat -> Prop) (h : AHeap) (l : List Int) (a : AV), Own (dInts l) F h a -> l.length <= 2^40 -> ACalls P f [a] h fun _ h' => Own (dInts (sorted l)) F h' a /\ Ext F h h'
theorem sort_ok {P : Program} {f : FuncId} (hk : SortKit P f) : SortOk P f := by
 refine ⟨hk.is, fun F h l a ho hl G w vs g hv => ?_⟩
 obtain ⟨v, rfl⟩ : ∃ v, vs = #[v] := by
  have := hv.1
  match vs with
  | ⟨[v]⟩ => exact ⟨v, rfl⟩
  | ⟨[]⟩ => simp at this
  | ⟨_ :: _ :: _⟩ => simp at this
 have hV : V G w a v := hv.2 0 a v rfl rfl
 have nil : ∀ p cap, v = .slice p 0 cap -> l = [] -> Calls P f #[v] w fun e w' => ∃ v r h' G', e = .returned v /\ (Own (dInts (sorted l)) F h' a /\ Ext F h h') /\ Gam G' w' h' /\ V G' w' r v /\ Stp G w G' w' := by
  rintro p cap rfl rfl
  refine (hk.none_ p cap w).mono ?_
  rintro e w' ⟨rfl, rfl⟩
  exact ⟨_, .top, h, G, rfl, ⟨by simpa [sorted] using ho, Ext.refl _ _⟩, g, .top _, Stp.refl G w'⟩
 have ho' := ho
 simp only [dInts, Own] at ho
 rcases ho with ⟨rfl, e⟩ | ⟨t, c, rfl, e⟩ | ⟨n, off, cap, row, gr, rfl, hF, hrow, hle, hcap, hes⟩
 ·have : l = [] := by simpa using e
  cases hV; exact nil _ _ rfl this
 ·have : l = [] := by simpa using e
  cases hV with
  | valsNil => exact nil _ _ rfl this
  | vals => exact nil _ _ rfl this
 ·rw [List.length_map] at hes hle hcap hV
  have hr := ownLL_ints_eq hes
  generalize hlen : l.length = len at hV
  cases hV with
  | refNil => exact nil _ _ rfl (List.eq_nil_of_length_eq_zero hlen)
  | ref _ _ _ _ _ c ty m b hn hb hlc hcapc hs hm =>
   subst hlen
   have hlive := g.mkLive hrow hb
   have hblt := g.locLt hlive hb
   obtain ⟨⟨cells, ty', hcs, h1, h2, h3⟩, hok⟩ := g.arr n 1 row gr b hrow hb
   have hat : ∀ i (hi : i < l.length), cells[off + i]? = some (.int .i64 l[i]) := by
    intro i hi
    have : getc row (off + i) 0 = some (.int .i64 l[i]) := by
     have h0 : ((row.drop off).take l.length)[i]? = some [.int .i64 l[i]] := by rw [hr]; simp [hi]
     rw [List.getElem?_take_of_lt hi, List.getElem?_drop] at h0
     simp [getc, h0]
    obtain ⟨v, hv, hV⟩ := h3 _ _ _ this
    cases hV
    simpa using hv
   have hH : Go.Sort.Holds (Value.int .i64) w b off l.toArray := by
    intro j hj
    have hj' : j < l.length := by simpa using hj
    refine ⟨?_, by simp [World.frozen?, hcs]⟩
    have hget : l.toArray[j]! = l[j] := by simp [hj']
    rw [hget]
    simp only [World.cell?, hcs, Option.isSome_none, Bool.false_eq_true, if_false]
    exact hat j hj'
   have hcall := hk.some_ b off c l w hH hblt (by omega)
   rw [Nat.mul_one]
   refine hcall.mono ?_
   rintro e w' ⟨rfl, n0, os, rfl⟩
   have hsl : (sorted l).length = l.length := sorted_length l
   simp only [List.length_map]
   have hsd : (l.mergeSort fun x y => decide (x <= y)) = sorted l := rfl
   rw [hsd]
   generalize hw' : Go.Sort.grow (Go.Sort.putRow (Value.int .i64) (Go.Sort.ahead w n0) b off (sorted l).toArray) os = w'
   have hold : ∀ k, k < w.heap.size -> k ≠ b -> w'.heap[k]? = w.heap[k]? := by
    intro k hk hne
    subst hw'
    rw [Go.Sort.heap_grow_old _ _ (by simpa [Go.Sort.putRow, Go.Sort.mapBlock, Go.Sort.ahead] using hk)]
    simp [Go.Sort.putRow, Go.Sort.mapBlock, Go.Sort.ahead, Array.getElem?_modify]
    intro e; exact absurd e.symm hne
   have hnew : w'.heap[b]? = some (.cells (Go.Sort.putCells (Value.int .i64) off (sorted l).toArray cells) ty' (0, 0)) := by
    subst hw'
    rw [Go.Sort.heap_grow_old _ _ (by simpa [Go.Sort.putRow, Go.Sort.mapBlock, Go.Sort.ahead] using hblt)]
    simp [Go.Sort.putRow, Go.Sort.mapBlock, Go.Sort.ahead, Array.getElem?_modify, hcs, Go.Sort.onCells]
   have hsize : w.heap.size <= w'.heap.size := by subst hw'; simp [Go.Sort.putRow, Go.Sort.mapBlock, Go.Sort.ahead]
   have hpc : (Go.Sort.putCells (Value.int .i64) off (sorted l).toArray cells).size = cells.size := by simp [Go.Sort.putCells]
   have k : Keeps G w G w' := by
    refine ⟨Nat.le_refl _, fun _ _ _ h => h, fun _ _ h => h, fun _ _ h => h, fun t b' hp => hold b' (g.protLt hp) ?_, fun b' hb' => ?_⟩
    ·rintro rfl
     cases t with
     | zero => exact g.liveS n _ hlive hb hp
     | succ m => exact g.liveTag n m _ hlive hb hp
    ·by_cases e : b' = b
     ·subst e
      simp only [World.shape?, hnew, hcs, hpc]
     ·have hlt : b' < w.heap.size := by
       apply Classical.byContradiction; intro hn
       simp only [World.shape?, Array.getElem?_eq_none (Nat.le_of_not_lt hn)] at hb'
       exact absurd hb' (by simp)
      simp only [World.shape?, hold b' hlt e]
   let ys : List (List AV) := (sorted l).map fun n => [.int .i64 n]
   have hys : ys.length = l.length := by simp [ys, hsl]
   have hspl : (splice row off ys).length = row.length := by simp only [splice, List.length_append, List.length_take, List.length_drop, hys]; omega
   have hHol : Holds G w' b 1 (splice row off ys) gr := by
    refine ⟨⟨_, ty', hnew, by rw [hpc, hspl]; exact h1, fun e => by rw [hpc, hspl]; exact h2 e, fun i j c hj => ?_⟩, okes_splice hok (fun e he => ?_) off⟩
    ·have hpi : ∀ i, (Go.Sort.putCells (Value.int .i64) off (sorted l).toArray cells)[i]? = (cells[i]?).map fun x => if off <= i /\ i < off + (sorted l).toArray.size then Value.int .i64 (sorted l).toArray[i - off]! else x := by
      intro i; simp only [Go.Sort.putCells, Array.getElem?_mapIdx]
     rcases getc_splice (by omega) hj with ⟨hlt, hc⟩ | ⟨hge, hlt, hc⟩ | ⟨hge, hc⟩
     ·obtain ⟨v, hv, hV⟩ := h3 i j c hc
      have hj0 : j = 0 := by
       have := (hok _ (List.getElem_mem (show i < row.length by omega))).1
       simp only [getc] at hc
       rw [List.getElem?_eq_getElem (by omega : i < row.length)] at hc
       simp only [Option.bind_some] at hc
       have := (List.getElem?_eq_some_iff.1 hc).1
       omega
      subst hj0
      refine ⟨v, ?_, hV.keep k⟩
      rw [hpi, hv]; simp only [Nat.mul_one, Nat.add_zero, Option.map_some]
      rw [if_neg (by omega)]
     ·rw [hys] at hlt
      have hii : i - off < (sorted l).length := by omega
      simp only [getc, ys, List.getElem?_map, List.getElem?_eq_getElem hii, Option.map_some, Option.bind_some] at hc
      have hj0 : j = 0 := by have := (List.getElem?_eq_some_iff.1 hc).1; simpa using this
      subst hj0
      simp at hc
      subst hc
      have hci : (cells[i]?).isSome := by have := hat (i - off) (by omega); rw [show off + (i - off) = i by omega] at this; simp [this]
      obtain ⟨v0, hv0⟩ := Option.isSome_iff_exists.1 hci
      refine ⟨_, ?_, .int .i64 _⟩
      rw [hpi, Nat.mul_one, Nat.add_zero, hv0]
      simp only [Option.map_some]
      rw [if_pos ⟨hge, by simp; omega⟩]
      simp [hii]
     ·rw [hys] at hge
      obtain ⟨v, hv, hV⟩ := h3 i j c hc
      refine ⟨v, ?_, hV.keep k⟩
      rw [hpi, hv]; simp only [Option.map_some]
      rw [if_neg (by simp [hsl]; omega)]
    ·obtain ⟨x, _, rfl⟩ := List.mem_map.1 he
     exact ⟨rfl, rfl⟩
   refine ⟨_, .top, h.set n (some (.arr 1 (splice row off ys) gr)), G, rfl, ⟨?_, Ext.set _ (fun _ => hF)⟩, g.update hrow hb k hsize (fun m b' hm hb' hne => ?_) hHol, .top _, ?_⟩
   ·have hlt := (List.getElem?_eq_some_iff.1 hrow).1
    simp only [dInts, Own]
    refine .inr (.inr ⟨n, off, cap, _, gr, by simp [hsl], hF, List.getElem?_set_self hlt, by rw [hspl]; simpa [hsl] using hle, by simpa [hsl] using hcap, ?_⟩)
    have : ((splice row off ys).drop off).take ((sorted l).map fun n => ([.int .i64 n] : List D)).length = ys := by
     simp only [splice, List.length_map, hsl]
     have h1' : (row.take off).length = off := by simp; omega
     rw [List.append_assoc, List.drop_append_of_le_length (by omega), List.drop_of_length_le (by omega), List.nil_append, List.take_append_of_le_length (by omega), List.take_of_length_le (by omega)]
    rw [this]
    exact ownLL_ints .i64 _ _ _
   ·refine hold b' (g.locLt hm hb') ?_
    rintro rfl
    exact hne (g.inj m n _ hm hlive hb' hb)
   ·refine ⟨k, ⟨fun _ h => h, fun _ h => .inl h⟩, fun _ _ => rfl, fun _ _ => Iff.rfl, hsize, fun b' hb' hno => hold b' hb' ?_, fun b' hb' => .inl hb', ?_, ?_, hsize, fun x hx => ?_⟩
    ·rintro rfl; exact hno (.inl ⟨n, hlive, hb⟩)
    ·subst hw'; rfl
    ·subst hw'; rfl
    ·by_cases e : x.block = b
     ·simp only [World.frozen?, e, hnew, hcs]
     ·simp only [World.frozen?, hold _ hx e]
end Glb
namespace Glb
open Go
open Nat (reduceAdd reduceEqDiff)
set_option maxRecDepth 10000
set_option maxHeartbeats 4000000
def Rises (l : List Int) : Prop := l.Pairwise (· < ·)
theorem rises_ext : ∀ {a b : List Int}, Rises a -> Rises b -> (∀ n, n ∈ a ↔ n ∈ b) -> a = b
 | [], [], _, _, _ => rfl
 | [], y :: b, _, _, h => absurd ((h y).2 (by simp)) (by simp)
 | x :: a, [], _, _, h => absurd ((h x).1 (by simp)) (by simp)
 | x :: a, y :: b, ha, hb, h => by
  have ha' := List.pairwise_cons.1 ha
  have hb' := List.pairwise_cons.1 hb
  have hxy : x = y := by
   rcases List.mem_cons.1 ((h x).1 (by simp)) with e | e
   ·exact e
   ·rcases List.mem_cons.1 ((h y).2 (by simp)) with e' | e'
    ·exact e'.symm
    ·have := hb'.1 x e; have := ha'.1 y e'; omega
  subst hxy
  congr 1
  refine rises_ext ha'.2 hb'.2 fun n => ?_
  have := h n
  simp only [List.mem_cons] at this
  constructor
  ·intro hn
   rcases this.1 (.inr hn) with e | e
   ·have := ha'.1 n hn; omega
   ·exact e
  ·intro hn
   rcases this.2 (.inr hn) with e | e
   ·have := hb'.1 n hn; omega
   ·exact e
def lay (n : Int) : Bool -> List Int -> List Int
 | laid, [] => if laid then [] else [n]
 | laid, x :: r => if !laid && decide (n < x) then n :: x :: lay n true r else x :: lay n laid r
theorem lay_true (n : Int) : ∀ l, lay n true l = l
 | [] => rfl
 | x :: r => by simp only [lay, Bool.not_true, Bool.false_and, Bool.false_eq_true, if_false, lay_true n r]
def withI (l : List Int) (n : Int) : List Int := lay n (decide (n ∈ l)) l
theorem lay_rises {n : Int} : ∀ {l : List Int}, Rises l -> n ∉ l -> Rises (lay n false l) /\ ∀ m, m ∈ lay n false l ↔ m = n \/ m ∈ l
 | [], _, _ => by simp [lay, Rises]
 | x :: r, h, hn => by
  have h' := List.pairwise_cons.1 h
  simp only [lay, Bool.not_false, Bool.true_and, decide_eq_true_eq]
  split
  ·rename_i hlt
   rw [lay_true]
   refine ⟨List.pairwise_cons.2 ⟨fun y hy => ?_, h⟩, fun m => by simp⟩
   rcases List.mem_cons.1 hy with rfl | hy
   ·exact hlt
   ·have := h'.1 y hy; omega
  ·rename_i hlt
   obtain ⟨h1, h2⟩ := lay_rises (n := n) h'.2 (fun e => hn (by simp [e]))
   have hne : n ≠ x := fun e => hn (by simp [e])
   refine ⟨List.pairwise_cons.2 ⟨fun y hy => ?_, h1⟩, fun m => ?_⟩
   ·rcases (h2 y).1 hy with rfl | hy
    ·omega
    ·exact h'.1 y hy
   ·simp only [List.mem_cons, h2]
    constructor
    ·rintro (e | e | e) <;> simp [e]
    ·rintro (e | e | e) <;> simp [e]
theorem withI_rises {l : List Int} {n : Int} (h : Rises l) : Rises (withI l n) /\ ∀ m, m ∈ withI l n ↔ m = n \/ m ∈ l := by
 by_cases hn : n ∈ l
 ·simp only [withI, decide_eq_true hn, lay_true]
  exact ⟨h, fun m => ⟨.inr, fun e => e.elim (fun e => e ▸ hn) id⟩⟩
 ·simp only [withI, decide_eq_false hn]
  exact lay_rises h hn
def allI (l more : List Int) : List Int := more.foldl withI l
theorem allI_rises : ∀ {more l : List Int}, Rises l -> Rises (allI l more) /\ ∀ m, m ∈ allI l more ↔ m ∈ l \/ m ∈ more
 | [], l, h => ⟨h, fun m => by simp [allI]⟩
 | n :: r, l, h => by
  obtain ⟨h1, h2⟩ := withI_rises (n := n) h
  obtain ⟨h3, h4⟩ := allI_rises (more := r) h1
  refine ⟨h3, fun m => ?_⟩
  have := h4 m
  simp only [allI, List.foldl_cons] at this ⊢
  rw [this, h2]
  simp only [List.mem_cons]
  constructor
  ·rintro ((e | e) | e) <;> simp [e]
  ·rintro (e | e | e) <;> simp [e]
def uni (l : List Int) : List Int := allI [] l
theorem uni_rises (l : List Int) : Rises (uni l) /\ ∀ m, m ∈ uni l ↔ m ∈ l := by
 have := allI_rises (more := l) (l := []) List.Pairwise.nil
 exact ⟨this.1, fun m => by rw [uni, this.2]; simp⟩
theorem withI_length (l : List Int) (n : Int) : (withI l n).length <= l.length + 1 := by
 have : ∀ (l : List Int) (b : Bool), (lay n b l).length <= l.length + 1 := by
  intro l
  induction l with
  | nil => intro b; cases b <;> simp [lay]
  | cons x r ih =>
   intro b
   simp only [lay]
   split
   ·rw [lay_true]; simp
   ·simp only [List.length_cons]; have := ih b; omega
 exact this _ _
theorem allI_length : ∀ (more l : List Int), (allI l more).length <= l.length + more.length
 | [], l => by simp [allI]
 | n :: r, l => by
  have := allI_length r (withI l n)
  have h1 := withI_length l n
  simp only [allI, List.foldl_cons, List.length_cons] at this ⊢
  omega
theorem uni_length (l : List Int) : (uni l).length <= l.length := by have := allI_length l []; simpa [uni] using this
def Conf.voters (x : Conf) : List Int := uni (x.old ++ x.new)
def Conf.members (x : Conf) : List Int := uni (x.old ++ x.new ++ x.learners)
def dn (l : List Int) : Nat -> List Int
 | 0 => []
 | n + 1 => dn l n ++ (if n ≠ 0 /\ l[n]? = l[n - 1]? then [] else l[n]?.toList)
def ded (l : List Int) : List Int := dn l l.length
theorem dn_rises {l : List Int} (hs : l.Pairwise (· <= ·)) : ∀ n, n <= l.length -> Rises (dn l n) /\ (∀ m, m ∈ dn l n ↔ m ∈ l.take n)
 | 0, _ => by simp [dn, Rises]
 | n + 1, hn => by
  obtain ⟨h1, h2⟩ := dn_rises hs n (by omega)
  have hlt : n < l.length := by omega
  have hle : ∀ m ∈ l.take n, m <= l[n] := by
   intro m hm
   obtain ⟨i, hi, rfl⟩ := List.getElem_of_mem hm
   simp only [List.length_take] at hi
   rw [List.getElem_take]
   exact List.pairwise_iff_getElem.1 hs i n (by omega) hlt (by omega)
  have hmem : ∀ m, m ∈ l.take (n + 1) ↔ m ∈ l.take n \/ m = l[n] := by
   intro m; rw [List.take_succ_eq_append_getElem hlt]; simp only [List.mem_append, List.mem_singleton]
  simp only [dn]
  split
  ·rename_i hc
   rw [List.append_nil]
   refine ⟨h1, fun m => ?_⟩
   rw [h2, hmem]
   refine ⟨.inl, fun e => e.elim id (fun e => ?_)⟩
   subst e
   have e2 : l[n - 1]? = some l[n - 1] := List.getElem?_eq_getElem (by omega)
   rw [List.getElem?_eq_getElem hlt, e2] at hc
   have e3 : l[n] = l[n - 1] := Option.some.inj hc.2
   rw [e3]
   exact List.mem_take_iff_getElem.2 ⟨n - 1, by omega, rfl⟩
  ·rename_i hc
   rw [List.getElem?_eq_getElem hlt]
   refine ⟨List.pairwise_append.2 ⟨h1, by simp, fun a ha b hb => ?_⟩, fun m => by rw [List.mem_append, h2, hmem]; simp⟩
   simp at hb
   subst hb
   have ha' := (h2 a).1 ha
   have hle1 := hle a ha'
   apply Classical.byContradiction
   intro hnl
   have hae : a = l[n] := by omega
   obtain ⟨i, hi, hai⟩ := List.getElem_of_mem ha'
   simp only [List.length_take] at hi
   rw [List.getElem_take] at hai
   have hn0 : n ≠ 0 := by omega
   have e2 : l[n - 1]? = some l[n - 1] := List.getElem?_eq_getElem (by omega)
   have h3 : l[n - 1] <= l[n] := List.pairwise_iff_getElem.1 hs (n - 1) n (by omega) hlt (by omega)
   have h4 : l[i] <= l[n - 1] := by
    rcases Nat.lt_or_ge i (n - 1) with h | h
    ·exact List.pairwise_iff_getElem.1 hs i (n - 1) (by omega) (by omega) h
    ·have : i = n - 1 := by omega
     subst this; exact Int.le_refl _
   exact hc ⟨hn0, by rw [List.getElem?_eq_getElem hlt, e2]; congr 1; omega⟩
theorem ded_sorted (l : List Int) : ded (sorted l) = uni l := by
 have hs : (sorted l).Pairwise (· <= ·) := by
  have := List.pairwise_mergeSort (le := fun x y : Int => decide (x <= y)) (fun a b c h1 h2 => by simp at *; omega) (fun a b => by simp; omega) l
  exact this.imp fun h => by simpa using h
 obtain ⟨h1, h2⟩ := dn_rises hs (sorted l).length (Nat.le_refl _)
 obtain ⟨h3, h4⟩ := uni_rises l
 refine rises_ext h1 h3 fun m => ?_
 rw [h4, show ded (sorted l) = dn (sorted l) (sorted l).length from rfl, h2, List.take_length]
 exact List.mem_mergeSort
end Glb
namespace Glb
open Go
open Nat (reduceAdd reduceEqDiff)
set_option maxRecDepth 10000
set_option maxHeartbeats 4000000
def dIntss (ls : List (List Int)) : D := .sl 1 (ls.map fun l => [dInts l])
theorem Rd.ints_at {F : Nat -> Prop} {h : AHeap} {ls : List (List Int)} {a : AV} (hx : Rd F h (dIntss ls) a) {i : Nat} (hi : i < ls.length) :
  ∃ p v, aindex 1 a (.int .i64 i) = some p /\ aload h false 1 p = some v /\ Rd F h (dInts ls[i]) v := by
 obtain ⟨p, cs, hp, hpc, hcs⟩ := hx.index .i64 (i := i) (d := [dInts ls[i]]) (by omega) (by simp [hi])
 simp only [RdL] at hcs
 obtain ⟨v, _, rfl, hv, rfl⟩ := hcs
 exact ⟨p, v, hp, by rw [aload_p hpc]; exact take_one _ _ _, hv⟩
theorem flat_more {ls : List (List Int)} {i : Nat} (hi : i < ls.length) : (ls.take (i + 1)).flatten = (ls.take i).flatten ++ ls[i] := by
 rw [List.take_succ_eq_append_getElem hi, List.flatten_append]; simp only [List.flatten_cons, List.flatten_nil, List.append_nil]
theorem flat_le (ls : List (List Int)) (i : Nat) : (ls.take i).flatten.length <= ls.flatten.length := by
 have : ls.flatten = (ls.take i).flatten ++ (ls.drop i).flatten := by rw [<- List.flatten_append, List.take_append_drop]
 rw [this]; simp
def GrowOk (P : Program) (f : FuncId) : Prop :=
 isFn P f = true /\ ∀ (h : AHeap) (n : Nat), n <= 2^40 -> ACalls P f [.nils, .int .i64 n] h fun r h' => Own (dInts []) (fun m => h.length <= m) h' r /\ canApp h' r /\ Ext nof h h'
theorem rev_xo (g : Opd -> AV) (h : AHeap) (x : XOp) : rev g h (.x x) = xev g x := Eq.trans rfl rfl
theorem hev_appz (g : Opd -> AV) (h : AHeap) (sz bytes : Nat) (z : List AV) (x y : Opd) : hev g h (.appz sz bytes z x y) = aappendZ h sz bytes z (g x) (g y) := Eq.trans rfl rfl
theorem hev_clr (g : Opd -> AV) (h : AHeap) (sz : Nat) (z : List AV) (x : Opd) : hev g h (.clr sz z x) = (aclear h sz z (g x)).map fun h' => (.tup [], h') := Eq.trans rfl rfl
theorem Grow_ok {P : Program} {f : FuncId} (hf : Is P f c_slices_Grow_int_int) : GrowOk P f := by
 refine ⟨hf.2, fun h n hn => fun_sound hf.1 (Nat.le_of_ble_eq_true rfl) ?_⟩
 show vc P c_slices_Grow_int_int.code ⟨[(0, .nils), (1, .int .i64 n)], [], h⟩ (atEnd c_slices_Grow_int_int.res _)
 have c0 : ¬ (n : Int) < 0 := by omega
 have hlen : alen .nils = some (.int .i64 0) := rfl
 have e0 : IntKind.i64.wrap (0 - 0) = 0 := rfl
 have e1 : IntKind.i64.wrap ((n : Int) - 0) = n := by rw [Int.sub_zero, wrap_i64 (by omega)]
 have hs0 : aslice 1 .nils none (some 0) none = some .nils := rfl
 simp only [c_slices_Grow_int_int, go_sem, reduceEqDiff, decide_eq_false c0, rev_xo, xev, hlen, e0, e1]
 by_cases c1 : 0 < (n : Int)
 ·have hz : aappendZ h 1 8 [.int .i64 0] .nils (.int .i64 n) = some (.ref h.length 1 0 n none, h ++ [some (.arr 1 (List.replicate n [.int .i64 0]) true)]) := by
   simp only [aappendZ]; rw [if_pos ⟨by omega, by omega⟩]; simp only [aappendY]; rw [if_pos (by simp; omega)]; simp [append1]
  have hs : aslice 1 (.ref h.length 1 0 n none) none (some 0) none = some (.ref h.length 1 0 0 none) := by
   simp only [aslice, Option.getD_none, Option.getD_some]; rw [if_pos ⟨trivial, by omega, by omega, by omega, by omega, by omega⟩]; rfl
  simp only [go_sem, reduceEqDiff, decide_eq_true c1, aslc, hs0, hev_appz, rev_xo, xev, hlen, hz, hs]
  refine ⟨?_, ⟨_, _, bx10 _ _, fun _ => rfl, fun c hc => by cases hc⟩, Ext.b1 _⟩
  simp only [dInts, List.map_nil, Own]
  exact .inr (.inr ⟨_, 0, none, _, true, rfl, Nat.le_refl _, bx10 _ _, by simp, (fun c hc => by cases hc), by simp [OwnLL]⟩)
 ·simp only [go_sem, reduceEqDiff, decide_eq_false c1]
  exact ⟨Own.nils 1, trivial, Ext.refl _ _⟩
def ConcatOk (P : Program) (f : FuncId) : Prop :=
 isFn P f = true /\ ∀ (F : Nat -> Prop) (h : AHeap) (ls : List (List Int)) (a : AV), Rd F h (dIntss ls) a -> ls.length <= 2^40 -> ls.flatten.length <= 2^40 -> ACalls P f [a] h fun r h' => Own (dInts ls.flatten) (fun m => h.length <= m) h' r /\ Ext nof h h'
theorem Concat_ok {P : Program} {f g : FuncId} (hf : Is P f (c_slices_Concat_int_int g)) (hg : GrowOk P g) : ConcatOk P f := by
 refine ⟨hf.2, fun F h ls a ha hl ht => fun_sound hf.1 (Nat.le_of_ble_eq_true rfl) ?_⟩
 show vc P (c_slices_Concat_int_int g).code ⟨[(0, a)], [], h⟩ (atEnd (c_slices_Concat_int_int g).res _)
 have la : alen a = some (.int .i64 ls.length) := by simpa using ha.len
 simp only [c_slices_Concat_int_int, go_sem, reduceEqDiff, la]
 refine vc_loop (fun m L h' => ∃ i : Nat, lk 0 L = a /\ lk 9 L = a /\ lk 10 L = .int .i64 ls.length /\ lk 11 L = .int .i64 i /\ lk 3 L = .int .i64 (ls.take i).flatten.length /\ h = h' /\ i <= ls.length /\ m = ls.length - i) ls.length ?_ ?_
 ·exact ⟨0, by simp [lk_ins, lk_cons], by simp [lk_ins], by simp [lk_ins], by simp [lk_ins], by simp [lk_ins], rfl, by omega, by omega⟩
 ·rintro m L h' ⟨i, k0, k9, k10, k11, k3, rfl, hi, rfl⟩
  simp only [c_slices_Concat_int_int_l0, go_sem, k10, k11]
  refine wCond_split (fun ci => ?_) (fun ci => ?_)
  ·simp at ci
   obtain ⟨p, v, hp, hv, hr⟩ := ha.ints_at ci
   have e : IntKind.i64.wrap (↑i + 1) = (i : Int) + 1 := wrap_i64 (by omega)
   have hle := flat_le ls (i + 1)
   rw [flat_more ci, List.length_append] at hle
   have e2 : IntKind.i64.wrap ((ls.take i).flatten.length + ls[i].length) = (((ls.take i).flatten.length + ls[i].length : Nat) : Int) := by rw [wrap_i64 (by omega)]; omega
   have cn : ¬ (((ls.take i).flatten.length + ls[i].length : Nat) : Int) < 0 := by omega
   simp only [go_sem, reduceEqDiff, k0, k9, k10, k11, k3, hp, hv, hr.ints_len, e2, decide_eq_false cn, e]
   exact ⟨_, by omega, i + 1, by simp, by rw [flat_more ci, List.length_append], ci, rfl⟩
  ·simp at ci
   obtain rfl : i = ls.length := by omega
   rw [List.take_length] at k3
   simp only [go_sem, reduceEqDiff, k3]
   refine wCall_use ⟨hg.1, hg.2 _ ls.flatten.length ht⟩ ?_
   rintro r h2 ⟨ro, rc, rx⟩
   simp only [go_sem, reduceEqDiff, k0, la]
   refine vc_loop (fun m L h' => ∃ (i : Nat) (o : AV), lk 25 L = a /\ lk 26 L = .int .i64 ls.length /\ lk 27 L = .int .i64 i /\ lk 6 L = o /\ Own (dInts (ls.take i).flatten) (fun m => h.length <= m) h' o /\ canApp h' o /\ Ext nof h h' /\ i <= ls.length /\ m = ls.length - i) ls.length ?_ ?_
   ·exact ⟨0, r, by simp [lk_ins], by simp [lk_ins], by simp [lk_ins], by simp [lk_ins], ro, rc, rx, by omega, by omega⟩
   ·rintro m L h3 ⟨i, o, k25, k26, k27, k6, hO, hA, hE, hi, rfl⟩
    simp only [c_slices_Concat_int_int_l1, go_sem, k26, k27]
    refine wCond_split (fun ci => ?_) (fun ci => ?_)
    ·simp at ci
     obtain ⟨p, v, hp, hv, hr⟩ := (ha.up hE).ints_at ci
     have e : IntKind.i64.wrap (↑i + 1) = (i : Int) + 1 := wrap_i64 (by omega)
     have hle := flat_le ls (i + 1)
     rw [flat_more ci, List.length_append] at hle
     obtain ⟨ys, hys, hyr⟩ := hr.elems
     obtain ⟨o2, h4, ha', ho', hc', he'⟩ := own_app (bytes := 8) hO hA (Ext.refl nof _) (own_ints1 hyr) hE.1 (by simp only [List.length_map]; omega)
     have ha2 := aappend_of hys 8 o
     rw [ha'] at ha2
     simp only [go_sem, reduceEqDiff, k25, k26, k27, k6, hp, hv, ha2, e]
     exact ⟨_, by omega, i + 1, o2, by simp, rfl, by rw [flat_more ci, dInts, List.map_append]; exact ho', hc', hE.then he' (fun m hm hm' => by omega), ci, rfl⟩
    ·simp at ci
     obtain rfl : i = ls.length := by omega
     rw [List.take_length] at hO
     simp only [go_sem, reduceEqDiff, k6]
     exact ⟨hO, hE⟩
end Glb
namespace Glb
open Go
open Nat (reduceAdd reduceEqDiff)
set_option maxRecDepth 10000
set_option maxHeartbeats 4000000
def OwnI (n off : Nat) (cap : Option Nat) (l : List Int) (F : Nat -> Prop) (h : AHeap) : Prop :=
 F n /\ ∃ row g, h[n]? = some (some (.arr 1 row g)) /\ off + l.length <= row.length /\ capLe cap l.length /\ (row.drop off).take l.length = l.map fun n => [.int .i64 n]
theorem own_ref {F : Nat -> Prop} {h : AHeap} {l : List Int} {a : AV} (ho : Own (dInts l) F h a) (hl : l ≠ []) : ∃ n off cap, a = .ref n 1 off l.length cap /\ OwnI n off cap l F h := by
 simp only [dInts, Own] at ho
 rcases ho with ⟨_, e⟩ | ⟨_, _, _, e⟩ | ⟨n, off, cap, row, g, rfl, hF, hrow, hle, hcap, hes⟩
 ·simp at e; exact absurd e hl
 ·simp at e; exact absurd e hl
 ·rw [List.length_map] at hes hle hcap ⊢
  exact ⟨n, off, cap, rfl, hF, row, g, hrow, hle, hcap, ownLL_ints_eq hes⟩
theorem OwnI.own {n off : Nat} {cap : Option Nat} {l : List Int} {F : Nat -> Prop} {h : AHeap} (ho : OwnI n off cap l F h) {k : Nat} (hk : k <= l.length) : Own (dInts (l.take k)) F h (.ref n 1 off k cap) := by
 obtain ⟨hF, row, g, hrow, hle, hcap, hes⟩ := ho
 have hl : (l.take k).length = k := by simp; omega
 simp only [dInts, Own, List.length_map, hl]
 refine .inr (.inr ⟨n, off, cap, row, g, rfl, hF, hrow, by omega, fun c hc => by have := hcap c hc; omega, ?_⟩)
 have : (row.drop off).take k = (l.take k).map fun n => [.int .i64 n] := by
  have := congrArg (List.take k) hes
  rw [List.take_take, Nat.min_eq_left hk, <- List.map_take] at this
  exact this
 rw [this]
 exact ownLL_ints .i64 _ _ _
theorem OwnI.at_ {n off : Nat} {cap : Option Nat} {l : List Int} {F : Nat -> Prop} {h : AHeap} (ho : OwnI n off cap l F h) {k : Nat} (hk : k < l.length) : aload h false 1 (.ptr n 1 (off + k) 0) = some (.int .i64 l[k]) := by
 obtain ⟨hF, row, g, hrow, hle, hcap, hes⟩ := ho
 have : ((row.drop off).take l.length)[k]? = some [.int .i64 l[k]] := by rw [hes]; simp [hk]
 rw [List.getElem?_take_of_lt hk, List.getElem?_drop] at this
 rw [aload_ptr, hrow, rowGet_arr, this]; rfl
theorem OwnI.put {n off : Nat} {cap : Option Nat} {l : List Int} {F : Nat -> Prop} {h : AHeap} (ho : OwnI n off cap l F h) {k : Nat} (hk : k < l.length) (v : Int) :
  ∃ h', astore h 1 (.ptr n 1 (off + k) 0) (.int .i64 v) = some h' /\ OwnI n off cap (l.set k v) F h' /\ Ext F h h' := by
 obtain ⟨hF, row, g, hrow, hle, hcap, hes⟩ := ho
 have h1 : ((row.drop off).take l.length)[k]? = some [.int .i64 l[k]] := by rw [hes]; simp [hk]
 rw [List.getElem?_take_of_lt hk, List.getElem?_drop] at h1
 have hlt := (List.getElem?_eq_some_iff.1 hrow).1
 refine ⟨_, astore_elem (x := .int .i64 v) hrow h1 rfl rfl rfl rfl, ⟨hF, _, g, List.getElem?_set_self hlt, by simpa using hle, by simpa using hcap, ?_⟩, Ext.set _ (fun _ => hF)⟩
 rw [List.drop_set, if_neg (by omega), List.length_set, List.take_set, hes, List.map_set, show off + k - off = k by omega]
def CompactOk (P : Program) (f : FuncId) : Prop :=
 isFn P f = true /\ ∀ (F : Nat -> Prop) (h : AHeap) (l : List Int) (a : AV), Own (dInts l) F h a -> l.length <= 2^40 -> ACalls P f [a] h fun r h' => Own (dInts (ded l)) F h' r /\ Ext F h h'
theorem Compact_ok {P : Program} {f : FuncId} (hf : Is P f c_slices_Compact_int_int) : CompactOk P f := by
 refine ⟨hf.2, fun F h l a ho hl => fun_sound hf.1 (Nat.le_of_ble_eq_true rfl) ?_⟩
 show vc P c_slices_Compact_int_int.code ⟨[(0, a)], [], h⟩ (atEnd c_slices_Compact_int_int.res _)
 have la := (Own.rd (F' := fun _ => True) _ (fun _ _ => trivial) _ ho).ints_len
 simp only [c_slices_Compact_int_int, go_sem, reduceEqDiff, la]
 by_cases c2 : (l.length : Int) < 2
 ·simp only [go_sem, reduceEqDiff, decide_eq_true c2]
  refine ⟨?_, Ext.refl _ _⟩
  have : ded l = l := by
   match l, c2 with
   | [], _ => rfl
   | [x], _ => rfl
   | x :: y :: r, h => simp at h; omega
  rw [this]; exact ho
 ·have hne : l ≠ [] := by rintro rfl; simp at c2
  obtain ⟨n, off, cap, rfl, hI⟩ := own_ref ho hne
  have hidx : ∀ (i : Int) (k : Nat), i = k -> k < l.length -> aindex 1 (.ref n 1 off l.length cap) (.int .i64 i) = some (.ptr n 1 (off + k) 0) := fun i k e hk => by
   subst e; simp only [aindex]; rw [if_pos ⟨trivial, by omega, by omega⟩]; simp
  simp only [go_sem, decide_eq_false c2]
  refine vc_loop (fun m L h' => ∃ i : Nat, lk 0 L = .ref n 1 off l.length cap /\ lk 3 L = .int .i64 i /\ h = h' /\ 1 <= i /\ i <= l.length /\ m = l.length - i /\ dn l i = l.take i) (l.length - 1) ?_ ?_
  ·refine ⟨1, by simp [lk_ins, lk_cons], by simp [lk_ins], rfl, by omega, by omega, by omega, ?_⟩
   match l, hne with
   | x :: r, _ => simp [dn]
  ·rintro m L h' ⟨i, k0, k3, rfl, hi1, hi, rfl, hd⟩
   simp only [c_slices_Compact_int_int_l1, go_sem, reduceEqDiff, k0, k3, la]
   refine wCond_split (fun ci => ?_) (fun ci => ?_)
   ·simp at ci
    have e1 : IntKind.i64.wrap (↑i + 1) = (i : Int) + 1 := wrap_i64 (by omega)
    have e2 : IntKind.i64.wrap (↑i - 1) = ((i - 1 : Nat) : Int) := by rw [wrap_i64 (by omega)]; omega
    simp only [go_sem, reduceEqDiff, k0, k3, e2, hidx _ i rfl ci, hidx _ (i - 1) rfl (by omega), hI.at_ ci, hI.at_ (show i - 1 < l.length by omega)]
    have hdn : dn l (i + 1) = l.take i ++ (if l[i] = l[i - 1] then [] else [l[i]]) := by
     simp only [dn, hd]
     rw [List.getElem?_eq_getElem ci, List.getElem?_eq_getElem (show i - 1 < l.length by omega)]
     congr 1
     by_cases e : l[i] = l[i - 1]
     ·rw [if_pos ⟨by omega, by rw [e]⟩, if_pos e]
     ·rw [if_neg (fun h => e (Option.some.inj h.2)), if_neg e]; rfl
    by_cases ce : l[i] = l[i - 1]
    ·rw [if_pos ce, List.append_nil] at hdn
     have hs : aslice 1 (.ref n 1 off l.length cap) (some (i : Int)) none none = some (.ref n 1 (off + i) (l.length - i) (sliceCap none i cap)) := by
      obtain ⟨_, row, g, hrow, hle, hcap, hes⟩ := hI
      simp only [aslice, Option.getD_some, Option.getD_none]
      rw [if_pos ⟨trivial, by omega, by omega, by omega, by omega, by cases cap with | none => simp | some c => have := hcap c rfl; simp; omega⟩, if_neg (by omega), if_pos (by omega)]
      simp
     simp only [go_sem, reduceEqDiff, decide_eq_true ce, k0, k3, aslc, hs]
     have hidx2 : ∀ (j : Int) (k : Nat), j = k -> i + k < l.length -> aindex 1 (.ref n 1 (off + i) (l.length - i) (sliceCap none i cap)) (.int .i64 j) = some (.ptr n 1 (off + (i + k)) 0) := fun j k e hk => by
      subst e; simp only [aindex]; rw [if_pos ⟨trivial, by omega, by omega⟩]; simp; omega
     refine vc_loop (fun m L h' => ∃ (k q : Nat) (cur : List Int), lk 0 L = .ref n 1 off l.length cap /\ lk 4 L = .ref n 1 (off + i) (l.length - i) (sliceCap none i cap) /\ lk 3 L = .int .i64 q /\ lk 5 L = .int .i64 k /\ OwnI n off cap cur F h' /\ Ext F h h' /\ cur.length = l.length /\
      1 <= k /\ i + k <= l.length /\ q <= i + k - 1 /\ i <= q /\ cur.take q = dn l (i + k) /\ (∀ j, q <= j -> cur[j]? = l[j]?) /\ m = l.length - i - k) (l.length - i - 1) ?_ ?_
     ·exact ⟨1, i, l, by simp [lk_ins, k0], by simp [lk_ins], by simp [lk_ins, k3], by simp [lk_ins], hI, Ext.refl _ _, rfl, by omega, by omega, by omega, by omega, hdn.symm, fun j hj => rfl, by omega⟩
     ·rintro m L h2 ⟨k, q, cur, k0, k4, k3, k5, hC, hE, hcl, hk1, hk, hq, hiq, htk, hrest, rfl⟩
      have l4 : alen (.ref n 1 (off + i) (l.length - i) (sliceCap none i cap)) = some (.int .i64 ((l.length - i : Nat) : Int)) := rfl
      simp only [c_slices_Compact_int_int_l0, go_sem, reduceEqDiff, k4, k5, l4]
      refine wCond_split (fun ck => ?_) (fun ck => ?_)
      ·simp at ck
       have ck' : i + k < l.length := by omega
       have e3 : IntKind.i64.wrap (↑k + 1) = (k : Int) + 1 := wrap_i64 (by omega)
       have e4 : IntKind.i64.wrap (↑k - 1) = ((k - 1 : Nat) : Int) := by rw [wrap_i64 (by omega)]; omega
       have e5 : IntKind.i64.wrap (↑q + 1) = (q : Int) + 1 := wrap_i64 (by omega)
       have a1 := hC.at_ (show i + k < cur.length by omega)
       have a2 := hC.at_ (show i + (k - 1) < cur.length by omega)
       have g1 : cur[i + k]'(by omega) = l[i + k] := by
        have := hrest (i + k) (by omega)
        rw [List.getElem?_eq_getElem (by omega), List.getElem?_eq_getElem ck'] at this
        exact Option.some.inj this
       have g2 : cur[i + (k - 1)]'(by omega) = l[i + k - 1]'(by omega) := by
        have := hrest (i + (k - 1)) (by omega)
        rw [List.getElem?_eq_getElem (by omega), List.getElem?_eq_getElem (by omega)] at this
        have e := Option.some.inj this
        rw [e]; congr 1; omega
       rw [g1] at a1
       rw [g2] at a2
       have hdn2 : dn l (i + (k + 1)) = dn l (i + k) ++ (if l[i + k] = l[i + k - 1] then [] else [l[i + k]]) := by
        rw [<- Nat.add_assoc]
        simp only [dn]
        rw [List.getElem?_eq_getElem ck', List.getElem?_eq_getElem (show i + k - 1 < l.length by omega)]
        congr 1
        by_cases e : l[i + k] = l[i + k - 1]
        ·rw [if_pos ⟨by omega, by rw [e]⟩, if_pos e]
        ·rw [if_neg (fun h => e (Option.some.inj h.2)), if_neg e]; rfl
       simp only [go_sem, reduceEqDiff, k4, k5, e4, hidx2 _ k rfl ck', hidx2 _ (k - 1) rfl (by omega), a1, a2]
       by_cases cq : l[i + k] = l[i + k - 1]
       ·rw [if_pos cq, List.append_nil] at hdn2
        simp only [go_sem, reduceEqDiff, decide_eq_true cq, k0, k4, k3, k5, e3]
        exact ⟨_, by omega, k + 1, q, cur, by simp, by simp, hC, hE, hcl, by omega, by omega, by omega, hiq, by rw [hdn2]; exact htk, hrest, rfl⟩
       ·rw [if_neg cq] at hdn2
        obtain ⟨h3, s1, s2, s3⟩ := hC.put (show q < cur.length by omega) l[i + k]
        simp only [go_sem, reduceEqDiff, decide_eq_false cq, k0, k4, k3, k5, hidx _ q rfl (by omega), hidx2 _ k rfl ck', a1, s1, e3, e5]
        refine ⟨_, by omega, k + 1, q + 1, cur.set q l[i + k], by simp, by simp, s2, hE.trans s3 (fun _ _ x => x) (fun _ _ x => x), by simpa using hcl, by omega, by omega, by omega, by omega, ?_, fun j hj => ?_, rfl⟩
        ·rw [hdn2, <- htk, List.take_succ_eq_append_getElem (by simp; omega), List.getElem_set_self, List.take_set_of_le (Nat.le_refl _)]
        ·rw [List.getElem?_set_ne (by omega)]; exact hrest j (by omega)
      ·simp at ck
       have hik : i + k = l.length := by omega
       have hql : q < l.length := by omega
       have hs2 : aslice 1 (.ref n 1 off l.length cap) (some (q : Int)) none none = some (.ref n 1 (off + q) (l.length - q) (sliceCap none q cap)) := by
        obtain ⟨_, row, g, hrow, hle, hcap, hes⟩ := hC
        rw [hcl] at hcap
        simp only [aslice, Option.getD_some, Option.getD_none]
        rw [if_pos ⟨trivial, by omega, by omega, by omega, by omega, by cases cap with | none => simp | some c => have := hcap c rfl; simp; omega⟩, if_neg (by omega), if_pos (by omega)]
        simp
       have hs3 : aslice 1 (.ref n 1 off l.length cap) none (some (q : Int)) none = some (.ref n 1 off q cap) := by
        obtain ⟨_, row, g, hrow, hle, hcap, hes⟩ := hC
        rw [hcl] at hcap
        simp only [aslice, Option.getD_some, Option.getD_none]
        rw [if_pos ⟨trivial, by omega, by omega, by omega, by omega, by cases cap with | none => simp; omega | some c => have := hcap c rfl; simp; omega⟩]
        simp [sliceCap]
       obtain ⟨hF, row, g, hrow, hle, hcap, hes⟩ := hC
       have hcl2 : aclear h2 1 [.int .i64 0] (.ref n 1 (off + q) (l.length - q) (sliceCap none q cap)) = some (h2.set n (some (.arr 1 (splice row (off + q) (List.replicate (l.length - q) [.int .i64 0])) g))) := by
        simp only [aclear]; rw [if_neg (by omega), hrow]; simp only; rw [if_pos ⟨trivial, trivial, by omega⟩]
       simp only [go_sem, reduceEqDiff, k0, k3, aslc, hs2, hev_clr, hcl2, hs3]
       have hlt := (List.getElem?_eq_some_iff.1 hrow).1
       have hlen : (splice row (off + q) (List.replicate (l.length - q) [AV.int .i64 0])).length = row.length := by simp only [splice, List.length_append, List.length_take, List.length_drop, List.length_replicate]; omega
       have hI2 : OwnI n off cap (cur.take q) F (h2.set n (some (.arr 1 (splice row (off + q) (List.replicate (l.length - q) [.int .i64 0])) g))) := by
        refine ⟨hF, _, g, List.getElem?_set_self hlt, by rw [hlen]; simp; omega, fun c hc => by have := hcap c hc; simp; omega, ?_⟩
        have h1 : (row.take (off + q)).length = off + q := by simp; omega
        have hq2 : (cur.take q).length = q := by simp; omega
        rw [hq2]
        have h3 : ((splice row (off + q) (List.replicate (l.length - q) [AV.int .i64 0])).drop off).take q = (row.drop off).take q := by
         simp only [splice]
         rw [List.append_assoc, List.drop_append_of_le_length (by omega), List.take_append_of_le_length (by simp; omega), List.drop_take, List.take_take]
         congr 1; omega
        rw [h3]
        have := congrArg (List.take q) hes
        rw [List.take_take, Nat.min_eq_left (by omega), <- List.map_take] at this
        exact this
       have hfin := hI2.own (k := q) (by simp; omega)
       rw [List.take_take, Nat.min_self, htk, hik] at hfin
       exact ⟨hfin, hE.trans (Ext.set _ (fun _ => hF)) (fun _ _ x => x) (fun _ _ x => x)⟩
    ·rw [if_neg ce] at hdn
     simp only [go_sem, reduceEqDiff, decide_eq_false ce, k0, k3, e1]
     exact ⟨_, by omega, i + 1, by simp, by omega, ci, rfl, by rw [hdn, List.take_succ_eq_append_getElem ci]⟩
   ·simp at ci
    obtain rfl : i = l.length := by omega
    rw [List.take_length] at hd
    simp only [go_sem, reduceEqDiff, k0]
    exact ⟨by rw [ded, hd]; exact ho, Ext.refl _ _⟩
end Glb
namespace Glb
open Go
open Nat (reduceAdd reduceEqDiff)
set_option maxRecDepth 10000
set_option maxHeartbeats 4000000
def UnitedOk (P : Program) (f : FuncId) : Prop :=
 isFn P f = true /\ ∀ (F : Nat -> Prop) (h : AHeap) (ls : List (List Int)) (a : AV), Rd F h (dIntss ls) a -> ls.length <= 2^40 -> ls.flatten.length <= 2^40 -> ACalls P f [a] h fun r h' => Own (dInts (uni ls.flatten)) (fun m => h.length <= m) h' r /\ Ext nof h h'
theorem united_ok {P : Program} {f c s k : FuncId} (hf : Is P f (c_quorum_united c s k)) (hc : ConcatOk P c) (hs : SortOk P s) (hk : CompactOk P k) : UnitedOk P f := by
 refine ⟨hf.2, fun F h ls a ha hl ht => fun_sound hf.1 (Nat.le_of_ble_eq_true rfl) ?_⟩
 show vc P (c_quorum_united c s k).code ⟨[(0, a)], [], h⟩ (atEnd (c_quorum_united c s k).res _)
 simp only [c_quorum_united, go_sem, reduceEqDiff]
 refine wCall_use ⟨hc.1, hc.2 F _ ls a ha hl ht⟩ ?_
 rintro r h1 ⟨ro, rx⟩
 simp only [go_sem, reduceEqDiff]
 refine wCall_use ⟨hs.1, hs.2 _ _ _ r ro ht⟩ ?_
 rintro _ h2 ⟨so, sx⟩
 simp only [go_sem, reduceEqDiff]
 refine wCall_use ⟨hk.1, hk.2 _ _ _ r so (by rw [sorted_length]; exact ht)⟩ ?_
 rintro u h3 ⟨uo, ux⟩
 simp only [go_sem, reduceEqDiff]
 rw [ded_sorted] at uo
 exact ⟨uo, (rx.then sx (fun m hm hm' => by omega)).then ux (fun m hm hm' => by omega)⟩
def ListOk (P : Program) (f : FuncId) (t : Conf -> List Int) : Prop :=
 isFn P f = true /\ ∀ (F : Nat -> Prop) (h : AHeap) (x : Conf) (a : List AV), RdL F h x.c a -> x.few (2^38) -> ACalls P f [.agg a] h fun r h' => Own (dInts (t x)) (fun m => h.length <= m) h' r /\ Ext nof h h'
theorem rd_row2 {F : Nat -> Prop} {H : AHeap} {o n : AV} {x y : List Int} (ho : Rd F H (dInts x) o) (hn : Rd F H (dInts y) n) : Rd (fun _ => True) (H ++ [some (.arr 1 [[o], [n]] false)]) (dIntss [x, y]) (.ref H.length 1 0 2 (some 2)) := by
 have x0 := Ext.b1 (h := H) (some (.arr 1 [[o], [n]] false))
 simp only [dIntss, List.map_cons, List.map_nil, Rd]
 refine ⟨[[o], [n]], .inr (.inr ⟨H.length, 0, 2, some 2, [[o], [n]], false, rfl, trivial, bx10 _ _, by simp, fun c hc => by cases hc; omega, rfl⟩), ?_⟩
 simp only [RdLL, RdL]
 exact ⟨_, _, rfl, ⟨o, _, rfl, Rd.mono (fun _ _ => trivial) (Keep.lt _ _) _ _ (ho.up x0), rfl⟩, _, _, rfl, ⟨n, _, rfl, Rd.mono (fun _ _ => trivial) (Keep.lt _ _) _ _ (hn.up x0), rfl⟩, rfl⟩
theorem rd_row3 {F : Nat -> Prop} {H : AHeap} {o n e : AV} {x y z : List Int} (ho : Rd F H (dInts x) o) (hn : Rd F H (dInts y) n) (he : Rd F H (dInts z) e) : Rd (fun _ => True) (H ++ [some (.arr 1 [[o], [n], [e]] false)]) (dIntss [x, y, z]) (.ref H.length 1 0 3 (some 3)) := by
 have x0 := Ext.b1 (h := H) (some (.arr 1 [[o], [n], [e]] false))
 simp only [dIntss, List.map_cons, List.map_nil, Rd]
 refine ⟨[[o], [n], [e]], .inr (.inr ⟨H.length, 0, 3, some 3, [[o], [n], [e]], false, rfl, trivial, bx10 _ _, by simp, fun c hc => by cases hc; omega, rfl⟩), ?_⟩
 simp only [RdLL, RdL]
 exact ⟨_, _, rfl, ⟨o, _, rfl, Rd.mono (fun _ _ => trivial) (Keep.lt _ _) _ _ (ho.up x0), rfl⟩, _, _, rfl, ⟨n, _, rfl, Rd.mono (fun _ _ => trivial) (Keep.lt _ _) _ _ (hn.up x0), rfl⟩, _, _, rfl, ⟨e, _, rfl, Rd.mono (fun _ _ => trivial) (Keep.lt _ _) _ _ (he.up x0), rfl⟩, rfl⟩
theorem quorum_Voters_ok {P : Program} {f g : FuncId} (hf : Is P f (c_quorum_Voters g)) (hg : UnitedOk P g) : ListOk P f Conf.voters := by
 refine ⟨hf.2, fun F h x a ha hx => fun_sound hf.1 (Nat.le_of_ble_eq_true rfl) ?_⟩
 show vc P (c_quorum_Voters g).code ⟨[(0, .agg a)], [], h⟩ (atEnd (c_quorum_Voters g).res _)
 obtain ⟨o, n, e, rfl, ho, hn, he⟩ := rd_conf ha
 simp only [c_quorum_Voters, go_sem, reduceEqDiff, reduceAdd, ho.scalar, hn.scalar, he.scalar, cells_of ho.scalar, cells_of hn.scalar]
 have hrow := rd_row2 (ho.up (Ext.b1 (some (.arr 3 [[o, n, e]] false)))) (hn.up (Ext.b1 (some (.arr 3 [[o, n, e]] false))))
 simp only [len_app1] at hrow
 obtain ⟨h1, h2, h3⟩ := hx
 refine wCall_use ⟨hg.1, hg.2 _ _ [x.old, x.new] _ hrow (by simp) (by simp; omega)⟩ ?_
 rintro r h2 ⟨ro, rx⟩
 simp only [go_sem, reduceEqDiff]
 refine ⟨?_, (Ext.b2 _ _).tr rx⟩
 have : [x.old, x.new].flatten = x.old ++ x.new := by simp
 rw [this] at ro
 exact Own.mono _ (fun m hm => by simp at hm; omega) (fun _ _ _ x => x) _ ro
theorem quorum_Members_ok {P : Program} {f g : FuncId} (hf : Is P f (c_quorum_Members g)) (hg : UnitedOk P g) : ListOk P f Conf.members := by
 refine ⟨hf.2, fun F h x a ha hx => fun_sound hf.1 (Nat.le_of_ble_eq_true rfl) ?_⟩
 show vc P (c_quorum_Members g).code ⟨[(0, .agg a)], [], h⟩ (atEnd (c_quorum_Members g).res _)
 obtain ⟨o, n, e, rfl, ho, hn, he⟩ := rd_conf ha
 simp only [c_quorum_Members, go_sem, reduceEqDiff, reduceAdd, ho.scalar, hn.scalar, he.scalar, cells_of ho.scalar, cells_of hn.scalar, cells_of he.scalar]
 have hrow := rd_row3 (ho.up (Ext.b1 (some (.arr 3 [[o, n, e]] false)))) (hn.up (Ext.b1 (some (.arr 3 [[o, n, e]] false)))) (he.up (Ext.b1 (some (.arr 3 [[o, n, e]] false))))
 simp only [len_app1] at hrow
 obtain ⟨h1, h2, h3⟩ := hx
 refine wCall_use ⟨hg.1, hg.2 _ _ [x.old, x.new, x.learners] _ hrow (by simp) (by simp; omega)⟩ ?_
 rintro r h2 ⟨ro, rx⟩
 simp only [go_sem, reduceEqDiff]
 refine ⟨?_, (Ext.b2 _ _).tr rx⟩
 have : [x.old, x.new, x.learners].flatten = x.old ++ x.new ++ x.learners := by simp
 rw [this] at ro
 exact Own.mono _ (fun m hm => by simp at hm; omega) (fun _ _ _ x => x) _ ro
def rise : Option Int -> List Int -> Bool
 | _, [] => true
 | p, x :: r => !(decide (x < 1) || decide (7 < x) || (match p with | none => false | some y => decide (x <= y))) && rise (some x) r
def prev (l : List Int) : Nat -> Option Int
 | 0 => none
 | i + 1 => l[i]?
def Conf.right (x : Conf) : Bool := !(decide (x.old.length = 0) || !rise none x.old || !rise none x.new || !rise none x.learners || x.learners.any fun n => decide (n ∈ x.old) || decide (n ∈ x.new))
def RisesOk (P : Program) (f : FuncId) : Prop :=
 isFn P f = true /\ ∀ (F : Nat -> Prop) (h : AHeap) (l : List Int) (a : AV), Rd F h (dInts l) a -> l.length <= 2^40 -> ACalls P f [a] h fun r h' => r = .bool (rise none l) /\ h' = h
theorem rises_ok {P : Program} {f : FuncId} (hf : Is P f c_quorum_rises) : RisesOk P f := by
 refine ⟨hf.2, fun F h l a ha hl => fun_sound hf.1 (Nat.le_of_ble_eq_true rfl) ?_⟩
 show vc P c_quorum_rises.code ⟨[(0, a)], [], h⟩ (atEnd c_quorum_rises.res _)
 have la := ha.ints_len
 simp only [c_quorum_rises, go_sem, reduceEqDiff, la]
 refine vc_loop (fun m L h' => ∃ i : Nat, lk 0 L = a /\ lk 5 L = a /\ lk 6 L = .int .i64 l.length /\ lk 7 L = .int .i64 i /\ h = h' /\ i <= l.length /\ m = l.length - i /\ rise (prev l i) (l.drop i) = rise none l) l.length ?_ ?_
 ·exact ⟨0, by simp [lk_ins, lk_cons], by simp [lk_ins], by simp [lk_ins], by simp [lk_ins], rfl, by omega, by omega, rfl⟩
 ·rintro m L h1 ⟨i, k0, k5, k6, k7, rfl, hi, rfl, hq⟩
  simp only [c_quorum_rises_l0, go_sem, k6, k7]
  refine wCond_split (fun ci => ?_) (fun ci => ?_)
  ·simp at ci
   obtain ⟨p, hp, hv⟩ := ha.int_at ci
   have e1 : IntKind.i64.wrap (↑i + 1) = (i : Int) + 1 := wrap_i64 (by omega)
   rw [List.drop_eq_getElem_cons ci] at hq
   simp only [rise] at hq
   have hp1 : prev l (i + 1) = some l[i] := by simp [prev, ci]
   simp only [go_sem, reduceEqDiff, k5, k7, hp, hv]
   by_cases c1 : l[i] < 1
   ·simp only [go_sem, reduceEqDiff, decide_eq_true c1]
    rw [<- hq]; simp [c1]
   by_cases c2 : 7 < l[i]
   ·simp only [go_sem, reduceEqDiff, decide_eq_false c1, decide_eq_true c2]
    rw [<- hq]; simp [c2]
   by_cases c3 : 0 < (i : Int)
   ·obtain ⟨j, rfl⟩ : ∃ j, i = j + 1 := ⟨i - 1, by omega⟩
    obtain ⟨p2, hp2, hv2⟩ := ha.int_at (i := j) (by omega)
    have e2 : IntKind.i64.wrap (((j + 1 : Nat) : Int) - 1) = (j : Int) := by rw [wrap_i64 (by omega)]; omega
    have hpj : prev l (j + 1) = some (l[j]'(by omega)) := by simp only [prev]; exact List.getElem?_eq_getElem (by omega)
    rw [hpj] at hq
    simp only [go_sem, reduceEqDiff, decide_eq_false c1, decide_eq_false c2, decide_eq_true c3, k0, e2, hp2, hv2]
    by_cases c4 : l[j + 1] <= l[j]'(by omega)
    ·simp only [go_sem, reduceEqDiff, decide_eq_true c4]
     rw [<- hq]; simp [c4]
    ·simp only [go_sem, reduceEqDiff, decide_eq_false c4, k0, k5, k6, k7, e1]
     refine ⟨_, by omega, j + 1 + 1, by simp, by omega, rfl, ?_⟩
     rw [hp1, <- hq]; simp [c1, c2, c4]
   ·obtain rfl : i = 0 := by omega
    simp only [go_sem, reduceEqDiff, decide_eq_false c1, decide_eq_false c2, decide_eq_false c3, k0, k5, k6, k7, e1]
    refine ⟨_, by omega, 1, by simp, by omega, rfl, ?_⟩
    rw [hp1, <- hq]; simp [c1, c2, prev]
  ·simp at ci
   obtain rfl : i = l.length := by omega
   rw [List.drop_length] at hq
   simp only [go_sem, reduceEqDiff]
   rw [<- hq]; rfl
end Glb
namespace Glb
open Go
open Nat (reduceAdd reduceEqDiff)
set_option maxRecDepth 10000
set_option maxHeartbeats 4000000
def Conf.votes (x : Conf) (n : Int) : Bool := decide (n ∈ x.old) || decide (n ∈ x.new)
theorem Conf.right_eq (x : Conf) : x.right = !(decide (x.old.length = 0) || !rise none x.old || !rise none x.new || !rise none x.learners || x.learners.any x.votes) := rfl
theorem Check_f1_ok {P : Program} {f g : FuncId} (hf : Is P f (c_quorum_Check_f1 g)) (hg : HasOk P g) {F : Nat -> Prop} {h : AHeap} {x : Conf} {o n e : AV} {m : Nat} (ho : Rd F h (dInts x.old) o) (hn : Rd F h (dInts x.new) n) (hx : x.few (2^38))
  (hq : h[m]? = some (some (.arr 3 [[o, n, e]] false))) (k : Int) : ACalls P f [.int .i64 k, .ptr m 3 0 0] h fun r h' => r = .bool (x.votes k) /\ h' = h := by
 refine fun_sound hf.1 (Nat.le_of_ble_eq_true rfl) ?_
 show vc P (c_quorum_Check_f1 g).code ⟨[(0, .int .i64 k), (1, .ptr m 3 0 0)], [], h⟩ (atEnd (c_quorum_Check_f1 g).res _)
 obtain ⟨h1, h2, h3⟩ := hx
 simp only [c_quorum_Check_f1, go_sem, reduceEqDiff, hq]
 refine use1 hg.1 (hg.2 F _ x.old o k ho (by omega)) ?_
 by_cases c : k ∈ x.old
 ·simp only [go_sem, reduceEqDiff, decide_eq_true c]
  simp [Conf.votes, c]
 ·simp only [go_sem, reduceEqDiff, reduceAdd, decide_eq_false c, hq]
  refine use1 hg.1 (hg.2 F _ x.new n k hn (by omega)) ?_
  simp only [go_sem, reduceEqDiff]
  simp [Conf.votes, c]
def CheckOk (P : Program) (f : FuncId) : Prop :=
 isFn P f = true /\ ∀ (F : Nat -> Prop) (h : AHeap) (x : Conf) (a : List AV), RdL F h x.c a -> x.few (2^38) -> ACalls P f [.agg a] h fun r h' => r = .int .i64 (if x.right then 0 else 29) /\ h' = h
theorem rev_clo (g : Opd -> AV) (h : AHeap) (f : FuncId) (cs : List Opd) : rev g h (.clo f cs) = some (.clo f [] (cs.map g)) := Eq.trans rfl rfl
theorem quorum_Check_ok {P : Program} {f k g c s : FuncId} (hf : Is P f (c_quorum_Check k g c)) (hk : Is P k (c_quorum_Check_f1 s)) (hs : HasOk P s) (hg : RisesOk P g) (hc : CountOk P c) : CheckOk P f := by
 refine ⟨hf.2, fun F h x a ha hx => obs rfl (fun_sound hf.1 (Nat.le_of_ble_eq_true rfl) ?_)⟩
 show vc P (c_quorum_Check k g c).code ⟨[(0, .agg a)], [], h⟩ (atEnd (c_quorum_Check k g c).res _)
 obtain ⟨o, n, e, rfl, ho, hn, he⟩ := rd_conf ha
 have hx' := hx
 obtain ⟨h1, h2, h3⟩ := hx
 have lo := ho.ints_len
 simp only [c_quorum_Check, go_sem, reduceEqDiff, reduceAdd, rev_clo, List.map_cons, List.map_nil, ho.scalar, hn.scalar, he.scalar, lo, natCast_eq_zero]
 by_cases c0 : x.old.length = 0
 ·simp only [go_sem, reduceEqDiff, decide_eq_true c0]
  exact ⟨by simp [Conf.right_eq, c0], Ext.b1 _⟩
 simp only [go_sem, reduceEqDiff, decide_eq_false c0]
 refine use1 hg.1 (hg.2 F _ x.old o (ho.up (Ext.b1 _)) (by omega)) ?_
 cases c1 : rise none x.old
 ·simp only [go_sem, reduceEqDiff]
  exact ⟨by simp [Conf.right_eq, c1], Ext.b1 _⟩
 simp only [go_sem, reduceEqDiff, reduceAdd]
 refine use1 hg.1 (hg.2 F _ x.new n (hn.up (Ext.b1 _)) (by omega)) ?_
 cases c2 : rise none x.new
 ·simp only [go_sem, reduceEqDiff]
  exact ⟨by simp [Conf.right_eq, c2], Ext.b1 _⟩
 simp only [go_sem, reduceEqDiff, reduceAdd]
 refine use1 hg.1 (hg.2 F _ x.learners e (he.up (Ext.b1 _)) (by omega)) ?_
 cases c3 : rise none x.learners
 ·simp only [go_sem, reduceEqDiff]
  exact ⟨by simp [Conf.right_eq, c3], Ext.b1 _⟩
 simp only [go_sem, reduceEqDiff, reduceAdd]
 refine use1 hc.1 (hc.2 F _ x.learners e k [] [.ptr h.length 3 0 0] x.votes (he.up (Ext.b1 _)) (by omega) hk.2 (fun m => Check_f1_ok hk hs (ho.up (Ext.b1 _)) (hn.up (Ext.b1 _)) hx' (bx10 _ _) m)) ?_
 by_cases c4 : 0 < x.learners.countP x.votes
 ·have c5 : (0 : Int) < x.learners.countP x.votes := by omega
  have : x.learners.any x.votes = true := by rw [List.any_eq_true]; exact List.countP_pos_iff.1 c4
  simp only [go_sem, reduceEqDiff, decide_eq_true c5]
  exact ⟨by simp only [Conf.right_eq, this, Bool.or_true]; rfl, Ext.b1 _⟩
 ·have c5 : ¬ (0 : Int) < x.learners.countP x.votes := by omega
  have : x.learners.any x.votes = false := by rw [<- Bool.not_eq_true, List.any_eq_true]; exact fun h => c4 (List.countP_pos_iff.2 h)
  simp only [go_sem, reduceEqDiff, decide_eq_false c5]
  exact ⟨by simp only [Conf.right_eq, this, c1, c2, c3, decide_eq_false c0]; rfl, Ext.b1 _⟩
end Glb
