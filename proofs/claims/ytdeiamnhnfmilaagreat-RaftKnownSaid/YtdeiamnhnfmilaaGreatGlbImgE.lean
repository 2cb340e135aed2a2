/-
  A library of its own: its parts, one behind the other.
-/
import Derived.Test.YtdeiamnhnfmilaaGreatGlbImgB
import Derived.Test.YtdeiamnhnfmilaaGreatGlbImgD
import Derived.Test.YtdeiamnhnfmilaaGreatGlbLogA
set_option linter.unusedSimpArgs false
set_option linter.unusedVariables false
namespace Glb
open Go
end Glb
namespace Glb
open Go
theorem OwnLL_set {F : Nat -> Prop} {h : AHeap} : ∀ {ds : List (List D)} {es : List (List AV)} (j : Nat) {d : List D} {cs : List AV}, OwnLL ds F h es -> OwnL d F h cs -> OwnLL (ds.set j d) F h (es.set j cs)
 | [], es, j, d, cs, hh, hd => by simp only [OwnLL] at hh; subst hh; simp [OwnLL]
 | e :: ds, es, 0, d, cs, hh, hd => by obtain ⟨a, r, rfl, h1, h2⟩ := hh; exact ⟨_, _, rfl, hd, h2⟩
 | e :: ds, es, j + 1, d, cs, hh, hd => by obtain ⟨a, r, rfl, h1, h2⟩ := hh; exact ⟨_, _, rfl, h1, OwnLL_set j h2 hd⟩
theorem OwnLL_at {F : Nat -> Prop} {h : AHeap} : ∀ {ds : List (List D)} {es : List (List AV)} {j : Nat} {d : List D}, OwnLL ds F h es -> ds[j]? = some d -> ∃ cs, es[j]? = some cs /\ OwnL d F h cs
 | [], es, j, d, hh, hd => by simp at hd
 | e :: ds, es, 0, d, hh, hd => by obtain ⟨a, r, rfl, h1, h2⟩ := hh; simp only [List.getElem?_cons_zero, Option.some.injEq] at hd; subst hd; exact ⟨a, rfl, h1⟩
 | e :: ds, es, j + 1, d, hh, hd => by obtain ⟨a, r, rfl, h1, h2⟩ := hh; simp only [List.getElem?_cons_succ] at hd ⊢; exact OwnLL_at h2 hd
theorem own_item {sz : Nat} {ds : List (List D)} {F : Nat -> Prop} {h : AHeap} {a : AV} {j : Nat} {d0 : List D} (ho : Own (.sl sz ds) F h a) (hj : ds[j]? = some d0) :
  ∃ n off row g cs len cap, a = .ref n sz off len cap /\ F n /\ aindex sz a (.int .i64 j) = some (.ptr n sz (off + j) 0) /\ h[n]? = some (some (.arr sz row g)) /\ row[off + j]? = some cs /\ OwnL d0 (fun m => F m /\ m ≠ n) h cs /\
   ∀ (F' : Nat -> Prop) (h' : AHeap) (d : List D) (cs' : List AV), (∀ m, F m -> F' m) -> Keep (fun m => F m /\ m ≠ n) h h' -> h'[n]? = h[n]? -> OwnL d (fun m => F' m /\ m ≠ n) h' cs' -> Own (.sl sz (ds.set j d)) F' (h'.set n (some (.arr sz (row.set (off + j) cs') g))) a := by
 have hjl := (List.getElem?_eq_some_iff.1 hj).1
 simp only [Own] at ho
 rcases ho with ⟨rfl, rfl⟩ | ⟨t, c, rfl, rfl⟩ | ⟨n, off, cap, row, g, rfl, hn, hrow, hle, hcl, hd⟩
 ·simp at hjl
 ·simp at hjl
 obtain ⟨cs, hc1, hc2⟩ := OwnLL_at hd hj
 rw [List.getElem?_take, if_pos hjl, List.getElem?_drop] at hc1
 refine ⟨n, off, row, g, cs, ds.length, cap, rfl, hn, ?_, hrow, hc1, hc2, fun F' h' d cs' hF hk hn' hd' => ?_⟩
 ·simp only [aindex]; rw [if_pos ⟨trivial, by omega, by omega⟩]; simp
 ·have hlt := (List.getElem?_eq_some_iff.1 (hn'.trans hrow)).1
  simp only [Own]
  refine .inr (.inr ⟨n, off, cap, _, g, by rw [List.length_set], hF _ hn, List.getElem?_set_self hlt, by rw [List.length_set, List.length_set]; exact hle, by rw [List.length_set]; exact hcl, ?_⟩)
  have e : ((row.set (off + j) cs').drop off).take (ds.set j d).length = ((row.drop off).take ds.length).set j cs' := by
   rw [List.length_set]
   apply List.ext_getElem?
   intro i
   simp only [List.getElem?_take, List.getElem?_drop, List.getElem?_set, List.length_take, List.length_drop]
   by_cases e1 : i < ds.length
   ·rw [if_pos e1]
    by_cases e2 : j = i
    ·subst e2
     rw [if_pos rfl, if_pos rfl, if_pos (by omega), if_pos (by omega)]
    ·rw [if_neg (by omega), if_neg e2, if_pos e1]
   ·rw [if_neg e1, if_neg (by omega), if_neg e1]
  rw [e]
  have hd1 : OwnLL ds (fun m => F' m /\ m ≠ n) h' ((row.drop off).take ds.length) := OwnLL.mono _ (fun m x => ⟨hF _ x.1, x.2⟩) hk _ hd
  exact OwnLL.mono _ (fun _ x => x) (fun m hm y hy => by rw [List.getElem?_set_ne (fun e => hm.2 e.symm)]; exact hy) _ (OwnLL_set j hd1 hd')
end Glb
namespace Glb
open Go
set_option maxRecDepth 10000
set_option maxHeartbeats 16000000
def Change.cells (x : Change) (e o n l s : AV) : List AV := [.int .i64 x.kind, .int .i64 x.group, .int .i64 x.term, .int .i64 x.voted, .int .i64 x.from_, .int .i64 x.log.base, .int .i64 x.log.bterm, e, o, n, l, s, .int .i64 x.vote.txn, .int .i64 x.vote.part, .int .i64 x.vote.promised, .int .i64 x.vote.ballot, .int .i64 x.vote.value]
end Glb
namespace Glb
open Go
set_option maxRecDepth 10000
set_option maxHeartbeats 16000000
end Glb
namespace Glb
open Go
set_option maxRecDepth 10000
set_option maxHeartbeats 16000000
end Glb
