/-
  A library of its own: its parts, one behind the other.
-/
import Derived.Test.YtifkpnagloijkaaGlbKitB
import Derived.Test.YtifkpnagloijkaaGlbImgA
import Derived.Test.YtifkpnagloijkaaGlbConA
import Derived.Test.YtifkpnagloijkaaGlbCread
import Derived.Test.YtifkpnagloijkaaGlbConB
import Derived.Test.YtifkpnagloijkaaGlbLibB
set_option linter.unusedSimpArgs false
set_option linter.unusedVariables false
/-
  A list of one's own that is appended to, its new items' rows somewhere else.
-/
namespace Glb
open Go

end Glb

/-
  The program's reader.
-/
namespace Glb
open Go
set_option maxRecDepth 10000
set_option maxHeartbeats 4000000

theorem Rd.byte_at {F : Nat → Prop} {h : AHeap} {l : List Int} {a : AV} (hx : Rd F h (dBytes l) a) {i : Nat} (hi : i < l.length) :
    ∃ p, aindex 1 a (.int .i64 i) = some p ∧ aload h false 1 p = some (.int .u8 l[i]) := by
  obtain ⟨p, cs, hp, hpc, hcs⟩ := hx.index .i64 (i := i) (d := [.int .u8 l[i]]) (by omega) (by simp [hi])
  simp only [RdL, Rd] at hcs
  obtain ⟨_, _, rfl, rfl, rfl⟩ := hcs
  exact ⟨p, hp, by rw [aload_p hpc]; exact take_one _ _ _⟩
theorem Rd.bytes_len {F : Nat → Prop} {h : AHeap} {l : List Int} {a : AV} (hx : Rd F h (dBytes l) a) : alen a = some (.int .i64 l.length) := by simpa using hx.len

abbrev only (q : Nat) : Nat → Prop := fun m => m = q
end Glb

/-
  The program's reader (its lists), and the document's.
-/
namespace Glb
open Go
set_option maxRecDepth 10000
set_option maxHeartbeats 4000000

end Glb

/-
  The document's reader.
-/
namespace Glb
open Go
set_option maxRecDepth 10000
set_option maxHeartbeats 4000000

end Glb

/-
  The document's reader: lists; both readers made.
-/
namespace Glb
open Go
set_option maxRecDepth 10000
set_option maxHeartbeats 4000000

end Glb

/-
  Both readers made.
-/
namespace Glb
open Go
set_option maxRecDepth 10000
set_option maxHeartbeats 4000000

def CloneBOk (P : Program) (f : FuncId) : Prop :=
  isFn P f = true ∧ ∀ (F : Nat → Prop) (h : AHeap) (l : List Int) (a : AV), Rd F h (dBytes l) a → l.length ≤ 2^40 → ACalls P f [a] h fun r h' => Own (dBytes l) (fun m => h.length ≤ m) h' r ∧ Ext nof h h'

theorem CloneB_ok {P : Program} {f : FuncId} (hf : Is P f c_slices_Clone_byte_byte) (hk : CloneKit P f) : CloneBOk P f := by
  refine ⟨hf.2, fun F h l a ha hl => ?_⟩
  by_cases h0 : l = []
  · subst h0
    intro G w vs g hv
    obtain ⟨v, rfl, hV⟩ := one_arg hv
    have hz : v = .slice none 0 0 ∨ ∃ p c, v = .slice (some p) 0 c := by
      simp only [dBytes, List.map_nil, Rd, RdLL] at ha
      obtain ⟨es, he, rfl⟩ := ha
      rcases he with ⟨rfl, _⟩ | ⟨t, c, rfl⟩ | ⟨n, off, len, cap, row, gr, rfl, _, hrow, hle, hcl, hes⟩
      · cases hV; exact .inl rfl
      · generalize hee : ([] : List (List AV)) = es at hV
        cases hV with
        | valsNil => exact .inl rfl
        | vals => subst hee; exact .inr ⟨_, _, rfl⟩
      · have h1 : len = 0 := by
          have := congrArg List.length hes
          simp at this; omega
        subst h1
        cases hV with
        | refNil => exact .inl rfl
        | ref => exact .inr ⟨_, _, rfl⟩
    rcases hz with rfl | ⟨p, c, rfl⟩
    · have : ACalls P f [.nils] h fun r h' => Own (dBytes []) (fun m => h.length ≤ m) h' r ∧ Ext nof h h' := by
        refine fun_sound hf.1 (Nat.le_of_ble_eq_true rfl) ?_
        show vc P c_slices_Clone_byte_byte.code ⟨[(0, .nils)], [], h⟩ (atEnd c_slices_Clone_byte_byte.res _)
        have an : anileq false .nils = some (.bool true) := rfl
        simp only [c_slices_Clone_byte_byte, go_sem, reduceIte, Nat.reduceEqDiff, Nat.reduceAdd, Nat.reduceLeDiff, Nat.reducePow, Nat.reduceDiv, Nat.reduceMod, decide_true, rev_nileq, an]
        exact ⟨Own.nils 1, Ext.refl _ _⟩
      exact this G w _ g (one_args .nils)
    · refine (hk.zero p c w).mono ?_
      rintro e w' ⟨a', c', rfl, hsp, hr, hs⟩
      obtain ⟨g', s'⟩ := g.stay hr hs
      refine ⟨_, .vals 0 false 1 [], h, G, rfl, ⟨?_, Ext.refl _ _⟩, g', ?_, s'⟩
      · simp only [dBytes, List.map_nil, Own]; exact .inr (.inl ⟨0, false, rfl, trivial⟩)
      · exact V.vals (G := G) (w := w') 0 false 1 [] a' c' (fun _ _ => undef) (Nat.zero_le _) (fun e => by cases e) (fun _ => hsp) (fun hne => absurd rfl hne) (fun e he => by simp at he) (fun i j c hj => by simp [getc] at hj) (fun i j c hj => by simp [getc] at hj)
  · refine fun_sound hf.1 (Nat.le_of_ble_eq_true rfl) ?_
    show vc P c_slices_Clone_byte_byte.code ⟨[(0, a)], [], h⟩ (atEnd c_slices_Clone_byte_byte.res _)
    have an : anileq false a = some (.bool false) := by
      have hpos : 0 < l.length := List.length_pos_iff.2 h0
      have hl' := ha.bytes_len
      simp only [dBytes, Rd] at ha
      obtain ⟨es, he, hes⟩ := ha
      have hlen := RdLL_length hes
      rw [List.length_map] at hlen
      rcases he with ⟨rfl, rfl⟩ | ⟨t, c, rfl⟩ | ⟨n, off, len, cap, row, gr, rfl, _, hrow, hle, hcl, rfl⟩
      · simp at hlen; omega
      · simp only [anileq, sliceish, anil, if_true]; rw [if_pos (by omega)]; rfl
      · simp only [List.length_take, List.length_drop] at hlen
        simp only [anileq, sliceish, anil, if_true]; rw [if_pos (by omega)]; rfl
    obtain ⟨ys, hys, hyr⟩ := (ha.up (Ext.b1 (some (.arr 1 [] false)))).elems
    obtain ⟨o, h', hap, ho', hc', he'⟩ := own_app (lo := h.length) (sz := 1) (bytes := 1) (ds := []) (h0 := h ++ [some (.arr 1 [] false)]) (h := h ++ [some (.arr 1 [] false)]) (av := .ref h.length 1 0 0 (some 0))
      (by simp only [Own]; exact .inr (.inr ⟨_, 0, some 0, [], false, rfl, Nat.le_refl _, bx10 _ _, by simp, (fun c hc => by cases hc; simp), by simp [OwnLL]⟩))
      ⟨[], false, bx10 _ _, (fun h => by cases h), fun c hc => by cases hc; simp⟩ (Ext.refl nof _) (own_ints1 hyr) (by simp) (by simp; omega)
    have ha2 := aappend_of hys 1 (.ref h.length 1 0 0 (some 0))
    rw [hap] at ha2
    simp only [c_slices_Clone_byte_byte, go_sem, reduceIte, Nat.reduceEqDiff, Nat.reduceAdd, Nat.reduceLeDiff, Nat.reducePow, Nat.reduceDiv, Nat.reduceMod, decide_true, rev_nileq, an, ha2]
    exact ⟨by simpa [dBytes] using ho', (Ext.b1 _).then he' (fun m hm hm' => by omega)⟩

end Glb
