/-
  The library's sorted keys of a map of numbers, as they stand in this program: what maps.Keys hands back, and slices.Sorted of it.
-/
import Derived.Test.YtgjgniadldlmiaaSortX
import Derived.Shelf.SlIterI.Nil
import Derived.Shelf.SortM.Plain
import Derived.Shelf.SortM.SortNone
namespace Go.Proofs.Ytgjgniadldlmiaa
open Go Go.Proofs Go.RowKit Go.Maps Go.Sort Go.Shelf Go.WideElems Go.MapKept

theorem sortsA (m : Nat) : AnyZI.SortsIn Try.prog Try.sortedA_ren Fence.wide m :=
  ⟨fun blk off cap ss W hH hblk hsz => callsIn_wide.2 (AnyM.slices_Sort_int Try.sortA blk off cap ss W hH hblk hsz),
   fun p cap W => callsIn_wide.2 (AnyM.slices_Sort_int_none Try.sortA p cap W)⟩

theorem mapKeys (b : Nat) (w : World) : Calls Try.prog 45 #[.map (some b)] w fun e w' => e = .returned (.func (.func 57) #[] #[.pointer (some ⟨w.heap.size, 0, none⟩)]) ∧ ∃ ty, w' = w.alloc (.cells #[.map (some b)] ty) := by
  have h : CallsIn Fence.wide 5 Try.prog 45 #[.map (some b)] w fun e w' => e = .returned (.func (.func 57) #[] #[.pointer (some ⟨w.heap.size, 0, none⟩)]) ∧ w' = w.alloc (.cells #[.map (some b)] 50) := AnyZI.keys_in Try.keysA Fence.wide 5 trivial rfl (some b) w
  exact ((callsIn_wide (n := 5)).1 h).mono fun e w' hk => ⟨hk.1, _, hk.2⟩

/-- a map's entries: their keys numbers, their values whatever they are -/
def anyR : Value → Option (DataW Unit × List MemPlace) := fun _ => some (.nil, [])

theorem readI {x : MapEntry} {k : Int} (hk : x.key = .int .i64 k) (hr : -9223372036854775808 ≤ k ∧ k ≤ 9223372036854775807) : rd Try.prog 3 anyR x = some (.int .i64 k, .nil) := by
  have hw : (Lit.int .i64 k).wf = true := by simp only [Lit.wf, Bool.and_eq_true, decide_eq_true_eq]; exact hr
  have hkey : keyOf Try.prog 3 x.key = some (.int .i64 k) := by rw [keyOf_int Try.underlying3, hk]; simp [mapKey, Try.underlying3, hw]
  obtain ⟨key, v, born⟩ := x
  exact rd_mk (R := anyR) (yv := (.nil, [])) hkey rfl

set_option maxHeartbeats 1000000 in
theorem mapSorted (b blk : Nat) (es : Array MapEntry) (clock : Nat) (ks : List Int) (w : World) (hb : w.heap[b]? = some (.map es clock)) (hst : Stamped es clock) (hsz : es.size ≤ 2^20)
    (hks : es.toList.map (·.key) = ks.map (Value.int .i64)) (hr : ∀ k ∈ ks, -9223372036854775808 ≤ k ∧ k ≤ 9223372036854775807) (hblk : blk < w.heap.size) (hc : w.cell? ⟨blk, 0, none⟩ = some (.map (some b))) :
    Calls Try.prog 44 #[.func (.func 57) #[] #[.pointer (some ⟨blk, 0, none⟩)]] w fun e w' => ∃ (v : Value) (ss : List Int) (ty : TypeId), e = .returned v ∧ ss.Perm ks ∧
      w'.ownsRow w.heap.size ty 1 v ss.length ((ss.mergeSort (fun x y => decide (x ≤ y))).map (Value.int .i64)) ∧ Below w.heap.size w w' := by
  have hkey : ∀ x ∈ es.toList, ∃ k : Int, x.key = .int .i64 k ∧ k ∈ ks := by
    intro x hx
    have : x.key ∈ ks.map (Value.int .i64) := by rw [← hks]; exact List.mem_map.2 ⟨x, hx, rfl⟩
    obtain ⟨k, hk, e⟩ := List.mem_map.1 this
    exact ⟨k, e.symm, hk⟩
  have hfit : Fit Try.prog 3 anyR es clock := ⟨by unfold maxLen; omega, hst, fun x hx => by
    obtain ⟨k, hk, hm⟩ := hkey x hx
    exact ⟨_, readI hk (hr k hm)⟩⟩
  have hown : w.ownsMap Try.prog 3 anyR b es.size (.map ((es.toList.map (rg Try.prog 3 anyR)).foldr DataW.insert [])) := ⟨es, clock, hb, hfit, Nat.le_refl _, rfl⟩
  have hseq := AnyZI.keys_gives (ρ := Try.keysA_ren) { Try.keysA with } Fence.wide 2 trivial rfl (by omega) blk b es.size _ w hblk hc hown
  have hlen : Maps.size (DataW.map ((es.toList.map (rg Try.prog 3 anyR)).foldr DataW.insert [])) = es.size := by simp [Maps.size, length_sorted]
  have cS := AnyZI.sorted_in Try.sortedA Fence.wide 5 trivial trivial trivial trivial rfl (by omega) (sortsA _) (enters_of Try.func56 (by kernel_rfl) rfl) 57 #[.pointer (some ⟨blk, 0, none⟩)] trivial (enters_of Try.func57 (by kernel_rfl) rfl) _ _ (by rw [hlen]; unfold maxLen; omega) (by rw [hlen]; omega) w hseq
  change CallsIn _ _ Try.prog 44 _ _ _ at cS
  refine ((callsIn_wide (n := 5)).1 cS).mono ?_
  rintro e w' ⟨v, ss, rfl, hp, hrow, -, hbe⟩
  refine ⟨v, ss, _, rfl, hp.trans ?_, hrow, hbe⟩
  show ((((es.toList.map (rg Try.prog 3 anyR)).foldr DataW.insert []).map fun p => Go.intOf p.1)).Perm ks
  refine ((Go.WideShapes.sorted_perm _).map _).trans ?_
  have : (es.toList.map (rg Try.prog 3 anyR)).map (fun p => Go.intOf p.1) = ks := by
    apply List.ext_getElem?
    intro i
    have h1 : (es.toList.map (·.key))[i]? = (ks.map (Value.int .i64))[i]? := by rw [hks]
    simp only [List.getElem?_map] at h1 ⊢
    cases hx : es.toList[i]? with
    | none =>
      rw [hx] at h1
      simp only [Option.map_none] at h1 ⊢
      cases hk : ks[i]? with
      | none => rfl
      | some k => rw [hk] at h1; simp at h1
    | some x =>
      rw [hx] at h1
      obtain ⟨k, hk, hm⟩ := hkey x (List.mem_of_getElem? hx)
      simp only [Option.map_some] at h1 ⊢
      rw [rg_of (readI hk (hr k hm))]
      cases hk2 : ks[i]? with
      | none => rw [hk2] at h1; simp at h1
      | some k2 =>
        rw [hk2, hk] at h1
        simp at h1
        subst h1
        rfl
  rw [this]

end Go.Proofs.Ytgjgniadldlmiaa
