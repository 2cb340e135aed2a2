/-
  A library of its own: its parts, one behind the other.
-/
import Derived.Test.YtcegihlhpmdbnaaGreatGlbImgD
import Derived.Test.YtcegihlhpmdbnaaGreatGlbLibD
import Derived.Test.YtcegihlhpmdbnaaGreatGlbLibB
import Derived.Test.YtcegihlhpmdbnaaGreatGlbImgB
import Derived.Test.YtcegihlhpmdbnaaGreatGlbKitA
import Derived.Test.YtcegihlhpmdbnaaGreatGlbImgK
import Derived.Test.YtcegihlhpmdbnaaGreatGlbLibE
set_option linter.unusedSimpArgs false
set_option linter.unusedVariables false
/-
  The statements' own order.
-/
namespace Glb
open Go
set_option maxRecDepth 10000
set_option maxHeartbeats 8000000

end Glb

/-
  The example of layer 13.
-/
namespace Glb
open Go
set_option maxRecDepth 10000
set_option maxHeartbeats 16000000

theorem own_row {F : Nat → Prop} {H : AHeap} {sz n len : Nat} {rows : List (List AV)} {g : Bool} {ds : List (List D)} (b : H[n]? = some (some (.arr sz rows g))) (hl : rows.length = len) (hd : ds.length = len) (hF : F n) (ho : OwnLL ds (fun m => F m ∧ m ≠ n) H rows) : Own (.sl sz ds) F H (.ref n sz 0 len (some len)) := by
  simp only [Own]
  refine .inr (.inr ⟨n, 0, some len, rows, g, by rw [hd], hF, b, by omega, (fun c hc => by cases hc; omega), ?_⟩)
  rw [List.drop_zero, List.take_of_length_le (by omega)]
  exact ho
end Glb

/-
  What is read of any bytes has just these bytes: the law ImageOnly.
-/
namespace Glb
open Go
set_option maxRecDepth 10000
set_option maxHeartbeats 16000000

theorem gConf_ok {l : List Int} (hb : bytesOk l) (h : (getConf l).2 = 0) : (getConf l).1.bytes = l ∧ 8 * (getConf l).1.old.length ≤ l.length ∧ 8 * (getConf l).1.new.length ≤ l.length ∧ 8 * (getConf l).1.learners.length ≤ l.length := by
  simp only [getConf] at h ⊢
  by_cases c : (confC.dec (some l)).2.end_ = 0
  · have c' : ¬ (confC.dec (some l)).2.end_ ≠ 0 := by simpa using c
    rw [if_neg c'] at h ⊢
    by_cases o : (confC.dec (some l)).1.right = true
    · rw [if_pos o]
      have es := Rdr.end_zero c
      obtain ⟨n1, n2, n3, n4, -⟩ := conf_len (x := (confC.dec (some l)).1) (r := []) hb (by rw [← es])
      rw [List.append_nil, confC_enc] at n4
      exact ⟨n4.symm, n1, n2, n3⟩
    · rw [if_neg o] at h; cases h
  · rw [if_pos c] at h; exact absurd h c

end Glb
