/-
  A library of its own: its parts, one behind the other.
-/
import Derived.Test.YthbhbgnngmfpiaaGlbTurA
import Derived.Test.YthbhbgnngmfpiaaGlbImgB
import Derived.Test.YthbhbgnngmfpiaaGlbImgC
import Derived.Test.YthbhbgnngmfpiaaGlbLibB
import Derived.Test.YthbhbgnngmfpiaaGlbQuoB
import Derived.Test.YthbhbgnngmfpiaaGlbQuoA
import Derived.Test.YthbhbgnngmfpiaaGlbCkit2
set_option linter.unusedSimpArgs false
set_option linter.unusedVariables false
/-
  The document's reader of logs, members and votes.
-/
namespace Glb
open Go
set_option maxRecDepth 10000
set_option maxHeartbeats 16000000

end Glb

/-
  The document's reader of logs.
-/
namespace Glb
open Go
set_option maxRecDepth 10000
set_option maxHeartbeats 16000000

end Glb

/-
  The document's Get.
-/
namespace Glb
open Go
set_option maxRecDepth 10000
set_option maxHeartbeats 16000000

end Glb

/-
  The document's GetChanges.
-/
namespace Glb
open Go
set_option maxRecDepth 10000
set_option maxHeartbeats 16000000

end Glb

/-
  The document's GetConf.
-/
namespace Glb
open Go
set_option maxRecDepth 10000
set_option maxHeartbeats 16000000

end Glb

/-
  Bytes lent, bytes kept.
-/
namespace Glb
open Go
set_option maxRecDepth 10000
set_option maxHeartbeats 16000000

def lentB (l : List Int) : List Int := l ++ List.replicate 5 165
def LentBytesO (P : Program) (f : FuncId) : Prop := isFn P f = true ∧ ∀ (l : List Int) (h : AHeap), l.length ≤ 2^40 → ACalls P f [abytes l] h fun r h' => Own (dBytes (lentB l)) (fun m => h.length ≤ m) h' r ∧ Ext nof h h'
theorem LentBytes_own {P : Program} {f : FuncId} (hf : Is P f c_glebekit_LentBytes) : LentBytesO P f := by
  refine ⟨hf.2, fun l h hl => fun_sound hf.1 (Nat.le_of_ble_eq_true rfl) ?_⟩
  show vc P c_glebekit_LentBytes.code ⟨[(0, abytes l)], [], h⟩ (atEnd c_glebekit_LentBytes.res _)
  have e1 : IntKind.i64.wrap ((l.length : Int) + 5) = ((l.length + 5 : Nat) : Int) := by rw [wrap_i64 (by omega)]; omega
  have hm := amks_int (h := h) (sz := 1) (bytes := 1) (zero := [.int .u8 0]) (k := .i64) (k' := .i64) (l := ((l.length + 5 : Nat) : Int)) (c := ((l.length + 5 : Nat) : Int)) (by omega) (by omega) (by omega)
  simp only [Int.toNat_natCast] at hm
  have hlen : (lentB l).length = l.length + 5 := by simp [lentB]
  simp only [c_glebekit_LentBytes, go_sem, reduceIte, Nat.reduceEqDiff, Nat.reduceAdd, Nat.reduceLeDiff, Nat.reducePow, Nat.reduceDiv, Nat.reduceMod, decide_true, e1, hev_mks, hm]
  refine vc_loop (fun m L h' => ∃ (i : Nat) (row : List (List AV)), lk 0 L = abytes l ∧ lk 3 L = .ref h.length 1 0 (l.length + 5) (some (l.length + 5)) ∧ lk 4 L = .int .i64 i ∧ h' = h ++ [some (.arr 1 row false)] ∧ row.length = l.length + 5 ∧
    (∀ j, j < l.length + 5 → ∃ v, row[j]? = some [.int .u8 v]) ∧ (∀ j, j < i → row[j]? = (lentB l)[j]?.map fun n => [.int .u8 n]) ∧ i ≤ l.length + 5 ∧ m = l.length + 5 - i) (l.length + 5) ?_ ?_
  · exact ⟨0, _, by simp [lk_ins, lk_cons], by simp [lk_ins, lk_cons], by simp [lk_ins], rfl, by simp, fun j hj => ⟨0, by simp [hj]⟩, fun j hj => by omega, by omega, by omega⟩
  · rintro m L h' ⟨i, row, h0, h3, h4, rfl, hr, hv, hd, hi, rfl⟩
    have la3 : alen (.ref h.length 1 0 (l.length + 5) (some (l.length + 5))) = some (.int .i64 ((l.length + 5 : Nat) : Int)) := rfl
    simp only [c_glebekit_LentBytes_l0, go_sem, reduceIte, Nat.reduceEqDiff, Nat.reduceAdd, Nat.reduceLeDiff, Nat.reducePow, Nat.reduceDiv, Nat.reduceMod, decide_true, h0, h3, h4, la3]
    refine wCond_split (fun ci => ?_) (fun ci => ?_)
    · simp at ci
      have ci' : i < l.length + 5 := by omega
      obtain ⟨v, hvi⟩ := hv i ci'
      have e2 : IntKind.i64.wrap (↑i + 1) = (i : Int) + 1 := wrap_i64 (by omega)
      have hix : aindex 1 (.ref h.length 1 0 (l.length + 5) (some (l.length + 5))) (.int .i64 i) = some (.ptr h.length 1 i 0) := by
        simp only [aindex]; rw [if_pos ⟨trivial, by omega, by omega⟩]; simp
      have st : ∀ (row : List (List AV)) (u w : Int), row[i]? = some [.int .u8 w] → astore (h ++ [some (.arr 1 row false)]) 1 (.ptr h.length 1 i 0) (.int .u8 u) = some (h ++ [some (.arr 1 (row.set i [.int .u8 u]) false)]) := fun row u w hw => by
        have := astore_elem (x := .int .u8 u) (bx10 h (some (.arr 1 row false))) hw rfl rfl rfl rfl
        rw [this, sx10]
      simp only [go_sem, reduceIte, Nat.reduceEqDiff, Nat.reduceAdd, Nat.reduceLeDiff, Nat.reducePow, Nat.reduceDiv, Nat.reduceMod, decide_true, h0, h3, h4, hix, st row 165 v hvi]
      have hset : (row.set i [.int .u8 165])[i]? = some [.int .u8 165] := List.getElem?_set_self (by omega)
      have nxt : ∀ (u : Int) (row' : List (List AV)), (∀ j, j ≠ i → row'[j]? = row[j]?) → row'[i]? = some [.int .u8 u] → (lentB l)[i]? = some u → (∀ j, j < l.length + 5 → ∃ v, row'[j]? = some [.int .u8 v]) ∧ (∀ j, j < i + 1 → row'[j]? = (lentB l)[j]?.map fun n => [.int .u8 n]) := by
        intro u row' ho hn hl
        refine ⟨fun j hj => ?_, fun j hj => ?_⟩
        · by_cases e : j = i
          · subst e; exact ⟨u, hn⟩
          · rw [ho j e]; exact hv j hj
        · by_cases e : j = i
          · subst e; rw [hn, hl]; rfl
          · rw [ho j e]; exact hd j (by omega)
      by_cases cl : (i : Int) < l.length
      · obtain ⟨p, hp, hpv⟩ := (rd_abytes nof (h ++ [some (.arr 1 (row.set i [.int .u8 165]) false)]) l).byte_at (i := i) (by omega)
        simp only [go_sem, reduceIte, Nat.reduceEqDiff, Nat.reduceAdd, Nat.reduceLeDiff, Nat.reducePow, Nat.reduceDiv, Nat.reduceMod, decide_true, h0, h3, h4, decide_eq_true cl, hix, hp, hpv, st _ (l[i]'(by omega)) 165 hset, e2]
        obtain ⟨q1, q2⟩ := nxt (l[i]'(by omega)) ((row.set i [.int .u8 165]).set i [.int .u8 (l[i]'(by omega))]) (fun j hj => by rw [List.getElem?_set_ne (fun e => hj e.symm), List.getElem?_set_ne (fun e => hj e.symm)])
          (List.getElem?_set_self (by simp; omega)) (by simp only [lentB]; rw [List.getElem?_append_left (by omega)]; simp)
        exact ⟨_, by omega, i + 1, _, by simp, rfl, by simpa using hr, q1, q2, by omega, rfl⟩
      · simp only [go_sem, reduceIte, Nat.reduceEqDiff, Nat.reduceAdd, Nat.reduceLeDiff, Nat.reducePow, Nat.reduceDiv, Nat.reduceMod, decide_true, h0, h3, h4, decide_eq_false cl, e2]
        obtain ⟨q1, q2⟩ := nxt 165 (row.set i [.int .u8 165]) (fun j hj => List.getElem?_set_ne (fun e => hj e.symm)) hset (by simp only [lentB]; rw [List.getElem?_append_right (by omega), List.getElem?_replicate, if_pos (by omega)])
        exact ⟨_, by omega, i + 1, _, by simp, rfl, by simpa using hr, q1, q2, by omega, rfl⟩
    · simp at ci
      obtain rfl : i = l.length + 5 := by omega
      have hrow : row = (lentB l).map fun n => [.int .u8 n] := by
        apply List.ext_getElem?
        intro j
        rcases Nat.lt_or_ge j (l.length + 5) with hj | hj
        · rw [hd j hj, List.getElem?_map]
        · rw [List.getElem?_eq_none (by omega), List.getElem?_eq_none (by simp [hlen]; omega)]
      subst hrow
      simp only [go_sem, reduceIte, Nat.reduceEqDiff, Nat.reduceAdd, Nat.reduceLeDiff, Nat.reducePow, Nat.reduceDiv, Nat.reduceMod, decide_true, h3]
      refine ⟨?_, Ext.b1 _⟩
      simp only [dBytes, Own, List.length_map, hlen]
      exact .inr (.inr ⟨_, 0, _, _, false, rfl, Nat.le_refl _, bx10 _ _, by simp [hlen], (fun c hc => by cases hc; omega), by rw [List.drop_zero, List.take_of_length_le (by simp [hlen])]; exact ownLL_ints .u8 _ _ (lentB l)⟩)

def KeptBOk (P : Program) (f : FuncId) : Prop :=
  isFn P f = true ∧ ∀ (F : Nat → Prop) (h : AHeap) (l : List Int) (a b : AV), Rd F h (dBytes (lentB l)) a → Rd F h (dBytes l) b → l.length ≤ 2^40 → ACalls P f [a, b] h fun r h' => r = .bool true ∧ h' = h

theorem KeptBytes_ok {P : Program} {f g : FuncId} (hf : Is P f (c_glebekit_KeptBytes g)) (hg : SameOk P g .u8) : KeptBOk P f := by
  refine ⟨hf.2, fun F h l a b ha hb hl => fun_sound hf.1 (Nat.le_of_ble_eq_true rfl) ?_⟩
  show vc P (c_glebekit_KeptBytes g).code ⟨[(0, a), (1, b)], [], h⟩ (atEnd (c_glebekit_KeptBytes g).res _)
  have hlen : (lentB l).length = l.length + 5 := by simp [lentB]
  have la := ha.bytes_len
  have lb := hb.bytes_len
  rw [hlen] at la
  have e1 : IntKind.i64.wrap ((l.length : Int) + 5) = ((l.length + 5 : Nat) : Int) := by rw [wrap_i64 (by omega)]; omega
  obtain ⟨c, hs, hc⟩ := Rd.slice ha (lo := none) (hi := some (l.length : Int)) (mx := none) (by simp) (by simp) (by simp [hlen]; omega) (by simp) (by simp [hlen]; omega) (by simp)
  have hc2 : Rd F h (dBytes l) c := by
    have : (lentB l).take l.length = l := by simp [lentB]
    simpa [dBytes, ← List.map_take, this] using hc
  simp only [c_glebekit_KeptBytes, go_sem, reduceIte, Nat.reduceEqDiff, Nat.reduceAdd, Nat.reduceLeDiff, Nat.reducePow, Nat.reduceDiv, Nat.reduceMod, decide_true, la, lb, e1, aslc, hs]
  refine use1 hg.1 (hg.2 F _ l l c b hc2 hb hl) ?_
  simp only [go_sem, reduceIte, Nat.reduceEqDiff, Nat.reduceAdd, Nat.reduceLeDiff, Nat.reducePow, Nat.reduceDiv, Nat.reduceMod, decide_true, lb]
  refine vc_loop (fun m L h' => ∃ (i : Nat), lk 0 L = a ∧ lk 5 L = .int .i64 i ∧ h' = h ∧ l.length ≤ i ∧ i ≤ l.length + 5 ∧ m = l.length + 5 - i) 5 ?_ ?_
  · exact ⟨l.length, by simp [lk_ins, lk_cons], by simp [lk_ins], rfl, by omega, by omega, by omega⟩
  · rintro m L h' ⟨i, h0, h5, rfl, hi, hi2, rfl⟩
    simp only [c_glebekit_KeptBytes_l0, go_sem, reduceIte, Nat.reduceEqDiff, Nat.reduceAdd, Nat.reduceLeDiff, Nat.reducePow, Nat.reduceDiv, Nat.reduceMod, decide_true, h0, h5, la]
    refine wCond_split (fun ci => ?_) (fun ci => ?_)
    · simp at ci
      obtain ⟨p, hp, hv⟩ := ha.byte_at (i := i) (by omega)
      have e : IntKind.i64.wrap (↑i + 1) = (i : Int) + 1 := wrap_i64 (by omega)
      have hx : (lentB l)[i]'(by omega) = 165 := by simp only [lentB]; rw [List.getElem_append_right hi]; exact List.getElem_replicate _
      simp only [go_sem, reduceIte, Nat.reduceEqDiff, Nat.reduceAdd, Nat.reduceLeDiff, Nat.reducePow, Nat.reduceDiv, Nat.reduceMod, decide_true, h0, h5, hp, hv, hx, e]
      exact ⟨_, by omega, i + 1, by simp, by omega, by omega, rfl⟩
    · simp only [go_sem, reduceIte, Nat.reduceEqDiff, Nat.reduceAdd, Nat.reduceLeDiff, Nat.reducePow, Nat.reduceDiv, Nat.reduceMod, decide_true]

end Glb
