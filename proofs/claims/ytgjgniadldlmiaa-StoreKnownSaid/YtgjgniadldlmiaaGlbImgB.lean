/-
  A library of its own: its parts, one behind the other.
-/
import Derived.Test.YtgjgniadldlmiaaGlbKitB
import Derived.Test.YtgjgniadldlmiaaGlbImgA
import Derived.Test.YtgjgniadldlmiaaGlbConA
import Derived.Test.YtgjgniadldlmiaaGlbCread
import Derived.Test.YtgjgniadldlmiaaGlbConB
import Derived.Test.YtgjgniadldlmiaaGlbLibB
set_option linter.unusedSimpArgs false
set_option linter.unusedVariables false
/-
  A list of one's own that is appended to, its new items' rows somewhere else.
-/
namespace Glb
open Go

end Glb

/-
  The program's reader.
-/
namespace Glb
open Go
set_option maxRecDepth 10000
set_option maxHeartbeats 4000000

theorem Rd.byte_at {F : Nat → Prop} {h : AHeap} {l : List Int} {a : AV} (hx : Rd F h (dBytes l) a) {i : Nat} (hi : i < l.length) :
    ∃ p, aindex 1 a (.int .i64 i) = some p ∧ aload h false 1 p = some (.int .u8 l[i]) := by
  obtain ⟨p, cs, hp, hpc, hcs⟩ := hx.index .i64 (i := i) (d := [.int .u8 l[i]]) (by omega) (by simp [hi])
  simp only [RdL, Rd] at hcs
  obtain ⟨_, _, rfl, rfl, rfl⟩ := hcs
  exact ⟨p, hp, by rw [aload_p hpc]; exact take_one _ _ _⟩
theorem Rd.bytes_len {F : Nat → Prop} {h : AHeap} {l : List Int} {a : AV} (hx : Rd F h (dBytes l) a) : alen a = some (.int .i64 l.length) := by simpa using hx.len

/-- a list of one's own, from some item on -/
theorem own_from {F : Nat → Prop} {sz : Nat} {ds : List (List D)} {h : AHeap} {av : AV} (ho : Own (.sl sz ds) F h av) {k : Int} (h0 : 0 ≤ k) (hk : k ≤ ds.length) :
    ∃ av', aslice sz av (some k) none none = some av' ∧ Own (.sl sz (ds.drop k.toNat)) F h av' := by
  simp only [Own] at ho
  rcases ho with ⟨rfl, rfl⟩ | ⟨t, c, rfl, rfl⟩ | ⟨n, off, cap, row, g, rfl, hn, hrow, hle, hcl, hd⟩
  · have : k = 0 := by simpa using (by simp at hk; omega : k = 0)
    subst this
    exact ⟨.nils, by simp [aslice], Own.nils sz⟩
  · have : k = 0 := by simpa using (by simp at hk; omega : k = 0)
    subst this
    refine ⟨.vals t (sliceClip none 0 0 c) sz [], by simp [aslice], ?_⟩
    simp only [List.drop_nil, Own]
    exact .inr (.inl ⟨t, _, rfl, trivial⟩)
  · have hc2 : ((cap.getD ds.length : Nat) : Int) ≥ ds.length := by
      cases cap with
      | none => simp
      | some c => have := hcl c rfl; simp; omega
    simp only [aslice, Option.getD_some, Option.getD_none]
    rw [if_pos ⟨trivial, h0, by omega, .inl (by omega), by omega, by omega⟩]
    by_cases e0 : k = 0
    · subst e0
      rw [if_pos rfl]
      refine ⟨_, rfl, ?_⟩
      simp only [Int.toNat_zero, List.drop_zero, Int.toNat_natCast, Own]
      refine .inr (.inr ⟨n, off, _, row, g, rfl, hn, hrow, hle, fun c hc => ?_, hd⟩)
      cases cap with
      | none => simp [sliceCap] at hc
      | some c' => have := hcl c' rfl; simp [sliceCap] at hc; omega
    · rw [if_neg e0]
      by_cases e1 : k < (ds.length : Int)
      · refine ⟨_, if_pos e1, ?_⟩
        simp only [Own, List.length_drop]
        refine .inr (.inr ⟨n, off + k.toNat, sliceCap none k.toNat cap, row, g, by rw [show ((ds.length : Int)).toNat - k.toNat = ds.length - k.toNat by omega], hn, hrow, by omega, fun c hc => ?_, ?_⟩)
        · cases cap with
          | none => simp [sliceCap] at hc
          | some c' => have := hcl c' rfl; simp [sliceCap] at hc; omega
        · have := OwnLL_drop hd k.toNat
          rw [List.drop_take, List.drop_drop] at this
          exact this
      · refine ⟨_, if_neg e1, ?_⟩
        have : ds.drop k.toNat = [] := List.drop_eq_nil_of_le (by omega)
        rw [this]
        simp only [Own]
        exact .inr (.inl ⟨0, false, rfl, trivial⟩)

def rTake (n : Int) : Rdr → Option (List Int) × Rdr
  | none => (none, none)
  | some l => if n < 0 ∨ (l.length : Int) < n then (none, none) else (some (l.take n.toNat), some (l.drop n.toNat))
theorem rInt_take (st : Rdr) : rInt st = match rTake 8 st with
    | (none, s) => (0, s)
    | (some p, s) => (valOf p, s) := by
  cases st with
  | none => rfl
  | some l =>
    simp only [rInt, rTake]
    by_cases c : l.length < 8
    · rw [if_pos c, if_pos (by omega)]
    · rw [if_neg c, if_neg (by omega)]; rfl
def Rdr.all (st : Rdr) : List Int := st.getD []
/-- the program's reader: what is left lies in rows of F -/
def RdrS (F : Nat → Prop) (h : AHeap) (q : Nat) (st : Rdr) : Prop :=
  (∃ a, h[q]? = some (some (.arr 2 [[a, .bool st.isNone]] false)) ∧ Own (dBytes st.all) F h a) ∧ bytesOk st.all ∧ st.all.length ≤ 2^40

theorem RdrS.lt {F : Nat → Prop} {h : AHeap} {q : Nat} {st : Rdr} (hr : RdrS F h q st) : q < h.length := (List.getElem?_eq_some_iff.1 hr.1.choose_spec.1).1
abbrev only (q : Nat) : Nat → Prop := fun m => m = q
theorem Ext.setOnly {h : AHeap} (q : Nat) (x : Option ABlk) : Ext (only q) h (h.set q x) := Ext.set x (fun _ => rfl)
theorem own_setq {d : D} {F : Nat → Prop} {h : AHeap} {a : AV} (ho : Own d F h a) {q : Nat} (hq : ¬ F q) (x : Option ABlk) : Own d F (h.set q x) a :=
  Own.mono _ (fun m hm => hm) (fun m hm y hy => by rw [List.getElem?_set_ne (by rintro rfl; exact hq hm)]; exact hy) _ ho

def FailR (P : Program) (f : FuncId) : Prop := isFn P f = true ∧ ∀ (F : Nat → Prop) (h : AHeap) (q : Nat) (st : Rdr), RdrS F h q st → ACalls P f [.ptr q 2 0 0] h fun _ h' => RdrS F h' q none ∧ Ext (only q) h h'
def TakeR (P : Program) (f : FuncId) : Prop := isFn P f = true ∧ ∀ (F : Nat → Prop) (h : AHeap) (q : Nat) (st : Rdr) (n : Int), RdrS F h q st → ¬ F q →
  ACalls P f [.ptr q 2 0 0, .int .i64 n] h fun r h' => RdrS F h' q (rTake n st).2 ∧ Ext (only q) h h' ∧ ∃ p, r = .tup [p, .bool (rTake n st).1.isSome] ∧ Own (dBytes ((rTake n st).1.getD [])) F h' p
def IntR (P : Program) (f : FuncId) : Prop := isFn P f = true ∧ ∀ (F : Nat → Prop) (h : AHeap) (q : Nat) (st : Rdr), RdrS F h q st → ¬ F q →
  ACalls P f [.ptr q 2 0 0] h fun r h' => r = .int .i64 (rInt st).1 ∧ RdrS F h' q (rInt st).2 ∧ Ext (only q) h h'
theorem fail_ok {P : Program} {f : FuncId} (hf : Is P f c_pack_Reader_fail) : FailR P f := by
  refine ⟨hf.2, fun F h q st hr => fun_sound hf.1 (Nat.le_of_ble_eq_true rfl) ?_⟩
  show vc P c_pack_Reader_fail.code ⟨[(0, .ptr q 2 0 0)], [], h⟩ (atEnd c_pack_Reader_fail.res _)
  have hlt := hr.lt
  obtain ⟨⟨a, h1, h2⟩, h3, h4⟩ := hr
  simp only [c_pack_Reader_fail, go_sem, reduceIte, Nat.reduceEqDiff, Nat.reduceAdd, Nat.reduceLeDiff, Nat.reducePow, Nat.reduceDiv, Nat.reduceMod, decide_true, h1, hlt, List.length_set, List.set_set]
  exact ⟨⟨⟨.nils, List.getElem?_set_self hlt, Own.nils 1⟩, by simp [Rdr.all, bytesOk], by simp [Rdr.all]⟩, Ext.setOnly _ _⟩

theorem take_ok {P : Program} {f g : FuncId} (hf : Is P f (c_pack_Reader_take g)) (hg : FailR P g) : TakeR P f := by
  refine ⟨hf.2, fun F h q st n hr hq => fun_sound hf.1 (Nat.le_of_ble_eq_true rfl) ?_⟩
  show vc P (c_pack_Reader_take g).code ⟨[(0, .ptr q 2 0 0), (1, .int .i64 n)], [], h⟩ (atEnd (c_pack_Reader_take g).res _)
  have hlt := hr.lt
  have hr2 := hr
  obtain ⟨⟨a, h1, h2⟩, h3, h4⟩ := hr
  have bad : (rTake n st) = (none, none) → ∀ h', RdrS F h' q none ∧ Ext (only q) h h' → RdrS F h' q (rTake n st).2 ∧ Ext (only q) h h' ∧ ∃ p, AV.tup [.nils, .bool false] = .tup [p, .bool (rTake n st).1.isSome] ∧ Own (dBytes ((rTake n st).1.getD [])) F h' p := by
    intro e h' hh
    rw [e]
    exact ⟨hh.1, hh.2, .nils, rfl, Own.nils 1⟩
  cases st with
  | none =>
    simp only [c_pack_Reader_take, go_sem, reduceIte, Nat.reduceEqDiff, Nat.reduceAdd, Nat.reduceLeDiff, Nat.reducePow, Nat.reduceDiv, Nat.reduceMod, decide_true, h1, Option.isNone_none]
    refine wCall_use ⟨hg.1, hg.2 F h q none hr2⟩ ?_
    rintro _ h' hh
    simp only [go_sem, reduceIte, Nat.reduceEqDiff, Nat.reduceAdd, Nat.reduceLeDiff, Nat.reducePow, Nat.reduceDiv, Nat.reduceMod, decide_true]
    exact bad rfl h' hh
  | some l =>
    have ll := (Own.rd _ (F' := fun _ => True) (fun _ _ => trivial) _ h2).bytes_len
    simp only [Rdr.all, Option.getD_some] at ll h2 h3 h4
    by_cases c1 : n < 0
    · simp only [c_pack_Reader_take, go_sem, reduceIte, Nat.reduceEqDiff, Nat.reduceAdd, Nat.reduceLeDiff, Nat.reducePow, Nat.reduceDiv, Nat.reduceMod, decide_true, h1, Option.isNone_some, decide_eq_true c1]
      refine wCall_use ⟨hg.1, hg.2 F h q _ hr2⟩ ?_
      rintro _ h' hh
      simp only [go_sem, reduceIte, Nat.reduceEqDiff, Nat.reduceAdd, Nat.reduceLeDiff, Nat.reducePow, Nat.reduceDiv, Nat.reduceMod, decide_true]
      exact bad (by simp only [rTake]; rw [if_pos (.inl c1)]) h' hh
    by_cases c2 : (l.length : Int) < n
    · simp only [c_pack_Reader_take, go_sem, reduceIte, Nat.reduceEqDiff, Nat.reduceAdd, Nat.reduceLeDiff, Nat.reducePow, Nat.reduceDiv, Nat.reduceMod, decide_true, h1, Option.isNone_some, decide_eq_false c1, ll, decide_eq_true c2]
      refine wCall_use ⟨hg.1, hg.2 F h q _ hr2⟩ ?_
      rintro _ h' hh
      simp only [go_sem, reduceIte, Nat.reduceEqDiff, Nat.reduceAdd, Nat.reduceLeDiff, Nat.reducePow, Nat.reduceDiv, Nat.reduceMod, decide_true]
      exact bad (by simp only [rTake]; rw [if_pos (.inr c2)]) h' hh
    have h2' : Own (.sl 1 (l.map fun n => [.int .u8 n])) F h a := h2
    obtain ⟨p, s1, s2, s3⟩ := own_clip h2' (k := n) (by omega) (by simp; omega)
    obtain ⟨t, s4, s5⟩ := own_from h2' (k := n) (by omega) (by simp; omega)
    have e : rTake n (some l) = (some (l.take n.toNat), some (l.drop n.toNat)) := by simp only [rTake]; rw [if_neg (by omega)]
    rw [e]
    simp only [c_pack_Reader_take, go_sem, reduceIte, Nat.reduceEqDiff, Nat.reduceAdd, Nat.reduceLeDiff, Nat.reducePow, Nat.reduceDiv, Nat.reduceMod, decide_true, h1, Option.isNone_some, decide_eq_false c1, ll, decide_eq_false c2, aslc, s1, s4, s2.scalar, s5.scalar, cells_of s5.scalar]
    refine ⟨⟨⟨t, ?_, ?_⟩, ?_, ?_⟩, Ext.setOnly _ _, p, rfl, ?_⟩
    · exact List.getElem?_set_self hlt
    · refine own_setq ?_ hq _
      simp only [Rdr.all, Option.getD_some, dBytes, List.map_drop]; exact s5
    · exact h3.drop _
    · simp only [Rdr.all, Option.getD_some, List.length_drop]; omega
    · refine own_setq ?_ hq _
      simp only [Option.getD_some, dBytes, List.map_take]; exact s2

theorem or_u64 (a b : Int) : abin .or (.int .u64 a) (.int .u64 b) = some (.int .u64 (IntKind.u64.wrap (BitVec.ofInt 64 a ||| BitVec.ofInt 64 b).toNat)) := Eq.trans rfl rfl
theorem shl_u64 (a b : Int) : abin .shl (.int .u64 a) (.int .u64 b) = if b < 0 then none else some (.int .u64 (IntKind.u64.wrap (a * 2 ^ (min b.toNat 64)))) := Eq.trans rfl rfl
theorem or_add {u x : Int} (hu : 0 ≤ u) (hu2 : u < 72057594037927936) (hx : 0 ≤ x ∧ x < 256) : IntKind.u64.wrap (BitVec.ofInt 64 (u * 256) ||| BitVec.ofInt 64 x).toNat = u * 256 + x := by
  obtain ⟨m, rfl⟩ := Int.eq_ofNat_of_zero_le hu
  obtain ⟨k, rfl⟩ := Int.eq_ofNat_of_zero_le hx.1
  have e1 : (BitVec.ofInt 64 (((m : Nat) : Int) * 256)).toNat = m <<< 8 := by
    rw [BitVec.toNat_ofInt, Nat.shiftLeft_eq]; omega
  have e2 : (BitVec.ofInt 64 ((k : Nat) : Int)).toNat = k := by
    rw [BitVec.toNat_ofInt]; omega
  rw [BitVec.toNat_or, e1, e2, ← Nat.shiftLeft_add_eq_or_of_lt (by omega) m, Nat.shiftLeft_eq, wrap_u64]
  omega

theorem valU_more {l : List Int} {i : Nat} (hi : i < l.length) : valU (l.take (i + 1)) = valU (l.take i) * 256 + l[i] := by
  rw [List.take_succ_eq_append_getElem hi]; simp only [valU, List.foldl_append, List.foldl_cons, List.foldl_nil]
theorem valU_lt : ∀ (n : Nat) (l : List Int), l.length = n → bytesOk l → 0 ≤ valU l ∧ valU l < 256 ^ n := by
  intro n
  induction n with
  | zero => intro l h _; have := List.eq_nil_of_length_eq_zero h; subst this; simp [valU]
  | succ n ih =>
    intro l h hb
    have hn : n < l.length := by omega
    have := valU_more hn
    rw [List.take_of_length_le (by omega)] at this
    rw [this]
    obtain ⟨h1, h2⟩ := ih (l.take n) (by simp; omega) (hb.take n)
    have hx := hb l[n] (List.getElem_mem _)
    rw [Int.pow_succ]
    omega

theorem pow256 : ∀ i : Nat, i < 8 → (256 : Int) ^ i ≤ 72057594037927936 := by decide

theorem pack_Int_ok {P : Program} {f g : FuncId} (hf : Is P f (c_pack_Reader_Int g)) (hg : TakeR P g) : IntR P f := by
  refine ⟨hf.2, fun F h q st hr hq => fun_sound hf.1 (Nat.le_of_ble_eq_true rfl) ?_⟩
  show vc P (c_pack_Reader_Int g).code ⟨[(0, .ptr q 2 0 0)], [], h⟩ (atEnd (c_pack_Reader_Int g).res _)
  rw [rInt_take]
  have hb : bytesOk ((rTake 8 st).1.getD []) ∧ ((rTake 8 st).1.isSome = true → ((rTake 8 st).1.getD []).length = 8) := by
    have h3 := hr.2.1
    cases st with
    | none => simp [rTake, bytesOk]
    | some l =>
      simp only [rTake]
      split
      · simp [bytesOk]
      · exact ⟨bytesOk.take h3 8, by simp; omega⟩
  simp only [c_pack_Reader_Int, go_sem, reduceIte, Nat.reduceEqDiff, Nat.reduceAdd, Nat.reduceLeDiff, Nat.reducePow, Nat.reduceDiv, Nat.reduceMod, decide_true]
  refine wCall_use ⟨hg.1, hg.2 F h q st 8 hr hq⟩ ?_
  rintro _ h1 ⟨r1, x1, p, rfl, po⟩
  generalize rTake 8 st = T at *
  obtain ⟨o, s⟩ := T
  cases o with
  | none =>
    simp only [go_sem, reduceIte, Nat.reduceEqDiff, Nat.reduceAdd, Nat.reduceLeDiff, Nat.reducePow, Nat.reduceDiv, Nat.reduceMod, decide_true, Option.isSome_none]
    exact ⟨r1, x1⟩
  | some l =>
    simp only [Option.getD_some, Option.isSome_some, forall_const] at hb po
    obtain ⟨hb1, hb2⟩ := hb
    have pr := Own.rd _ (F' := fun _ => True) (fun _ _ => trivial) _ po
    simp only [go_sem, reduceIte, Nat.reduceEqDiff, Nat.reduceAdd, Nat.reduceLeDiff, Nat.reducePow, Nat.reduceDiv, Nat.reduceMod, decide_true, Option.isSome_some, pr.bytes_len]
    refine vc_loop (fun m L h' => ∃ i : Nat, lk 5 L = .int .u64 (valU (l.take i)) ∧ lk 15 L = p ∧ lk 16 L = .int .i64 l.length ∧ lk 17 L = .int .i64 i ∧ h1 = h' ∧ i ≤ l.length ∧ m = l.length - i) l.length ?_ ?_
    · exact ⟨0, by simp [lk_ins, lk_cons, valU], by simp [lk_ins, lk_cons], by simp [lk_ins, lk_cons], by simp [lk_ins], rfl, by omega, by omega⟩
    · rintro m L h' ⟨i, k5, k15, k16, k17, rfl, hi, rfl⟩
      simp only [c_pack_Reader_Int_l0, go_sem, reduceIte, Nat.reduceEqDiff, Nat.reduceAdd, Nat.reduceLeDiff, Nat.reducePow, Nat.reduceDiv, Nat.reduceMod, decide_true, k5, k15, k16, k17]
      refine wCond_split (fun ci => ?_) (fun ci => ?_)
      · simp at ci
        obtain ⟨y, hy, hv⟩ := pr.byte_at ci
        have e1 : IntKind.i64.wrap (↑i + 1) = (i : Int) + 1 := wrap_i64 (by omega)
        have vb := valU_lt i (l.take i) (by simp; omega) (hb1.take i)
        have vb2 : valU (l.take i) < 72057594037927936 := by
          have := pow256 i (by omega)
          omega
        have hx := hb1 l[i] (List.getElem_mem _)
        have e2 : IntKind.u64.wrap (valU (l.take i) * 2 ^ (min (8 : Int).toNat 64)) = valU (l.take i) * 256 := by
          rw [wrap_u64, show (2 : Int) ^ (min (8 : Int).toNat 64) = 256 from rfl]; omega
        have e3 : IntKind.u64.wrap l[i] = l[i] := by rw [wrap_u64]; omega
        have n8 : ¬ (8 : Int) < 0 := by omega
        simp only [go_sem, reduceIte, Nat.reduceEqDiff, Nat.reduceAdd, Nat.reduceLeDiff, Nat.reducePow, Nat.reduceDiv, Nat.reduceMod, decide_true, k5, k15, k16, k17, hy, hv, shl_u64, if_neg n8, e2, e3, or_u64, or_add vb.1 vb2 hx, e1]
        exact ⟨_, by omega, i + 1, by rw [valU_more ci], by simp, ci, rfl⟩
      · simp at ci
        obtain rfl : i = l.length := by omega
        rw [List.take_length] at k5
        simp only [go_sem, reduceIte, Nat.reduceEqDiff, Nat.reduceAdd, Nat.reduceLeDiff, Nat.reducePow, Nat.reduceDiv, Nat.reduceMod, decide_true, k5]
        exact ⟨rfl, r1, x1⟩

end Glb

/-
  The program's reader (its lists), and the document's.
-/
namespace Glb
open Go
set_option maxRecDepth 10000
set_option maxHeartbeats 4000000

end Glb

/-
  The document's reader.
-/
namespace Glb
open Go
set_option maxRecDepth 10000
set_option maxHeartbeats 4000000

theorem pack_Left_r {P : Program} {f : FuncId} (hf : Is P f c_pack_Reader_Left) {F : Nat → Prop} {h : AHeap} {q : Nat} {st : Rdr} (hr : RdrS F h q st) : ACalls P f [.ptr q 2 0 0] h fun r h' => r = .int .i64 st.all.length ∧ h' = h := by
  refine fun_sound hf.1 (Nat.le_of_ble_eq_true rfl) ?_
  show vc P c_pack_Reader_Left.code ⟨[(0, .ptr q 2 0 0)], [], h⟩ (atEnd c_pack_Reader_Left.res _)
  obtain ⟨⟨a, h1, h2⟩, h3, h4⟩ := hr
  have ll := (Own.rd _ (F' := fun _ => True) (fun _ _ => trivial) _ h2).bytes_len
  simp only [c_pack_Reader_Left, go_sem, reduceIte, Nat.reduceEqDiff, Nat.reduceAdd, Nat.reduceLeDiff, Nat.reducePow, Nat.reduceDiv, Nat.reduceMod, decide_true, h1, ll]
theorem pack_Bad_r {P : Program} {f : FuncId} (hf : Is P f c_pack_Reader_Bad) {F : Nat → Prop} {h : AHeap} {q : Nat} {st : Rdr} (hr : RdrS F h q st) : ACalls P f [.ptr q 2 0 0] h fun r h' => r = .bool st.isNone ∧ h' = h := by
  refine fun_sound hf.1 (Nat.le_of_ble_eq_true rfl) ?_
  show vc P c_pack_Reader_Bad.code ⟨[(0, .ptr q 2 0 0)], [], h⟩ (atEnd c_pack_Reader_Bad.res _)
  obtain ⟨⟨a, h1, h2⟩, h3, h4⟩ := hr
  simp only [c_pack_Reader_Bad, go_sem, reduceIte, Nat.reduceEqDiff, Nat.reduceAdd, Nat.reduceLeDiff, Nat.reducePow, Nat.reduceDiv, Nat.reduceMod, decide_true, h1]
end Glb

/-
  The document's reader: lists; both readers made.
-/
namespace Glb
open Go
set_option maxRecDepth 10000
set_option maxHeartbeats 4000000

end Glb

/-
  Both readers made.
-/
namespace Glb
open Go
set_option maxRecDepth 10000
set_option maxHeartbeats 4000000

def CloneBOk (P : Program) (f : FuncId) : Prop :=
  isFn P f = true ∧ ∀ (F : Nat → Prop) (h : AHeap) (l : List Int) (a : AV), Rd F h (dBytes l) a → l.length ≤ 2^40 → ACalls P f [a] h fun r h' => Own (dBytes l) (fun m => h.length ≤ m) h' r ∧ Ext nof h h'

theorem CloneB_ok {P : Program} {f : FuncId} (hf : Is P f c_slices_Clone_byte_byte) (hk : CloneKit P f) : CloneBOk P f := by
  refine ⟨hf.2, fun F h l a ha hl => ?_⟩
  by_cases h0 : l = []
  · subst h0
    intro G w vs g hv
    obtain ⟨v, rfl, hV⟩ := one_arg hv
    have hz : v = .slice none 0 0 ∨ ∃ p c, v = .slice (some p) 0 c := by
      simp only [dBytes, List.map_nil, Rd, RdLL] at ha
      obtain ⟨es, he, rfl⟩ := ha
      rcases he with ⟨rfl, _⟩ | ⟨t, c, rfl⟩ | ⟨n, off, len, cap, row, gr, rfl, _, hrow, hle, hcl, hes⟩
      · cases hV; exact .inl rfl
      · generalize hee : ([] : List (List AV)) = es at hV
        cases hV with
        | valsNil => exact .inl rfl
        | vals => subst hee; exact .inr ⟨_, _, rfl⟩
      · have h1 : len = 0 := by
          have := congrArg List.length hes
          simp at this; omega
        subst h1
        cases hV with
        | refNil => exact .inl rfl
        | ref => exact .inr ⟨_, _, rfl⟩
    rcases hz with rfl | ⟨p, c, rfl⟩
    · have : ACalls P f [.nils] h fun r h' => Own (dBytes []) (fun m => h.length ≤ m) h' r ∧ Ext nof h h' := by
        refine fun_sound hf.1 (Nat.le_of_ble_eq_true rfl) ?_
        show vc P c_slices_Clone_byte_byte.code ⟨[(0, .nils)], [], h⟩ (atEnd c_slices_Clone_byte_byte.res _)
        have an : anileq false .nils = some (.bool true) := rfl
        simp only [c_slices_Clone_byte_byte, go_sem, reduceIte, Nat.reduceEqDiff, Nat.reduceAdd, Nat.reduceLeDiff, Nat.reducePow, Nat.reduceDiv, Nat.reduceMod, decide_true, rev_nileq, an]
        exact ⟨Own.nils 1, Ext.refl _ _⟩
      exact this G w _ g (one_args .nils)
    · refine (hk.zero p c w).mono ?_
      rintro e w' ⟨a', c', rfl, hsp, hr, hs⟩
      obtain ⟨g', s'⟩ := g.stay hr hs
      refine ⟨_, .vals 0 false 1 [], h, G, rfl, ⟨?_, Ext.refl _ _⟩, g', ?_, s'⟩
      · simp only [dBytes, List.map_nil, Own]; exact .inr (.inl ⟨0, false, rfl, trivial⟩)
      · exact V.vals (G := G) (w := w') 0 false 1 [] a' c' (fun _ _ => undef) (Nat.zero_le _) (fun e => by cases e) (fun _ => hsp) (fun hne => absurd rfl hne) (fun e he => by simp at he) (fun i j c hj => by simp [getc] at hj) (fun i j c hj => by simp [getc] at hj)
  · refine fun_sound hf.1 (Nat.le_of_ble_eq_true rfl) ?_
    show vc P c_slices_Clone_byte_byte.code ⟨[(0, a)], [], h⟩ (atEnd c_slices_Clone_byte_byte.res _)
    have an : anileq false a = some (.bool false) := by
      have hpos : 0 < l.length := List.length_pos_iff.2 h0
      have hl' := ha.bytes_len
      simp only [dBytes, Rd] at ha
      obtain ⟨es, he, hes⟩ := ha
      have hlen := RdLL_length hes
      rw [List.length_map] at hlen
      rcases he with ⟨rfl, rfl⟩ | ⟨t, c, rfl⟩ | ⟨n, off, len, cap, row, gr, rfl, _, hrow, hle, hcl, rfl⟩
      · simp at hlen; omega
      · simp only [anileq, sliceish, anil, if_true]; rw [if_pos (by omega)]; rfl
      · simp only [List.length_take, List.length_drop] at hlen
        simp only [anileq, sliceish, anil, if_true]; rw [if_pos (by omega)]; rfl
    obtain ⟨ys, hys, hyr⟩ := (ha.up (Ext.b1 (some (.arr 1 [] false)))).elems
    obtain ⟨o, h', hap, ho', hc', he'⟩ := own_app (lo := h.length) (sz := 1) (bytes := 1) (ds := []) (h0 := h ++ [some (.arr 1 [] false)]) (h := h ++ [some (.arr 1 [] false)]) (av := .ref h.length 1 0 0 (some 0))
      (by simp only [Own]; exact .inr (.inr ⟨_, 0, some 0, [], false, rfl, Nat.le_refl _, bx10 _ _, by simp, (fun c hc => by cases hc; simp), by simp [OwnLL]⟩))
      ⟨[], false, bx10 _ _, (fun h => by cases h), fun c hc => by cases hc; simp⟩ (Ext.refl nof _) (own_ints1 hyr) (by simp) (by simp; omega)
    have ha2 := aappend_of hys 1 (.ref h.length 1 0 0 (some 0))
    rw [hap] at ha2
    simp only [c_slices_Clone_byte_byte, go_sem, reduceIte, Nat.reduceEqDiff, Nat.reduceAdd, Nat.reduceLeDiff, Nat.reducePow, Nat.reduceDiv, Nat.reduceMod, decide_true, rev_nileq, an, ha2]
    exact ⟨by simpa [dBytes] using ho', (Ext.b1 _).then he' (fun m hm hm' => by omega)⟩

def ReadR (P : Program) (f : FuncId) : Prop := isFn P f = true ∧ ∀ (G : Nat → Prop) (h : AHeap) (l : List Int) (b : AV), Rd G h (dBytes l) b → bytesOk l → l.length ≤ 2^40 →
  ACalls P f [b] h fun r h' => ∃ q, r = .ptr q 2 0 0 ∧ h.length ≤ q ∧ RdrS (fun m => h.length ≤ m ∧ m < q) h' q (some l) ∧ Ext nof h h'
theorem pack_Read_ok {P : Program} {f g : FuncId} (hf : Is P f (c_pack_Read g)) (hg : CloneBOk P g) : ReadR P f := by
  refine ⟨hf.2, fun G h l b hb h1 h2 => fun_sound hf.1 (Nat.le_of_ble_eq_true rfl) ?_⟩
  show vc P (c_pack_Read g).code ⟨[(0, b)], [], h⟩ (atEnd (c_pack_Read g).res _)
  simp only [c_pack_Read, go_sem, reduceIte, Nat.reduceEqDiff, Nat.reduceAdd, Nat.reduceLeDiff, Nat.reducePow, Nat.reduceDiv, Nat.reduceMod, decide_true]
  refine wCall_use ⟨hg.1, hg.2 G h l b hb h2⟩ ?_
  rintro r H ⟨ro, rx⟩
  simp only [go_sem, reduceIte, Nat.reduceEqDiff, Nat.reduceAdd, Nat.reduceLeDiff, Nat.reducePow, Nat.reduceDiv, Nat.reduceMod, decide_true, ro.scalar, cells_of ro.scalar]
  refine ⟨H.length, rfl, rx.1, ⟨⟨r, bx10 _ _, ?_⟩, h1, h2⟩, rx.tr (Ext.b1 _)⟩
  exact Own.mono _ (fun m hm => hm) ((Ext.b1 _).keep _) _ (Own.lt _ _ ro)

end Glb
