/-
  A library of its own: its parts, one behind the other.
-/
import Derived.Test.YtdeiamnhnfmilaaGreatGlbKitB
import Derived.Test.YtdeiamnhnfmilaaGreatGlbImgA
import Derived.Test.YtdeiamnhnfmilaaGreatGlbConA
import Derived.Test.YtdeiamnhnfmilaaGreatGlbCread
import Derived.Test.YtdeiamnhnfmilaaGreatGlbConB
import Derived.Test.YtdeiamnhnfmilaaGreatGlbLibB
set_option linter.unusedSimpArgs false
set_option linter.unusedVariables false
namespace Glb
open Go
open Nat (reduceAdd reduceEqDiff reduceLeDiff)
end Glb
namespace Glb
open Go
open Nat (reduceAdd reduceEqDiff reduceLeDiff)
set_option maxRecDepth 10000
set_option maxHeartbeats 4000000
theorem Rd.byte_at {F : Nat -> Prop} {h : AHeap} {l : List Int} {a : AV} (hx : Rd F h (dBytes l) a) {i : Nat} (hi : i < l.length) :
  ∃ p, aindex 1 a (.int .i64 i) = some p /\ aload h false 1 p = some (.int .u8 l[i]) := by
 obtain ⟨p, cs, hp, hpc, hcs⟩ := hx.index .i64 (i := i) (d := [.int .u8 l[i]]) (by omega) (by simp [hi])
 simp only [RdL, Rd] at hcs
 obtain ⟨_, _, rfl, rfl, rfl⟩ := hcs
 exact ⟨p, hp, by rw [aload_p hpc]; exact take_one _ _ _⟩
theorem Rd.bytes_len {F : Nat -> Prop} {h : AHeap} {l : List Int} {a : AV} (hx : Rd F h (dBytes l) a) : alen a = some (.int .i64 l.length) := by simpa using hx.len
theorem own_from {F : Nat -> Prop} {sz : Nat} {ds : List (List D)} {h : AHeap} {av : AV} (ho : Own (.sl sz ds) F h av) {k : Int} (h0 : 0 <= k) (hk : k <= ds.length) :
  ∃ av', aslice sz av (some k) none none = some av' /\ Own (.sl sz (ds.drop k.toNat)) F h av' := by
 simp only [Own] at ho
 rcases ho with ⟨rfl, rfl⟩ | ⟨t, c, rfl, rfl⟩ | ⟨n, off, cap, row, g, rfl, hn, hrow, hle, hcl, hd⟩
 ·have : k = 0 := by simpa using (by simp at hk; omega : k = 0)
  subst this
  exact ⟨.nils, by simp [aslice], Own.nils sz⟩
 ·have : k = 0 := by simpa using (by simp at hk; omega : k = 0)
  subst this
  refine ⟨.vals t (sliceClip none 0 0 c) sz [], by simp [aslice], ?_⟩
  simp only [List.drop_nil, Own]
  exact .inr (.inl ⟨t, _, rfl, trivial⟩)
 ·have hc2 : ((cap.getD ds.length : Nat) : Int) ≥ ds.length := by
   cases cap with
   | none => simp
   | some c => have := hcl c rfl; simp; omega
  simp only [aslice, Option.getD_some, Option.getD_none]
  rw [if_pos ⟨trivial, h0, by omega, .inl (by omega), by omega, by omega⟩]
  by_cases e0 : k = 0
  ·subst e0
   rw [if_pos rfl]
   refine ⟨_, rfl, ?_⟩
   simp only [Int.toNat_zero, List.drop_zero, Int.toNat_natCast, Own]
   refine .inr (.inr ⟨n, off, _, row, g, rfl, hn, hrow, hle, fun c hc => ?_, hd⟩)
   cases cap with
   | none => simp [sliceCap] at hc
   | some c' => have := hcl c' rfl; simp [sliceCap] at hc; omega
  ·rw [if_neg e0]
   by_cases e1 : k < (ds.length : Int)
   ·refine ⟨_, if_pos e1, ?_⟩
    simp only [Own, List.length_drop]
    refine .inr (.inr ⟨n, off + k.toNat, sliceCap none k.toNat cap, row, g, by rw [show ((ds.length : Int)).toNat - k.toNat = ds.length - k.toNat by omega], hn, hrow, by omega, fun c hc => ?_, ?_⟩)
    ·cases cap with
     | none => simp [sliceCap] at hc
     | some c' => have := hcl c' rfl; simp [sliceCap] at hc; omega
    ·have := OwnLL_drop hd k.toNat
     rw [List.drop_take, List.drop_drop] at this
     exact this
   ·refine ⟨_, if_neg e1, ?_⟩
    have : ds.drop k.toNat = [] := List.drop_eq_nil_of_le (by omega)
    rw [this]
    simp only [Own]
    exact .inr (.inl ⟨0, false, rfl, trivial⟩)
def rTake (n : Int) : Rdr -> Option (List Int) × Rdr
 | none => (none, none)
 | some l => if n < 0 \/ (l.length : Int) < n then (none, none) else (some (l.take n.toNat), some (l.drop n.toNat))
theorem rInt_take (st : Rdr) : rInt st = match rTake 8 st with
  | (none, s) => (0, s)
  | (some p, s) => (valOf p, s) := by
 cases st with
 | none => rfl
 | some l =>
  simp only [rInt, rTake]
  by_cases c : l.length < 8
  ·rw [if_pos c, if_pos (by omega)]
  ·rw [if_neg c, if_neg (by omega)]; rfl
theorem rBlob_take (st : Rdr) : rBlob st = (((rTake (rInt st).1 (rInt st).2).1).getD [], (rTake (rInt st).1 (rInt st).2).2) := by
 simp only [rBlob]
 generalize rInt st = x
 obtain ⟨n, s⟩ := x
 cases s with
 | none => rfl
 | some l =>
  simp only [rTake]
  by_cases c : n < 0 \/ (l.length : Int) < n
  ·rw [if_pos c, if_pos c]; rfl
  ·rw [if_neg c, if_neg c]; rfl
def Rdr.all (st : Rdr) : List Int := st.getD []
def RdrS (F : Nat -> Prop) (h : AHeap) (q : Nat) (st : Rdr) : Prop :=
 (∃ a, h[q]? = some (some (.arr 2 [[a, .bool st.isNone]] false)) /\ Own (dBytes st.all) F h a) /\ bytesOk st.all /\ st.all.length <= 2^40
theorem RdrS.keep {F : Nat -> Prop} {h h' : AHeap} {q : Nat} {st : Rdr} (hr : RdrS F h q st) (hq : h'[q]? = h[q]?) (hk : Keep F h h') : RdrS F h' q st := by
 obtain ⟨⟨a, h1, h2⟩, h3, h4⟩ := hr
 exact ⟨⟨a, hq.trans h1, Own.mono _ (fun _ x => x) hk _ h2⟩, h3, h4⟩
theorem RdrS.lt {F : Nat -> Prop} {h : AHeap} {q : Nat} {st : Rdr} (hr : RdrS F h q st) : q < h.length := (List.getElem?_eq_some_iff.1 hr.1.choose_spec.1).1
theorem RdrS.up {F : Nat -> Prop} {h h' : AHeap} {q : Nat} {st : Rdr} (hr : RdrS F h q st) (e : Ext nof h h') : RdrS F h' q st := hr.keep (e.2 _ hr.lt (fun x => x)) (e.keep F)
abbrev only (q : Nat) : Nat -> Prop := fun m => m = q
theorem Ext.setOnly {h : AHeap} (q : Nat) (x : Option ABlk) : Ext (only q) h (h.set q x) := Ext.set x (fun _ => rfl)
theorem own_setq {d : D} {F : Nat -> Prop} {h : AHeap} {a : AV} (ho : Own d F h a) {q : Nat} (hq : ¬ F q) (x : Option ABlk) : Own d F (h.set q x) a :=
 Own.mono _ (fun m hm => hm) (fun m hm y hy => by rw [List.getElem?_set_ne (by rintro rfl; exact hq hm)]; exact hy) _ ho
def FailR (P : Program) (f : FuncId) : Prop := isFn P f = true /\ ∀ (F : Nat -> Prop) (h : AHeap) (q : Nat) (st : Rdr), RdrS F h q st -> ACalls P f [.ptr q 2 0 0] h fun _ h' => RdrS F h' q none /\ Ext (only q) h h'
def TakeR (P : Program) (f : FuncId) : Prop := isFn P f = true /\ ∀ (F : Nat -> Prop) (h : AHeap) (q : Nat) (st : Rdr) (n : Int), RdrS F h q st -> ¬ F q ->
 ACalls P f [.ptr q 2 0 0, .int .i64 n] h fun r h' => RdrS F h' q (rTake n st).2 /\ Ext (only q) h h' /\ ∃ p, r = .tup [p, .bool (rTake n st).1.isSome] /\ Own (dBytes ((rTake n st).1.getD [])) F h' p
def IntR (P : Program) (f : FuncId) : Prop := isFn P f = true /\ ∀ (F : Nat -> Prop) (h : AHeap) (q : Nat) (st : Rdr), RdrS F h q st -> ¬ F q ->
 ACalls P f [.ptr q 2 0 0] h fun r h' => r = .int .i64 (rInt st).1 /\ RdrS F h' q (rInt st).2 /\ Ext (only q) h h'
def BlobR (P : Program) (f : FuncId) : Prop := isFn P f = true /\ ∀ (F : Nat -> Prop) (h : AHeap) (q : Nat) (st : Rdr), RdrS F h q st -> ¬ F q ->
 ACalls P f [.ptr q 2 0 0] h fun r h' => Own (dBytes (rBlob st).1) F h' r /\ RdrS F h' q (rBlob st).2 /\ Ext (only q) h h'
def IntsR (P : Program) (f : FuncId) : Prop := isFn P f = true /\ ∀ (F : Nat -> Prop) (h : AHeap) (q : Nat) (st : Rdr), RdrS F h q st -> ¬ F q ->
 ACalls P f [.ptr q 2 0 0] h fun r h' => Own (dInts (rList rInt st).1) (fun m => h.length <= m) h' r /\ RdrS F h' q (rList rInt st).2 /\ Ext (only q) h h'
theorem fail_ok {P : Program} {f : FuncId} (hf : Is P f c_pack_Reader_fail) : FailR P f := by
 refine ⟨hf.2, fun F h q st hr => fun_sound hf.1 (Nat.le_of_ble_eq_true rfl) ?_⟩
 show vc P c_pack_Reader_fail.code ⟨[(0, .ptr q 2 0 0)], [], h⟩ (atEnd c_pack_Reader_fail.res _)
 have hlt := hr.lt
 obtain ⟨⟨a, h1, h2⟩, h3, h4⟩ := hr
 simp only [c_pack_Reader_fail, go_sem, reduceEqDiff, reduceAdd, reduceLeDiff, h1, hlt, List.set_set]
 exact ⟨⟨⟨.nils, List.getElem?_set_self hlt, Own.nils 1⟩, by simp [Rdr.all, bytesOk], by simp [Rdr.all]⟩, Ext.setOnly _ _⟩
theorem take_ok {P : Program} {f g : FuncId} (hf : Is P f (c_pack_Reader_take g)) (hg : FailR P g) : TakeR P f := by
 refine ⟨hf.2, fun F h q st n hr hq => fun_sound hf.1 (Nat.le_of_ble_eq_true rfl) ?_⟩
 show vc P (c_pack_Reader_take g).code ⟨[(0, .ptr q 2 0 0), (1, .int .i64 n)], [], h⟩ (atEnd (c_pack_Reader_take g).res _)
 have hlt := hr.lt
 have hr2 := hr
 obtain ⟨⟨a, h1, h2⟩, h3, h4⟩ := hr
 have bad : (rTake n st) = (none, none) -> ∀ h', RdrS F h' q none /\ Ext (only q) h h' -> RdrS F h' q (rTake n st).2 /\ Ext (only q) h h' /\ ∃ p, AV.tup [.nils, .bool false] = .tup [p, .bool (rTake n st).1.isSome] /\ Own (dBytes ((rTake n st).1.getD [])) F h' p := by
  intro e h' hh
  rw [e]
  exact ⟨hh.1, hh.2, .nils, rfl, Own.nils 1⟩
 cases st with
 | none =>
  simp only [c_pack_Reader_take, go_sem, reduceEqDiff, reduceAdd, h1, Option.isNone_none]
  refine wCall_use ⟨hg.1, hg.2 F h q none hr2⟩ ?_
  rintro _ h' hh
  simp only [go_sem, reduceEqDiff]
  exact bad rfl h' hh
 | some l =>
  have ll := (Own.rd _ (F' := fun _ => True) (fun _ _ => trivial) _ h2).bytes_len
  simp only [Rdr.all, Option.getD_some] at ll h2 h3 h4
  by_cases c1 : n < 0
  ·simp only [c_pack_Reader_take, go_sem, reduceEqDiff, reduceAdd, h1, Option.isNone_some, decide_eq_true c1]
   refine wCall_use ⟨hg.1, hg.2 F h q _ hr2⟩ ?_
   rintro _ h' hh
   simp only [go_sem, reduceEqDiff]
   exact bad (by simp only [rTake]; rw [if_pos (.inl c1)]) h' hh
  by_cases c2 : (l.length : Int) < n
  ·simp only [c_pack_Reader_take, go_sem, reduceEqDiff, reduceAdd, h1, Option.isNone_some, decide_eq_false c1, ll, decide_eq_true c2]
   refine wCall_use ⟨hg.1, hg.2 F h q _ hr2⟩ ?_
   rintro _ h' hh
   simp only [go_sem, reduceEqDiff]
   exact bad (by simp only [rTake]; rw [if_pos (.inr c2)]) h' hh
  have h2' : Own (.sl 1 (l.map fun n => [.int .u8 n])) F h a := h2
  obtain ⟨p, s1, s2, s3⟩ := own_clip h2' (k := n) (by omega) (by simp; omega)
  obtain ⟨t, s4, s5⟩ := own_from h2' (k := n) (by omega) (by simp; omega)
  have e : rTake n (some l) = (some (l.take n.toNat), some (l.drop n.toNat)) := by simp only [rTake]; rw [if_neg (by omega)]
  rw [e]
  simp only [c_pack_Reader_take, go_sem, reduceEqDiff, reduceAdd, reduceLeDiff, h1, Option.isNone_some, decide_eq_false c1, ll, decide_eq_false c2, aslc, s1, s4, s5.scalar, cells_of s5.scalar]
  refine ⟨⟨⟨t, ?_, ?_⟩, ?_, ?_⟩, Ext.setOnly _ _, p, rfl, ?_⟩
  ·exact List.getElem?_set_self hlt
  ·refine own_setq ?_ hq _
   simp only [Rdr.all, Option.getD_some, dBytes, List.map_drop]; exact s5
  ·exact h3.drop _
  ·simp only [Rdr.all, Option.getD_some, List.length_drop]; omega
  ·refine own_setq ?_ hq _
   simp only [Option.getD_some, dBytes, List.map_take]; exact s2
theorem or_u64 (a b : Int) : abin .or (.int .u64 a) (.int .u64 b) = some (.int .u64 (IntKind.u64.wrap (BitVec.ofInt 64 a ||| BitVec.ofInt 64 b).toNat)) := Eq.trans rfl rfl
theorem shl_u64 (a b : Int) : abin .shl (.int .u64 a) (.int .u64 b) = if b < 0 then none else some (.int .u64 (IntKind.u64.wrap (a * 2 ^ (min b.toNat 64)))) := Eq.trans rfl rfl
theorem or_add {u x : Int} (hu : 0 <= u) (hu2 : u < 72057594037927936) (hx : 0 <= x /\ x < 256) : IntKind.u64.wrap (BitVec.ofInt 64 (u * 256) ||| BitVec.ofInt 64 x).toNat = u * 256 + x := by
 obtain ⟨m, rfl⟩ := Int.eq_ofNat_of_zero_le hu
 obtain ⟨k, rfl⟩ := Int.eq_ofNat_of_zero_le hx.1
 have e1 : (BitVec.ofInt 64 (((m : Nat) : Int) * 256)).toNat = m <<< 8 := by
  rw [BitVec.toNat_ofInt, Nat.shiftLeft_eq]; omega
 have e2 : (BitVec.ofInt 64 ((k : Nat) : Int)).toNat = k := by
  rw [BitVec.toNat_ofInt]; omega
 rw [BitVec.toNat_or, e1, e2, <- Nat.shiftLeft_add_eq_or_of_lt (by omega) m, Nat.shiftLeft_eq, wrap_u64]
 omega
theorem valU_more {l : List Int} {i : Nat} (hi : i < l.length) : valU (l.take (i + 1)) = valU (l.take i) * 256 + l[i] := by
 rw [List.take_succ_eq_append_getElem hi]; simp only [valU, List.foldl_append, List.foldl_cons, List.foldl_nil]
theorem valU_lt : ∀ (n : Nat) (l : List Int), l.length = n -> bytesOk l -> 0 <= valU l /\ valU l < 256 ^ n := by
 intro n
 induction n with
 | zero => intro l h _; have := List.eq_nil_of_length_eq_zero h; subst this; simp [valU]
 | succ n ih =>
  intro l h hb
  have hn : n < l.length := by omega
  have := valU_more hn
  rw [List.take_of_length_le (by omega)] at this
  rw [this]
  obtain ⟨h1, h2⟩ := ih (l.take n) (by simp; omega) (hb.take n)
  have hx := hb l[n] (List.getElem_mem _)
  rw [Int.pow_succ]
  omega
theorem pow256 : ∀ i : Nat, i < 8 -> (256 : Int) ^ i <= 72057594037927936 := by decide
theorem pack_Int_ok {P : Program} {f g : FuncId} (hf : Is P f (c_pack_Reader_Int g)) (hg : TakeR P g) : IntR P f := by
 refine ⟨hf.2, fun F h q st hr hq => fun_sound hf.1 (Nat.le_of_ble_eq_true rfl) ?_⟩
 show vc P (c_pack_Reader_Int g).code ⟨[(0, .ptr q 2 0 0)], [], h⟩ (atEnd (c_pack_Reader_Int g).res _)
 rw [rInt_take]
 have hb : bytesOk ((rTake 8 st).1.getD []) /\ ((rTake 8 st).1.isSome = true -> ((rTake 8 st).1.getD []).length = 8) := by
  have h3 := hr.2.1
  cases st with
  | none => simp [rTake, bytesOk]
  | some l =>
   simp only [rTake]
   split
   ·simp [bytesOk]
   ·exact ⟨bytesOk.take h3 8, by simp; omega⟩
 simp only [c_pack_Reader_Int, go_sem, reduceEqDiff]
 refine wCall_use ⟨hg.1, hg.2 F h q st 8 hr hq⟩ ?_
 rintro _ h1 ⟨r1, x1, p, rfl, po⟩
 generalize rTake 8 st = T at *
 obtain ⟨o, s⟩ := T
 cases o with
 | none =>
  simp only [go_sem, reduceEqDiff, Option.isSome_none]
  exact ⟨r1, x1⟩
 | some l =>
  simp only [Option.getD_some, Option.isSome_some, forall_const] at hb po
  obtain ⟨hb1, hb2⟩ := hb
  have pr := Own.rd _ (F' := fun _ => True) (fun _ _ => trivial) _ po
  simp only [go_sem, reduceEqDiff, Option.isSome_some, pr.bytes_len]
  refine vc_loop (fun m L h' => ∃ i : Nat, lk 5 L = .int .u64 (valU (l.take i)) /\ lk 15 L = p /\ lk 16 L = .int .i64 l.length /\ lk 17 L = .int .i64 i /\ h1 = h' /\ i <= l.length /\ m = l.length - i) l.length ?_ ?_
  ·exact ⟨0, by simp [lk_ins, valU], by simp [lk_ins], by simp [lk_ins], by simp [lk_ins], rfl, by omega, by omega⟩
  ·rintro m L h' ⟨i, k5, k15, k16, k17, rfl, hi, rfl⟩
   simp only [c_pack_Reader_Int_l0, go_sem, k16, k17]
   refine wCond_split (fun ci => ?_) (fun ci => ?_)
   ·simp at ci
    obtain ⟨y, hy, hv⟩ := pr.byte_at ci
    have e1 : IntKind.i64.wrap (↑i + 1) = (i : Int) + 1 := wrap_i64 (by omega)
    have vb := valU_lt i (l.take i) (by simp; omega) (hb1.take i)
    have vb2 : valU (l.take i) < 72057594037927936 := by
     have := pow256 i (by omega)
     omega
    have hx := hb1 l[i] (List.getElem_mem _)
    have e2 : IntKind.u64.wrap (valU (l.take i) * 2 ^ (min (8 : Int).toNat 64)) = valU (l.take i) * 256 := by
     rw [wrap_u64, show (2 : Int) ^ (min (8 : Int).toNat 64) = 256 from rfl]; omega
    have e3 : IntKind.u64.wrap l[i] = l[i] := by rw [wrap_u64]; omega
    have n8 : ¬ (8 : Int) < 0 := by omega
    simp only [go_sem, reduceEqDiff, k5, k15, k16, k17, hy, hv, shl_u64, if_neg n8, e2, e3, or_u64, or_add vb.1 vb2 hx, e1]
    exact ⟨_, by omega, i + 1, by rw [valU_more ci], by simp, ci, rfl⟩
   ·simp at ci
    obtain rfl : i = l.length := by omega
    rw [List.take_length] at k5
    simp only [go_sem, reduceEqDiff, k5]
    exact ⟨rfl, r1, x1⟩
end Glb
namespace Glb
open Go
open Nat (reduceAdd reduceEqDiff reduceLeDiff)
set_option maxRecDepth 10000
set_option maxHeartbeats 4000000
theorem pack_Blob_r {P : Program} {f g t : FuncId} (hf : Is P f (c_pack_Reader_Blob g t)) (hg : IntR P g) (ht : TakeR P t) : BlobR P f := by
 refine ⟨hf.2, fun F h q st hr hq => fun_sound hf.1 (Nat.le_of_ble_eq_true rfl) ?_⟩
 show vc P (c_pack_Reader_Blob g t).code ⟨[(0, .ptr q 2 0 0)], [], h⟩ (atEnd (c_pack_Reader_Blob g t).res _)
 rw [rBlob_take]
 simp only [c_pack_Reader_Blob, go_sem, reduceEqDiff]
 refine wCall_use ⟨hg.1, hg.2 F h q st hr hq⟩ ?_
 rintro _ h1 ⟨rfl, r1, x1⟩
 simp only [go_sem, reduceEqDiff]
 refine wCall_use ⟨ht.1, ht.2 F h1 q _ _ r1 hq⟩ ?_
 rintro _ h2 ⟨r2, x2, p, rfl, po⟩
 simp only [go_sem, reduceEqDiff]
 exact ⟨po, r2, x1.trans x2 (fun _ _ x => x) (fun _ _ x => x)⟩
theorem RdrS.mono {F F' : Nat -> Prop} {h : AHeap} {q : Nat} {st : Rdr} (hr : RdrS F h q st) (hF : ∀ m, F m -> F' m) : RdrS F' h q st := by
 obtain ⟨⟨a, h1, h2⟩, h3, h4⟩ := hr
 exact ⟨⟨a, h1, Own.mono _ hF (Keep.lt _ _) _ h2⟩, h3, h4⟩
theorem RdrS.under {F : Nat -> Prop} {h : AHeap} {q : Nat} {st : Rdr} (hr : RdrS F h q st) : RdrS (fun m => F m /\ m < h.length) h q st := by
 obtain ⟨⟨a, h1, h2⟩, h3, h4⟩ := hr
 exact ⟨⟨a, h1, Own.lt _ _ h2⟩, h3, h4⟩
theorem row_set {i N : Nat} {xs : List Int} {v : Int} (hx : xs.length = i) (hi : i < N) :
  ((xs.map fun n => [AV.int .i64 n]) ++ List.replicate (N - i) [AV.int .i64 0]).set i [.int .i64 v] = ((xs ++ [v]).map fun n => [AV.int .i64 n]) ++ List.replicate (N - (i + 1)) [AV.int .i64 0] := by
 rw [show N - i = (N - (i + 1)) + 1 by omega, List.replicate_succ, List.set_append_right _ _ (by simp [hx])]
 simp [hx]
theorem readN_step {l : List Int} {n : Nat} (h : 8 <= l.length) : readN rInt (n + 1) (some l) = (valOf (l.take 8) :: (readN rInt n (some (l.drop 8))).1, (readN rInt n (some (l.drop 8))).2) := by
 simp only [readN, rInt]; rw [if_neg (by omega)]
theorem pack_Ints_r {P : Program} {f g t : FuncId} (hf : Is P f (c_pack_Reader_Ints g t)) (hg : IntR P g) (ht : FailR P t) : IntsR P f := by
 refine ⟨hf.2, fun F h q st hr hq => fun_sound hf.1 (Nat.le_of_ble_eq_true rfl) ?_⟩
 show vc P (c_pack_Reader_Ints g t).code ⟨[(0, .ptr q 2 0 0)], [], h⟩ (atEnd (c_pack_Reader_Ints g t).res _)
 simp only [c_pack_Reader_Ints, go_sem, reduceEqDiff]
 refine wCall_use ⟨hg.1, hg.2 F h q st hr hq⟩ ?_
 rintro _ h1 ⟨rfl, r1, x1⟩
 have r1' := r1
 have hlt := r1.lt
 obtain ⟨⟨a, a1, a2⟩, a3, a4⟩ := r1
 have bad : rList rInt st = ([], none) -> ∀ h', RdrS F h' q none /\ Ext (only q) h1 h' -> Own (dInts (rList rInt st).1) (fun m => h.length <= m) h' .nils /\ RdrS F h' q (rList rInt st).2 /\ Ext (only q) h h' := by
  intro e h' hh
  rw [e]
  exact ⟨Own.nils 1, hh.1, x1.trans hh.2 (fun _ _ x => x) (fun _ _ x => x)⟩
 cases hs : (rInt st) with
 | mk n s =>
 rw [hs] at r1' a1 a2 a3 a4
 simp only at r1' a1 a2 a3 a4
 cases s with
 | none =>
  simp only [go_sem, reduceEqDiff, reduceAdd, a1, Option.isNone_none]
  refine wCall_use ⟨ht.1, ht.2 F _ q none r1'⟩ ?_
  rintro _ h' hh
  simp only [go_sem, reduceEqDiff]
  exact bad (by simp only [rList, rMany, hs]) h' hh
 | some l =>
  simp only [Rdr.all, Option.getD_some, Option.isNone_some] at a1 a2 a3 a4
  have ll := (Own.rd _ (F' := fun _ => True) (fun _ _ => trivial) _ a2).bytes_len
  have e8 : IntKind.i64.wrap ((l.length : Int).tdiv 8) = ((l.length / 8 : Nat) : Int) := by
   have : (l.length : Int).tdiv 8 = ((l.length / 8 : Nat) : Int) := by rw [Int.tdiv_eq_ediv_of_nonneg (by omega)]; omega
   rw [this, wrap_i64 (by omega)]
  have n8 : ¬ (8 : Int) = 0 := by omega
  by_cases c1 : n < 0
  ·simp only [go_sem, reduceEqDiff, reduceAdd, a1, decide_eq_true c1]
   refine wCall_use ⟨ht.1, ht.2 F _ q _ r1'⟩ ?_
   rintro _ h' hh
   simp only [go_sem, reduceEqDiff]
   exact bad (by simp only [rList, rMany, hs]; rw [if_pos (.inl c1)]) h' hh
  by_cases c2 : ((l.length / 8 : Nat) : Int) < n
  ·simp only [go_sem, reduceEqDiff, reduceAdd, a1, decide_eq_false c1, ll, quo64, if_neg n8, e8, decide_eq_true c2]
   refine wCall_use ⟨ht.1, ht.2 F _ q _ r1'⟩ ?_
   rintro _ h' hh
   simp only [go_sem, reduceEqDiff]
   exact bad (by simp only [rList, rMany, hs]; rw [if_pos (.inr c2)]) h' hh
  have em : rList rInt st = readN rInt n.toNat (some l) := by simp only [rList, rMany, hs]; rw [if_neg (by omega)]
  rw [em]
  simp only [go_sem, reduceEqDiff, reduceAdd, a1, decide_eq_false c1, ll, quo64, if_neg n8, e8, decide_eq_false c2, hev_mks, amks_int (show 0 <= n by omega) (Int.le_refl n) (show n * (8 : Nat) <= 2 ^ 46 by omega)]
  obtain ⟨N, rfl⟩ := Int.eq_ofNat_of_zero_le (show 0 <= n by omega)
  have la : alen (.ref h1.length 1 0 N (some N)) = some (.int .i64 N) := rfl
  have q1 : q < h1.length := hlt
  have U := (RdrS.under r1').up (Ext.b1 (some (.arr 1 (List.replicate ((N : Nat) : Int).toNat [.int .i64 0]) false)))
  have hl1 := x1.1
  simp only [go_sem, Int.toNat_natCast]
  simp only [go_sem, la]
  simp only [Int.toNat_natCast] at U
  refine vc_loop (fun m L h' => ∃ (i : Nat) (xs : List Int) (l' : List Int), lk 0 L = .ptr q 2 0 0 /\ lk 4 L = .ref h1.length 1 0 N (some N) /\ lk 31 L = .int .i64 N /\ lk 32 L = .int .i64 i /\
    h'[h1.length]? = some (some (.arr 1 ((xs.map fun n => [.int .i64 n]) ++ List.replicate (N - i) [.int .i64 0]) false)) /\ RdrS (fun m => F m /\ m < h1.length) h' q (some l') /\ Ext (only q) h1 h' /\
    xs.length = i /\ i <= N /\ m = N - i /\ 8 * (N - i) <= l'.length /\ readN rInt N (some l) = (xs ++ (readN rInt (N - i) (some l')).1, (readN rInt (N - i) (some l')).2)) N ?_ ?_
  ·exact ⟨0, [], l, by simp [lk_ins, lk_cons], by simp [lk_ins], by simp [lk_ins], by simp [lk_ins], by simp [bx10], U, Ext.app _ _ _, rfl, by omega, by omega, by omega, by simp⟩
  ·rintro m L h2 ⟨i, xs, l', k0, k4, k31, k32, hrow, hR, hE, hx, hi, rfl, h8, hq2⟩
   simp only [c_pack_Reader_Ints_l0, go_sem, k31, k32]
   refine wCond_split (fun ci => ?_) (fun ci => ?_)
   ·simp at ci
    have e1 : IntKind.i64.wrap (↑i + 1) = (i : Int) + 1 := wrap_i64 (by omega)
    simp only [go_sem, reduceEqDiff, k0, k4, k32]
    refine wCall_use ⟨hg.1, hg.2 _ h2 q _ hR (fun hm => hq hm.1)⟩ ?_
    rintro _ h3 ⟨rfl, r3, x3⟩
    have l8 : ¬ l'.length < 8 := by omega
    have ev : rInt (some l') = (valOf (l'.take 8), some (l'.drop 8)) := by simp only [rInt]; rw [if_neg l8]
    rw [ev] at r3 ⊢
    have hl2 := hE.1
    have hlt2 := (List.getElem?_eq_some_iff.1 hrow).1
    have hrow3 : h3[h1.length]? = _ := (x3.2 _ hlt2 (by simp only [only]; omega)).trans hrow
    have hlt3 := (List.getElem?_eq_some_iff.1 hrow3).1
    have ix : aindex 1 (.ref h1.length 1 0 N (some N)) (.int .i64 i) = some (.ptr h1.length 1 (0 + i) 0) := by
     simp only [aindex]; rw [if_pos ⟨trivial, by omega, by omega⟩]; simp
    have st2 := astore_elem (x := .int .i64 (valOf (l'.take 8))) (cs' := [.int .i64 (valOf (l'.take 8))]) (j := 0 + i) hrow3 (cs := [.int .i64 0]) (by rw [Nat.zero_add, List.getElem?_append_right (by simp [hx])]; simp only [List.length_map, hx, Nat.sub_self]; rw [List.getElem?_replicate, if_pos (by omega)]) rfl rfl rfl rfl
    simp only [go_sem, reduceEqDiff, k0, k4, k31, k32, ix, st2, e1]
    refine ⟨_, by omega, i + 1, xs ++ [valOf (l'.take 8)], l'.drop 8, by simp, ?_, ?_, ?_, by simp [hx], ci, rfl, by simp; omega, ?_⟩
    ·rw [if_pos hlt3, Nat.zero_add, row_set hx ci]
    ·exact r3.keep (List.getElem?_set_ne (by omega)) (fun m hm y hy => by rw [List.getElem?_set_ne (by have := hm.2; omega)]; exact hy)
    ·exact (hE.trans x3 (fun _ _ x => x) (fun _ _ x => x)).trans (Ext.setOnly h1.length _) (fun _ _ x => x) (fun m hm hn => by simp only [only] at hn; omega)
    ·rw [hq2, show N - i = (N - (i + 1)) + 1 by omega, readN_step (by omega)]
     simp
   ·simp at ci
    obtain rfl : i = N := by omega
    simp only [Nat.sub_self, readN, List.append_nil] at hq2
    rw [hq2]
    simp only [go_sem, reduceEqDiff, k4]
    refine ⟨?_, hR.mono (fun _ hm => hm.1), x1.trans hE (fun _ _ x => x) (fun _ _ x => x)⟩
    simp only [dInts, Own, List.length_map]
    refine .inr (.inr ⟨h1.length, 0, some i, _, _, by rw [hx], hl1, hrow, by simp [hx], (fun c hc => by cases hc; omega), ?_⟩)
    simp only [Nat.sub_self, List.replicate_zero, List.append_nil, List.drop_zero]
    rw [List.take_of_length_le (by simp)]
    exact ownLL_ints .i64 _ _ _
end Glb
namespace Glb
open Go
open Nat (reduceAdd reduceEqDiff reduceLeDiff)
set_option maxRecDepth 10000
set_option maxHeartbeats 4000000
def Rdr.end_ : Rdr -> Int
 | none => 4
 | some l => if 0 < l.length then 2 else 0
theorem pack_End_r {P : Program} {f : FuncId} (hf : Is P f c_pack_Reader_End) {F : Nat -> Prop} {h : AHeap} {q : Nat} {st : Rdr} (hr : RdrS F h q st) : ACalls P f [.ptr q 2 0 0] h fun r h' => r = .int .i64 st.end_ /\ h' = h := by
 refine fun_sound hf.1 (Nat.le_of_ble_eq_true rfl) ?_
 show vc P c_pack_Reader_End.code ⟨[(0, .ptr q 2 0 0)], [], h⟩ (atEnd c_pack_Reader_End.res _)
 obtain ⟨⟨a, h1, h2⟩, h3, h4⟩ := hr
 have ll := (Own.rd _ (F' := fun _ => True) (fun _ _ => trivial) _ h2).bytes_len
 cases st with
 | none =>
  simp only [c_pack_Reader_End, go_sem, reduceEqDiff, reduceAdd, h1, Option.isNone_none]
  exact rfl
 | some l =>
  simp only [Rdr.all, Option.getD_some] at ll
  by_cases c : (0 : Int) < l.length
  ·simp only [c_pack_Reader_End, go_sem, reduceEqDiff, reduceAdd, h1, Option.isNone_some, ll, decide_eq_true c]
   simp only [Rdr.end_]; rw [if_pos (by omega)]
  ·simp only [c_pack_Reader_End, go_sem, reduceEqDiff, reduceAdd, h1, Option.isNone_some, ll, decide_eq_false c]
   simp only [Rdr.end_]; rw [if_neg (by omega)]
end Glb
namespace Glb
open Go
open Nat (reduceAdd reduceEqDiff reduceLeDiff)
set_option maxRecDepth 10000
set_option maxHeartbeats 4000000
end Glb
namespace Glb
open Go
open Nat (reduceAdd reduceEqDiff reduceLeDiff)
set_option maxRecDepth 10000
set_option maxHeartbeats 4000000
def CloneBOk (P : Program) (f : FuncId) : Prop :=
 isFn P f = true /\ ∀ (F : Nat -> Prop) (h : AHeap) (l : List Int) (a : AV), Rd F h (dBytes l) a -> l.length <= 2^40 -> ACalls P f [a] h fun r h' => Own (dBytes l) (fun m => h.length <= m) h' r /\ Ext nof h h'
theorem CloneB_ok {P : Program} {f : FuncId} (hf : Is P f c_slices_Clone_byte_byte) (hk : CloneKit P f) : CloneBOk P f := by
 refine ⟨hf.2, fun F h l a ha hl => ?_⟩
 by_cases h0 : l = []
 ·subst h0
  intro G w vs g hv
  obtain ⟨v, rfl, hV⟩ := one_arg hv
  have hz : v = .slice none 0 0 \/ ∃ p c, v = .slice (some p) 0 c := by
   simp only [dBytes, List.map_nil, Rd, RdLL] at ha
   obtain ⟨es, he, rfl⟩ := ha
   rcases he with ⟨rfl, _⟩ | ⟨t, c, rfl⟩ | ⟨n, off, len, cap, row, gr, rfl, _, hrow, hle, hcl, hes⟩
   ·cases hV; exact .inl rfl
   ·generalize hee : ([] : List (List AV)) = es at hV
    cases hV with
    | valsNil => exact .inl rfl
    | vals => subst hee; exact .inr ⟨_, _, rfl⟩
   ·have h1 : len = 0 := by
     have := congrArg List.length hes
     simp at this; omega
    subst h1
    cases hV with
    | refNil => exact .inl rfl
    | ref => exact .inr ⟨_, _, rfl⟩
  rcases hz with rfl | ⟨p, c, rfl⟩
  ·have : ACalls P f [.nils] h fun r h' => Own (dBytes []) (fun m => h.length <= m) h' r /\ Ext nof h h' := by
    refine fun_sound hf.1 (Nat.le_of_ble_eq_true rfl) ?_
    show vc P c_slices_Clone_byte_byte.code ⟨[(0, .nils)], [], h⟩ (atEnd c_slices_Clone_byte_byte.res _)
    have an : anileq false .nils = some (.bool true) := rfl
    simp only [c_slices_Clone_byte_byte, go_sem, reduceEqDiff, rev_nileq, an]
    exact ⟨Own.nils 1, Ext.refl _ _⟩
   exact this G w _ g (one_args .nils)
  ·refine (hk.zero p c w).mono ?_
   rintro e w' ⟨a', c', rfl, hsp, hr, hs⟩
   obtain ⟨g', s'⟩ := g.stay hr hs
   refine ⟨_, .vals 0 false 1 [], h, G, rfl, ⟨?_, Ext.refl _ _⟩, g', ?_, s'⟩
   ·simp only [dBytes, List.map_nil, Own]; exact .inr (.inl ⟨0, false, rfl, trivial⟩)
   ·exact V.vals (G := G) (w := w') 0 false 1 [] a' c' (fun _ _ => undef) (Nat.zero_le _) (fun e => by cases e) (fun _ => hsp) (fun hne => absurd rfl hne) (fun e he => by simp at he) (fun i j c hj => by simp [getc] at hj) (fun i j c hj => by simp [getc] at hj)
 ·refine fun_sound hf.1 (Nat.le_of_ble_eq_true rfl) ?_
  show vc P c_slices_Clone_byte_byte.code ⟨[(0, a)], [], h⟩ (atEnd c_slices_Clone_byte_byte.res _)
  have an : anileq false a = some (.bool false) := by
   have hpos : 0 < l.length := List.length_pos_iff.2 h0
   have hl' := ha.bytes_len
   simp only [dBytes, Rd] at ha
   obtain ⟨es, he, hes⟩ := ha
   have hlen := RdLL_length hes
   rw [List.length_map] at hlen
   rcases he with ⟨rfl, rfl⟩ | ⟨t, c, rfl⟩ | ⟨n, off, len, cap, row, gr, rfl, _, hrow, hle, hcl, rfl⟩
   ·simp at hlen; omega
   ·simp only [anileq, sliceish, anil, if_true]; rw [if_pos (by omega)]; rfl
   ·simp only [List.length_take, List.length_drop] at hlen
    simp only [anileq, sliceish, anil, if_true]; rw [if_pos (by omega)]; rfl
  obtain ⟨ys, hys, hyr⟩ := (ha.up (Ext.b1 (some (.arr 1 [] false)))).elems
  obtain ⟨o, h', hap, ho', hc', he'⟩ := own_app (lo := h.length) (sz := 1) (bytes := 1) (ds := []) (h0 := h ++ [some (.arr 1 [] false)]) (h := h ++ [some (.arr 1 [] false)]) (av := .ref h.length 1 0 0 (some 0))
   (by simp only [Own]; exact .inr (.inr ⟨_, 0, some 0, [], false, rfl, Nat.le_refl _, bx10 _ _, by simp, (fun c hc => by cases hc; simp), by simp [OwnLL]⟩))
   ⟨[], false, bx10 _ _, (fun h => by cases h), fun c hc => by cases hc; simp⟩ (Ext.refl nof _) (own_ints1 hyr) (by simp) (by simp; omega)
  have ha2 := aappend_of hys 1 (.ref h.length 1 0 0 (some 0))
  rw [hap] at ha2
  simp only [c_slices_Clone_byte_byte, go_sem, reduceEqDiff, rev_nileq, an, ha2]
  exact ⟨by simpa [dBytes] using ho', (Ext.b1 _).then he' (fun m hm hm' => by omega)⟩
def ReadR (P : Program) (f : FuncId) : Prop := isFn P f = true /\ ∀ (G : Nat -> Prop) (h : AHeap) (l : List Int) (b : AV), Rd G h (dBytes l) b -> bytesOk l -> l.length <= 2^40 ->
 ACalls P f [b] h fun r h' => ∃ q, r = .ptr q 2 0 0 /\ h.length <= q /\ RdrS (fun m => h.length <= m /\ m < q) h' q (some l) /\ Ext nof h h'
theorem pack_Read_ok {P : Program} {f g : FuncId} (hf : Is P f (c_pack_Read g)) (hg : CloneBOk P g) : ReadR P f := by
 refine ⟨hf.2, fun G h l b hb h1 h2 => fun_sound hf.1 (Nat.le_of_ble_eq_true rfl) ?_⟩
 show vc P (c_pack_Read g).code ⟨[(0, b)], [], h⟩ (atEnd (c_pack_Read g).res _)
 simp only [c_pack_Read, go_sem, reduceEqDiff]
 refine wCall_use ⟨hg.1, hg.2 G h l b hb h2⟩ ?_
 rintro r H ⟨ro, rx⟩
 simp only [go_sem, reduceEqDiff, reduceAdd, reduceLeDiff, ro.scalar, cells_of ro.scalar]
 refine ⟨H.length, rfl, rx.1, ⟨⟨r, bx10 _ _, ?_⟩, h1, h2⟩, rx.tr (Ext.b1 _)⟩
 exact Own.mono _ (fun m hm => hm) ((Ext.b1 _).keep _) _ (Own.lt _ _ ro)
end Glb
