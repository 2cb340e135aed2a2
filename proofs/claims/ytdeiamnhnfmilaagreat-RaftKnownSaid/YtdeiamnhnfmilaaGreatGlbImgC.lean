/-
  A library of its own: its parts, one behind the other.
-/
import Derived.Test.YtdeiamnhnfmilaaGreatGlbImgB
import Derived.Test.YtdeiamnhnfmilaaGreatGlbImgA
import Derived.Test.YtdeiamnhnfmilaaGreatGlbMorA
import Derived.Test.YtdeiamnhnfmilaaGreatGlbCimage
import Derived.Test.YtdeiamnhnfmilaaGreatGlbConB
set_option linter.unusedSimpArgs false
set_option linter.unusedVariables false
namespace Glb
open Go
open Nat (reduceAdd reduceDiv reduceEqDiff reduceLeDiff reduceMod reducePow)
set_option maxRecDepth 10000
set_option maxHeartbeats 8000000
def SrcB (F : Nat -> Prop) (h : AHeap) (s q : Nat) (b : Bool) (st : Rdr) : Prop :=
 h[s]? = some (some (.arr 2 [[.ptr q 2 0 0, .bool b]] false)) /\ RdrS F h q st /\ (∀ m, F m -> m < q) /\ q < s
def Rdr.if_ (b : Bool) (st : Rdr) : Rdr := if b then none else st
def SrcS (F : Nat -> Prop) (h : AHeap) (s q : Nat) (st : Rdr) : Prop := ∃ (b : Bool) (st' : Rdr), SrcB F h s q b st' /\ st = Rdr.if_ b st'
abbrev two (s q : Nat) : Nat -> Prop := fun m => m = s \/ m = q
theorem old1 {h : AHeap} {s : Nat} (hs : s < h.length) (x : Option ABlk) : (h ++ [x])[s]? = h[s]? := List.getElem?_append_left hs
theorem SrcB.lt {F : Nat -> Prop} {h : AHeap} {s q : Nat} {b : Bool} {st : Rdr} (hs : SrcB F h s q b st) : s < h.length := (List.getElem?_eq_some_iff.1 hs.1).1
theorem SrcB.up {F : Nat -> Prop} {h h' : AHeap} {s q : Nat} {b : Bool} {st : Rdr} (hs : SrcB F h s q b st) (e : Ext nof h h') : SrcB F h' s q b st :=
 ⟨(e.2 _ hs.lt (fun x => x)).trans hs.1, hs.2.1.up e, hs.2.2⟩
theorem SrcB.next {F : Nat -> Prop} {h h' : AHeap} {s q : Nat} {b : Bool} {st st2 : Rdr} (hs : SrcB F h s q b st) (e : Ext (only q) h h') (hr : RdrS F h' q st2) : SrcB F h' s q b st2 :=
 ⟨(e.2 _ hs.lt (by have := hs.2.2.2; simp only [only]; omega)).trans hs.1, hr, hs.2.2⟩
theorem SrcB.nq {F : Nat -> Prop} {h : AHeap} {s q : Nat} {b : Bool} {st : Rdr} (hs : SrcB F h s q b st) : ¬ F q := fun hq => by have := hs.2.2.1 _ hq; omega
theorem notRes_lt {n k s sz i o : Nat} (h : s < n) : notRes n k (.ptr s sz i o) = true := by simp [notRes]; omega
theorem SrcB.set {F : Nat -> Prop} {h : AHeap} {s q : Nat} {b : Bool} {st : Rdr} (hs : SrcB F h s q b st) {n : Nat} (hn : s < n) (x : Option ABlk) : SrcB F (h.set n x) s q b st := by
 have := hs.2.2.2
 have nF : ¬ F n := fun hq => by have := hs.2.2.1 _ hq; omega
 exact ⟨by rw [List.getElem?_set_ne (by omega)]; exact hs.1, hs.2.1.keep (List.getElem?_set_ne (by omega)) (fun m hm y hy => by rw [List.getElem?_set_ne (by rintro rfl; exact nF hm)]; exact hy), hs.2.2⟩
theorem Ext.put {F : Nat -> Prop} {h h' : AHeap} (e : Ext F h h') {n : Nat} (hn : h.length <= n) (x : Option ABlk) : Ext F h (h'.set n x) :=
 ⟨by rw [List.length_set]; exact e.1, fun m hm hF => by rw [List.getElem?_set_ne (by omega)]; exact e.2 m hm hF⟩
def GetT {T : Type} (P : Program) (f : FuncId) (c : T -> List D) (dec : Rdr -> T × Rdr) : Prop :=
 isFn P f = true /\ ∀ (F : Nat -> Prop) (h : AHeap) (s q : Nat) (st : Rdr), SrcS F h s q st ->
  ACalls P f [.ptr s 2 0 0] h fun r h' => ∃ (x : T) (as : List AV), r = .agg as /\ OwnL (c x) (fun m => F m \/ h.length <= m) h' as /\ SrcS F h' s q (dec st).2 /\ Ext (two s q) h h' /\ ((dec st).2 ≠ none -> x = (dec st).1)
theorem GetT.of {T : Type} {P : Program} {f : FuncId} {c : T -> List D} {dec : Rdr -> T × Rdr} (hn : (dec none).2 = none) (h1 : isFn P f = true)
  (h2 : ∀ (F : Nat -> Prop) (h : AHeap) (s q : Nat) (b : Bool) (st : Rdr), SrcB F h s q b st ->
   ACalls P f [.ptr s 2 0 0] h fun r h' => ∃ (as : List AV), r = .agg as /\ OwnL (c (dec st).1) (fun m => F m \/ h.length <= m) h' as /\ SrcB F h' s q b (dec st).2 /\ Ext (only q) h h') : GetT P f c dec := by
 refine ⟨h1, fun F h s q st ⟨b, st', hs, e⟩ => (h2 F h s q b st' hs).mono fun r h' ⟨as, hr, ho, hs', hx⟩ => ⟨_, as, hr, ho, ⟨b, _, hs', ?_⟩, hx.trans (Ext.refl nof _) (fun _ _ x => .inr x) (fun _ _ x => x.elim), ?_⟩⟩
 ·subst e; cases b
  ·rfl
  ·exact hn
 ·subst e; cases b
  ·intro _; rfl
  ·intro hh; exact absurd hn hh
theorem confG_ok {P : Program} {f g : FuncId} (hf : Is P f (c_image_source_conf g)) (hg : IntsR P g) : GetT P f Conf.c confC.dec := by
 refine GetT.of confC.bad hf.2 fun F h s q b st hs => fun_sound hf.1 (Nat.le_of_ble_eq_true rfl) ?_
 show vc P (c_image_source_conf g).code ⟨[(0, .ptr s 2 0 0)], [], h⟩ (atEnd (c_image_source_conf g).res _)
 have hlt := hs.lt
 have hq := hs.2.2.2
 have BB : ∀ x : Option ABlk, (h ++ [x])[s]? = some (some (.arr 2 [[.ptr q 2 0 0, .bool b]] false)) := fun x => (old1 hlt x).trans hs.1
 simp only [c_image_source_conf, go_sem, reduceEqDiff, reduceAdd, BB]
 have S0 := hs.up (Ext.b1 (some (.arr 3 [[.nils, .nils, .nils]] false)))
 have C0 := bx10 h (some (.arr 3 [[.nils, .nils, .nils]] false))
 have E0 : Ext nof h (h ++ [some (.arr 3 [[.nils, .nils, .nils]] false)]) := Ext.b1 _
 have lH0 : h.length + 1 = (h ++ [some (ABlk.arr 3 [[.nils, .nils, .nils]] false)]).length := by simp
 generalize h ++ [some (ABlk.arr 3 [[.nils, .nils, .nils]] false)] = H0 at *
 refine wCall_use ⟨hg.1, hg.2 F _ q _ S0.2.1 hs.nq⟩ ?_
 rintro a1 H1 ⟨o1, r1, x1⟩
 have S1 := S0.next x1 r1
 have lH1 := x1.1
 have C1 : H1[h.length]? = _ := (x1.2 _ (List.getElem?_eq_some_iff.1 C0).1 (by simp only [only]; omega)).trans C0
 have B1 := S1.1
 simp only [go_sem, reduceEqDiff, reducePow, reduceDiv, reduceMod, decide_true, B1]
 refine wCall_use ⟨hg.1, hg.2 F _ q _ S1.2.1 hs.nq⟩ ?_
 rintro a2 H2 ⟨o2, r2, x2⟩
 have S2 := S1.next x2 r2
 have lH2 := x2.1
 have C2 : H2[h.length]? = _ := (x2.2 _ (List.getElem?_eq_some_iff.1 C1).1 (by simp only [only]; omega)).trans C1
 have B2 := S2.1
 simp only [go_sem, reduceEqDiff, reducePow, reduceDiv, reduceMod, decide_true, B2]
 refine wCall_use ⟨hg.1, hg.2 F _ q _ S2.2.1 hs.nq⟩ ?_
 rintro a3 H3 ⟨o3, r3, x3⟩
 have S3 := S2.next x3 r3
 have lH3 := x3.1
 have C3 : H3[h.length]? = _ := (x3.2 _ (List.getElem?_eq_some_iff.1 C2).1 (by simp only [only]; omega)).trans C2
 have B3 := S3.1
 have l3 := (List.getElem?_eq_some_iff.1 C3).1
 simp only [go_sem, reduceEqDiff, reduceAdd, reduceLeDiff, reducePow, reduceDiv, reduceMod, decide_true, B3, C3, l3, o1.scalar, o2.scalar, o3.scalar, cells_of o1.scalar, cells_of o2.scalar, cells_of o3.scalar]
 refine ⟨_, rfl, ?_, S3.set (by omega) _, (E0.trans ((x1.trans x2 (fun _ _ x => x) (fun _ _ x => x)).trans x3 (fun _ _ x => x) (fun _ _ x => x)) (fun _ _ x => x.elim) (fun _ _ x => x)).put (by omega) _⟩
 have k1 : Keep (fun m => H0.length <= m) H1 (H3.set h.length (some (.arr 3 [[a1, a2, a3]] false))) := fun m hm y hy => by
  rw [List.getElem?_set_ne (by omega), x3.2 m (by have := (List.getElem?_eq_some_iff.1 hy).1; omega) (by simp only [only]; omega), x2.2 m (List.getElem?_eq_some_iff.1 hy).1 (by simp only [only]; omega)]; exact hy
 have k2 : Keep (fun m => H1.length <= m) H2 (H3.set h.length (some (.arr 3 [[a1, a2, a3]] false))) := fun m hm y hy => by
  rw [List.getElem?_set_ne (by omega), x3.2 m (List.getElem?_eq_some_iff.1 hy).1 (by simp only [only]; omega)]; exact hy
 have k3 : Keep (fun m => H2.length <= m) H3 (H3.set h.length (some (.arr 3 [[a1, a2, a3]] false))) := fun m hm y hy => by
  rw [List.getElem?_set_ne (by omega)]; exact hy
 exact ⟨_, _, rfl, Own.mono _ (fun m hm => .inr (by omega)) k1 _ o1, _, _, rfl, Own.mono _ (fun m hm => .inr (by omega)) k2 _ o2, _, _, rfl, Own.mono _ (fun m hm => .inr (by omega)) k3 _ o3, rfl⟩
end Glb
namespace Glb
open Go
open Nat (reduceAdd reduceDiv reduceEqDiff reduceLeDiff reduceMod reducePow)
set_option maxRecDepth 10000
set_option maxHeartbeats 8000000
end Glb
namespace Glb
open Go
open Nat (reduceAdd reduceDiv reduceEqDiff reduceLeDiff reduceMod reducePow)
set_option maxRecDepth 10000
set_option maxHeartbeats 8000000
end Glb
