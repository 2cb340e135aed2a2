/-
  A library of its own: its parts, one behind the other.
-/
import Derived.Test.YtodbhmdfmdfiaaaGlbImgB
import Derived.Test.YtodbhmdfmdfiaaaGlbImgA
import Derived.Test.YtodbhmdfmdfiaaaGlbMorA
import Derived.Test.YtodbhmdfmdfiaaaGlbCimage
import Derived.Test.YtodbhmdfmdfiaaaGlbConB
set_option linter.unusedSimpArgs false
set_option linter.unusedVariables false
/-
  Things read by the program: entries, members, votes.
-/
namespace Glb
open Go
set_option maxRecDepth 10000
set_option maxHeartbeats 8000000

/-- the source: the pointer to the reader, and whether a list was none -/
def SrcB (F : Nat → Prop) (h : AHeap) (s q : Nat) (b : Bool) (st : Rdr) : Prop :=
  h[s]? = some (some (.arr 2 [[.ptr q 2 0 0, .bool b]] false)) ∧ RdrS F h q st ∧ (∀ m, F m → m < q) ∧ q < s
def Rdr.if_ (b : Bool) (st : Rdr) : Rdr := if b then none else st
def SrcS (F : Nat → Prop) (h : AHeap) (s q : Nat) (st : Rdr) : Prop := ∃ (b : Bool) (st' : Rdr), SrcB F h s q b st' ∧ st = Rdr.if_ b st'
abbrev two (s q : Nat) : Nat → Prop := fun m => m = s ∨ m = q
theorem old1 {h : AHeap} {s : Nat} (hs : s < h.length) (x : Option ABlk) : (h ++ [x])[s]? = h[s]? := List.getElem?_append_left hs
theorem old2 {h : AHeap} {s : Nat} (hs : s < h.length) (x y : Option ABlk) : (h ++ [x] ++ [y])[s]? = h[s]? := by rw [old1 (by simp; omega), old1 hs]
theorem SrcB.lt {F : Nat → Prop} {h : AHeap} {s q : Nat} {b : Bool} {st : Rdr} (hs : SrcB F h s q b st) : s < h.length := (List.getElem?_eq_some_iff.1 hs.1).1
theorem SrcB.up {F : Nat → Prop} {h h' : AHeap} {s q : Nat} {b : Bool} {st : Rdr} (hs : SrcB F h s q b st) (e : Ext nof h h') : SrcB F h' s q b st :=
  ⟨(e.2 _ hs.lt (fun x => x)).trans hs.1, hs.2.1.up e, hs.2.2⟩
theorem SrcB.next {F : Nat → Prop} {h h' : AHeap} {s q : Nat} {b : Bool} {st st2 : Rdr} (hs : SrcB F h s q b st) (e : Ext (only q) h h') (hr : RdrS F h' q st2) : SrcB F h' s q b st2 :=
  ⟨(e.2 _ hs.lt (by have := hs.2.2.2; simp only [only]; omega)).trans hs.1, hr, hs.2.2⟩
theorem SrcB.nq {F : Nat → Prop} {h : AHeap} {s q : Nat} {b : Bool} {st : Rdr} (hs : SrcB F h s q b st) : ¬ F q := fun hq => by have := hs.2.2.1 _ hq; omega
theorem SrcB.ns {F : Nat → Prop} {h : AHeap} {s q : Nat} {b : Bool} {st : Rdr} (hs : SrcB F h s q b st) : ¬ F s := fun hq => by have := hs.2.2.1 _ hq; have := hs.2.2.2; omega

theorem notRes_lt {n k s sz i o : Nat} (h : s < n) : notRes n k (.ptr s sz i o) = true := by simp [notRes]; omega
theorem set_back {h : AHeap} {n : Nat} (hn : h[n]? = some none) (x : Option ABlk) : (h.set n x).set n none = h := by
  rw [List.set_set]
  apply List.ext_getElem?
  intro i
  rw [List.getElem?_set]
  split
  · rename_i e; subst e; rw [hn]; simp [(List.getElem?_eq_some_iff.1 hn).1]
  · rfl
theorem SrcB.set {F : Nat → Prop} {h : AHeap} {s q : Nat} {b : Bool} {st : Rdr} (hs : SrcB F h s q b st) {n : Nat} (hn : s < n) (x : Option ABlk) : SrcB F (h.set n x) s q b st := by
  have := hs.2.2.2
  have nF : ¬ F n := fun hq => by have := hs.2.2.1 _ hq; omega
  exact ⟨by rw [List.getElem?_set_ne (by omega)]; exact hs.1, hs.2.1.keep (List.getElem?_set_ne (by omega)) (fun m hm y hy => by rw [List.getElem?_set_ne (by rintro rfl; exact nF hm)]; exact hy), hs.2.2⟩
/-- what lies in rows of F stays where none of these is written -/
theorem own_off {d : D} {F : Nat → Prop} {h : AHeap} {a : AV} (ho : Own d F h a) {n : Nat} (hn : ¬ F n) (x : Option ABlk) : Own d F (h.set n x) a := own_setq ho hn x
/-- a new cell is written -/
theorem Ext.put {F : Nat → Prop} {h h' : AHeap} (e : Ext F h h') {n : Nat} (hn : h.length ≤ n) (x : Option ABlk) : Ext F h (h'.set n x) :=
  ⟨by rw [List.length_set]; exact e.1, fun m hm hF => by rw [List.getElem?_set_ne (by omega)]; exact e.2 m hm hF⟩
theorem own_i64 (F : Nat → Prop) (h : AHeap) (n : Int) : Own (.int .i64 n) F h (.int .i64 n) := by simp only [Own]
def GetT {T : Type} (P : Program) (f : FuncId) (c : T → List D) (dec : Rdr → T × Rdr) : Prop :=
  isFn P f = true ∧ ∀ (F : Nat → Prop) (h : AHeap) (s q : Nat) (st : Rdr), SrcS F h s q st →
    ACalls P f [.ptr s 2 0 0] h fun r h' => ∃ (x : T) (as : List AV), r = .agg as ∧ OwnL (c x) (fun m => F m ∨ h.length ≤ m) h' as ∧ SrcS F h' s q (dec st).2 ∧ Ext (two s q) h h' ∧ ((dec st).2 ≠ none → x = (dec st).1)

/-- of what reads on, whatever the flag -/
theorem GetT.of {T : Type} {P : Program} {f : FuncId} {c : T → List D} {dec : Rdr → T × Rdr} (hn : (dec none).2 = none) (h1 : isFn P f = true)
    (h2 : ∀ (F : Nat → Prop) (h : AHeap) (s q : Nat) (b : Bool) (st : Rdr), SrcB F h s q b st →
      ACalls P f [.ptr s 2 0 0] h fun r h' => ∃ (as : List AV), r = .agg as ∧ OwnL (c (dec st).1) (fun m => F m ∨ h.length ≤ m) h' as ∧ SrcB F h' s q b (dec st).2 ∧ Ext (only q) h h') : GetT P f c dec := by
  refine ⟨h1, fun F h s q st ⟨b, st', hs, e⟩ => (h2 F h s q b st' hs).mono fun r h' ⟨as, hr, ho, hs', hx⟩ => ⟨_, as, hr, ho, ⟨b, _, hs', ?_⟩, hx.trans (Ext.refl nof _) (fun _ _ x => .inr x) (fun _ _ x => x.elim), ?_⟩⟩
  · subst e; cases b
    · rfl
    · exact hn
  · subst e; cases b
    · intro _; rfl
    · intro hh; exact absurd hn hh

theorem entry_ok {P : Program} {f g k : FuncId} (hf : Is P f (c_image_source_entry g k)) (hg : IntR P g) (hk : BlobR P k) : GetT P f Entry.c entryC.dec := by
  refine GetT.of entryC.bad hf.2 fun F h s q b st hs => fun_sound hf.1 (Nat.le_of_ble_eq_true rfl) ?_
  show vc P (c_image_source_entry g k).code ⟨[(0, .ptr s 2 0 0)], [], h⟩ (atEnd (c_image_source_entry g k).res _)
  have hlt := hs.lt
  have B := hs.1
  have B2 : ∀ x y : Option ABlk, (h ++ [x] ++ [y])[s]? = some (some (.arr 2 [[.ptr q 2 0 0, .bool b]] false)) := fun x y => (old2 hlt x y).trans hs.1
  simp only [c_image_source_entry, go_sem, reduceIte, Nat.reduceEqDiff, Nat.reduceAdd, Nat.reduceLeDiff, Nat.reducePow, Nat.reduceDiv, Nat.reduceMod, decide_true, B2]
  have S0 := hs.up (Ext.b2 (some (.arr 3 [[.int .i64 0, .int .i64 0, .nils]] false)) none)
  have C0 := bx20 h (some (.arr 3 [[.int .i64 0, .int .i64 0, .nils]] false)) none
  have D0 := bx21 h (some (.arr 3 [[.int .i64 0, .int .i64 0, .nils]] false)) none
  have E0 : Ext nof h (h ++ [some (.arr 3 [[.int .i64 0, .int .i64 0, .nils]] false)] ++ [none]) := Ext.b2 _ _
  generalize h ++ [some (ABlk.arr 3 [[.int .i64 0, .int .i64 0, .nils]] false)] ++ [none] = H0 at *
  have NR : ∀ k, notRes (h.length + 1) k (.ptr s 2 0 0) = true := fun k => notRes_lt (by omega)
  simp only [NR, true_and]
  refine wCall_use ⟨hg.1, hg.2 F _ q st S0.2.1 hs.nq⟩ ?_
  rintro _ H1 ⟨rfl, r1, x1⟩
  have S1 := S0.next x1 r1
  have hq := hs.2.2.2
  have lH := E0.1
  have C1 : H1[h.length]? = _ := (x1.2 _ (List.getElem?_eq_some_iff.1 C0).1 (by simp only [only]; omega)).trans C0
  have B1 := S1.1
  have D1 : H1[h.length + 1]? = some none := (x1.2 _ (List.getElem?_eq_some_iff.1 D0).1 (by simp only [only]; omega)).trans D0
  have ne1 : (h.length + 1 = s) = False := eq_false (by omega)
  simp only [go_sem, reduceIte, Nat.reduceEqDiff, Nat.reduceAdd, Nat.reduceLeDiff, Nat.reducePow, Nat.reduceDiv, Nat.reduceMod, decide_true, hideL_cons, showL_cons, B1, D1, ne1, set_back D1]
  refine wCall_use ⟨hg.1, hg.2 F _ q _ S1.2.1 hs.nq⟩ ?_
  rintro _ H2 ⟨rfl, r2, x2⟩
  have S2 := S1.next x2 r2
  have lH1 := x1.1
  have C2 : H2[h.length]? = _ := (x2.2 _ (List.getElem?_eq_some_iff.1 C1).1 (by simp only [only]; omega)).trans C1
  have D2 : H2[h.length + 1]? = some none := (x2.2 _ (List.getElem?_eq_some_iff.1 D1).1 (by simp only [only]; omega)).trans D1
  have B2 := S2.1
  have l2 := (List.getElem?_eq_some_iff.1 D2).1
  simp only [go_sem, reduceIte, Nat.reduceEqDiff, Nat.reduceAdd, Nat.reduceLeDiff, Nat.reducePow, Nat.reduceDiv, Nat.reduceMod, decide_true, hideL_cons, showL_cons, B2, D2, ne1, set_back D2, l2]
  rw [List.set_set]
  have S3 := S2.set (n := h.length + 1) (by omega) (some (.arr 3 [[.int .i64 (rInt st).1, .int .i64 (rInt (rInt st).2).1, .nils]] false))
  have C3 : (H2.set (h.length + 1) (some (.arr 3 [[.int .i64 (rInt st).1, .int .i64 (rInt (rInt st).2).1, .nils]] false)))[h.length]? = _ := (List.getElem?_set_ne (by omega)).trans C2
  have D3 := List.getElem?_set_self (a := some (ABlk.arr 3 [[.int .i64 (rInt st).1, .int .i64 (rInt (rInt st).2).1, .nils]] false)) l2
  have E3 : Ext (only q) h (H2.set (h.length + 1) (some (.arr 3 [[.int .i64 (rInt st).1, .int .i64 (rInt (rInt st).2).1, .nils]] false))) :=
    (E0.trans (x1.trans x2 (fun _ _ x => x) (fun _ _ x => x)) (fun _ _ x => x.elim) (fun _ _ x => x)).put (by omega) _
  generalize H2.set (h.length + 1) (some (ABlk.arr 3 [[.int .i64 (rInt st).1, .int .i64 (rInt (rInt st).2).1, .nils]] false)) = H3 at *
  refine wCall_use ⟨hk.1, hk.2 F _ q _ S3.2.1 hs.nq⟩ ?_
  rintro r H4 ⟨o4, r4, x4⟩
  have S4 := S3.next x4 r4
  have lH3 := E3.1
  have C4 : H4[h.length]? = _ := (x4.2 _ (List.getElem?_eq_some_iff.1 C3).1 (by simp only [only]; omega)).trans C3
  have D4 : H4[h.length + 1]? = _ := (x4.2 _ (List.getElem?_eq_some_iff.1 D3).1 (by simp only [only]; omega)).trans D3
  have l4 := (List.getElem?_eq_some_iff.1 D4).1
  have l4' := (List.getElem?_eq_some_iff.1 C4).1
  simp only [go_sem, reduceIte, Nat.reduceEqDiff, Nat.reduceAdd, Nat.reduceLeDiff, Nat.reducePow, Nat.reduceDiv, Nat.reduceMod, decide_true, D4, l4, l4', o4.scalar, cells_of o4.scalar, C4, List.length_set]
  refine ⟨_, rfl, ?_, (S4.set (by omega) _).set (by omega) _, ((E3.trans x4 (fun _ _ x => x) (fun _ _ x => x)).put (by omega) _).put (by omega) _⟩
  have o5 := Own.mono (F' := fun m => F m ∨ h.length ≤ m) _ (fun _ x => .inl x) (fun _ _ _ x => x) _ (own_off (own_off o4 (n := h.length + 1) (fun hq => by have := hs.2.2.1 _ hq; omega) (some (.arr 3 [[.int .i64 (rInt st).1, .int .i64 (rInt (rInt st).2).1, r]] false))) (n := h.length) (fun hq => by have := hs.2.2.1 _ hq; omega) (some (.arr 3 [[.int .i64 (rInt st).1, .int .i64 (rInt (rInt st).2).1, r]] false)))
  exact ⟨_, _, rfl, own_i64 _ _ _, _, _, rfl, own_i64 _ _ _, _, _, rfl, o5, rfl⟩

theorem vote_ok {P : Program} {f g : FuncId} (hf : Is P f (c_image_source_vote g)) (hg : IntR P g) : GetT P f Vote.c voteC.dec := by
  refine GetT.of voteC.bad hf.2 fun F h s q b st hs => fun_sound hf.1 (Nat.le_of_ble_eq_true rfl) ?_
  show vc P (c_image_source_vote g).code ⟨[(0, .ptr s 2 0 0)], [], h⟩ (atEnd (c_image_source_vote g).res _)
  have hlt := hs.lt
  have hq := hs.2.2.2
  have BB : ∀ x : Option ABlk, (h ++ [x])[s]? = some (some (.arr 2 [[.ptr q 2 0 0, .bool b]] false)) := fun x => (old1 hlt x).trans hs.1
  simp only [c_image_source_vote, go_sem, reduceIte, Nat.reduceEqDiff, Nat.reduceAdd, Nat.reduceLeDiff, Nat.reducePow, Nat.reduceDiv, Nat.reduceMod, decide_true, BB]
  have S0 := hs.up (Ext.b1 (some (.arr 5 [[.int .i64 0, .int .i64 0, .int .i64 0, .int .i64 0, .int .i64 0]] false)))
  have C0 := bx10 h (some (.arr 5 [[.int .i64 0, .int .i64 0, .int .i64 0, .int .i64 0, .int .i64 0]] false))
  have E0 : Ext nof h (h ++ [some (.arr 5 [[.int .i64 0, .int .i64 0, .int .i64 0, .int .i64 0, .int .i64 0]] false)]) := Ext.b1 _
  have lH0 := E0.1
  generalize h ++ [some (ABlk.arr 5 [[.int .i64 0, .int .i64 0, .int .i64 0, .int .i64 0, .int .i64 0]] false)] = H0 at *
  refine wCall_use ⟨hg.1, hg.2 F _ q _ S0.2.1 hs.nq⟩ ?_
  rintro _ H1 ⟨rfl, r1, x1⟩
  have S1 := S0.next x1 r1
  have lH1 := x1.1
  have C1 : H1[h.length]? = _ := (x1.2 _ (List.getElem?_eq_some_iff.1 C0).1 (by simp only [only]; omega)).trans C0
  have B1 := S1.1
  simp only [go_sem, reduceIte, Nat.reduceEqDiff, Nat.reduceAdd, Nat.reduceLeDiff, Nat.reducePow, Nat.reduceDiv, Nat.reduceMod, decide_true, B1]
  refine wCall_use ⟨hg.1, hg.2 F _ q _ S1.2.1 hs.nq⟩ ?_
  rintro _ H2 ⟨rfl, r2, x2⟩
  have S2 := S1.next x2 r2
  have lH2 := x2.1
  have C2 : H2[h.length]? = _ := (x2.2 _ (List.getElem?_eq_some_iff.1 C1).1 (by simp only [only]; omega)).trans C1
  have B2 := S2.1
  simp only [go_sem, reduceIte, Nat.reduceEqDiff, Nat.reduceAdd, Nat.reduceLeDiff, Nat.reducePow, Nat.reduceDiv, Nat.reduceMod, decide_true, B2]
  refine wCall_use ⟨hg.1, hg.2 F _ q _ S2.2.1 hs.nq⟩ ?_
  rintro _ H3 ⟨rfl, r3, x3⟩
  have S3 := S2.next x3 r3
  have lH3 := x3.1
  have C3 : H3[h.length]? = _ := (x3.2 _ (List.getElem?_eq_some_iff.1 C2).1 (by simp only [only]; omega)).trans C2
  have B3 := S3.1
  simp only [go_sem, reduceIte, Nat.reduceEqDiff, Nat.reduceAdd, Nat.reduceLeDiff, Nat.reducePow, Nat.reduceDiv, Nat.reduceMod, decide_true, B3]
  refine wCall_use ⟨hg.1, hg.2 F _ q _ S3.2.1 hs.nq⟩ ?_
  rintro _ H4 ⟨rfl, r4, x4⟩
  have S4 := S3.next x4 r4
  have lH4 := x4.1
  have C4 : H4[h.length]? = _ := (x4.2 _ (List.getElem?_eq_some_iff.1 C3).1 (by simp only [only]; omega)).trans C3
  have B4 := S4.1
  simp only [go_sem, reduceIte, Nat.reduceEqDiff, Nat.reduceAdd, Nat.reduceLeDiff, Nat.reducePow, Nat.reduceDiv, Nat.reduceMod, decide_true, B4]
  refine wCall_use ⟨hg.1, hg.2 F _ q _ S4.2.1 hs.nq⟩ ?_
  rintro _ H5 ⟨rfl, r5, x5⟩
  have S5 := S4.next x5 r5
  have lH5 := x5.1
  have C5 : H5[h.length]? = _ := (x5.2 _ (List.getElem?_eq_some_iff.1 C4).1 (by simp only [only]; omega)).trans C4
  have B5 := S5.1
  have l5 := (List.getElem?_eq_some_iff.1 C5).1
  simp only [go_sem, reduceIte, Nat.reduceEqDiff, Nat.reduceAdd, Nat.reduceLeDiff, Nat.reducePow, Nat.reduceDiv, Nat.reduceMod, decide_true, B5, C5, l5]
  refine ⟨_, rfl, ?_, S5.set (by omega) _, (E0.trans (((x1.trans x2 (fun _ _ x => x) (fun _ _ x => x)).trans x3 (fun _ _ x => x) (fun _ _ x => x)).trans (x4.trans x5 (fun _ _ x => x) (fun _ _ x => x)) (fun _ _ x => x) (fun _ _ x => x)) (fun _ _ x => x.elim) (fun _ _ x => x)).put (by omega) _⟩
  exact ⟨_, _, rfl, own_i64 _ _ _, _, _, rfl, own_i64 _ _ _, _, _, rfl, own_i64 _ _ _, _, _, rfl, own_i64 _ _ _, _, _, rfl, own_i64 _ _ _, rfl⟩

theorem confG_ok {P : Program} {f g : FuncId} (hf : Is P f (c_image_source_conf g)) (hg : IntsR P g) : GetT P f Conf.c confC.dec := by
  refine GetT.of confC.bad hf.2 fun F h s q b st hs => fun_sound hf.1 (Nat.le_of_ble_eq_true rfl) ?_
  show vc P (c_image_source_conf g).code ⟨[(0, .ptr s 2 0 0)], [], h⟩ (atEnd (c_image_source_conf g).res _)
  have hlt := hs.lt
  have hq := hs.2.2.2
  have BB : ∀ x : Option ABlk, (h ++ [x])[s]? = some (some (.arr 2 [[.ptr q 2 0 0, .bool b]] false)) := fun x => (old1 hlt x).trans hs.1
  simp only [c_image_source_conf, go_sem, reduceIte, Nat.reduceEqDiff, Nat.reduceAdd, Nat.reduceLeDiff, Nat.reducePow, Nat.reduceDiv, Nat.reduceMod, decide_true, BB]
  have S0 := hs.up (Ext.b1 (some (.arr 3 [[.nils, .nils, .nils]] false)))
  have C0 := bx10 h (some (.arr 3 [[.nils, .nils, .nils]] false))
  have E0 : Ext nof h (h ++ [some (.arr 3 [[.nils, .nils, .nils]] false)]) := Ext.b1 _
  have lH0 : h.length + 1 = (h ++ [some (ABlk.arr 3 [[.nils, .nils, .nils]] false)]).length := by simp
  generalize h ++ [some (ABlk.arr 3 [[.nils, .nils, .nils]] false)] = H0 at *
  refine wCall_use ⟨hg.1, hg.2 F _ q _ S0.2.1 hs.nq⟩ ?_
  rintro a1 H1 ⟨o1, r1, x1⟩
  have S1 := S0.next x1 r1
  have lH1 := x1.1
  have C1 : H1[h.length]? = _ := (x1.2 _ (List.getElem?_eq_some_iff.1 C0).1 (by simp only [only]; omega)).trans C0
  have B1 := S1.1
  simp only [go_sem, reduceIte, Nat.reduceEqDiff, Nat.reduceAdd, Nat.reduceLeDiff, Nat.reducePow, Nat.reduceDiv, Nat.reduceMod, decide_true, B1]
  refine wCall_use ⟨hg.1, hg.2 F _ q _ S1.2.1 hs.nq⟩ ?_
  rintro a2 H2 ⟨o2, r2, x2⟩
  have S2 := S1.next x2 r2
  have lH2 := x2.1
  have C2 : H2[h.length]? = _ := (x2.2 _ (List.getElem?_eq_some_iff.1 C1).1 (by simp only [only]; omega)).trans C1
  have B2 := S2.1
  simp only [go_sem, reduceIte, Nat.reduceEqDiff, Nat.reduceAdd, Nat.reduceLeDiff, Nat.reducePow, Nat.reduceDiv, Nat.reduceMod, decide_true, B2]
  refine wCall_use ⟨hg.1, hg.2 F _ q _ S2.2.1 hs.nq⟩ ?_
  rintro a3 H3 ⟨o3, r3, x3⟩
  have S3 := S2.next x3 r3
  have lH3 := x3.1
  have C3 : H3[h.length]? = _ := (x3.2 _ (List.getElem?_eq_some_iff.1 C2).1 (by simp only [only]; omega)).trans C2
  have B3 := S3.1
  have l3 := (List.getElem?_eq_some_iff.1 C3).1
  simp only [go_sem, reduceIte, Nat.reduceEqDiff, Nat.reduceAdd, Nat.reduceLeDiff, Nat.reducePow, Nat.reduceDiv, Nat.reduceMod, decide_true, B3, C3, l3, o1.scalar, o2.scalar, o3.scalar, cells_of o1.scalar, cells_of o2.scalar, cells_of o3.scalar]
  refine ⟨_, rfl, ?_, S3.set (by omega) _, (E0.trans ((x1.trans x2 (fun _ _ x => x) (fun _ _ x => x)).trans x3 (fun _ _ x => x) (fun _ _ x => x)) (fun _ _ x => x.elim) (fun _ _ x => x)).put (by omega) _⟩
  have k1 : Keep (fun m => H0.length ≤ m) H1 (H3.set h.length (some (.arr 3 [[a1, a2, a3]] false))) := fun m hm y hy => by
    rw [List.getElem?_set_ne (by omega), x3.2 m (by have := (List.getElem?_eq_some_iff.1 hy).1; omega) (by simp only [only]; omega), x2.2 m (List.getElem?_eq_some_iff.1 hy).1 (by simp only [only]; omega)]; exact hy
  have k2 : Keep (fun m => H1.length ≤ m) H2 (H3.set h.length (some (.arr 3 [[a1, a2, a3]] false))) := fun m hm y hy => by
    rw [List.getElem?_set_ne (by omega), x3.2 m (List.getElem?_eq_some_iff.1 hy).1 (by simp only [only]; omega)]; exact hy
  have k3 : Keep (fun m => H2.length ≤ m) H3 (H3.set h.length (some (.arr 3 [[a1, a2, a3]] false))) := fun m hm y hy => by
    rw [List.getElem?_set_ne (by omega)]; exact hy
  exact ⟨_, _, rfl, Own.mono _ (fun m hm => .inr (by omega)) k1 _ o1, _, _, rfl, Own.mono _ (fun m hm => .inr (by omega)) k2 _ o2, _, _, rfl, Own.mono _ (fun m hm => .inr (by omega)) k3 _ o3, rfl⟩

end Glb

/-
  Lists read by the program.
-/
namespace Glb
open Go
set_option maxRecDepth 10000
set_option maxHeartbeats 8000000

theorem OwnL_length {F : Nat → Prop} {h : AHeap} : ∀ {ds : List D} {l : List AV}, OwnL ds F h l → l.length = ds.length
  | [], l, hh => by simp only [OwnL] at hh; subst hh; rfl
  | d :: ds, l, hh => by simp only [OwnL] at hh; obtain ⟨a, r, rfl, _, h2⟩ := hh; simp [OwnL_length h2]
theorem OwnL.scalars {F : Nat → Prop} {h : AHeap} : ∀ {ds : List D} {l : List AV}, OwnL ds F h l → l.all AV.scalar = true
  | [], l, hh => by simp only [OwnL] at hh; subst hh; rfl
  | d :: ds, l, hh => by simp only [OwnL] at hh; obtain ⟨a, r, rfl, h1, h2⟩ := hh; simp [h1.scalar, h2.scalars]
theorem SrcB.off {F G : Nat → Prop} {h h' : AHeap} {s q : Nat} {b : Bool} {st : Rdr} (hs : SrcB F h s q b st) (e : Ext G h h') (hG : ∀ m, G m → s < m) : SrcB F h' s q b st := by
  have hq := hs.2.2.2
  have hlt := hs.lt
  refine ⟨(e.2 _ hlt (fun x => by have := hG _ x; omega)).trans hs.1, hs.2.1.keep (e.2 _ (by omega) (fun x => by have := hG _ x; omega)) (fun m hm y hy => ?_), hs.2.2⟩
  rw [e.2 m (by have := hs.2.2.1 m hm; omega) (fun x => by have := hG _ x; have := hs.2.2.1 m hm; omega)]; exact hy
theorem readN_bad {T : Type} {dec : Rdr → T × Rdr} (hn : (dec none).2 = none) : ∀ n, (readN dec n none).2 = none
  | 0 => rfl
  | n + 1 => by
    simp only [readN]
    generalize dec none = x at hn ⊢
    obtain ⟨a, b⟩ := x
    cases hn
    rfl
theorem readN_more {T : Type} {dec : Rdr → T × Rdr} {n : Nat} {l l' : List Int} (h : (dec (some l)).2 = some l') : readN dec (n + 1) (some l) = ((dec (some l)).1 :: (readN dec n (some l')).1, (readN dec n (some l')).2) := by
  simp only [readN]
  generalize dec (some l) = x at h ⊢
  obtain ⟨a, b⟩ := x
  cases h
  rfl
theorem readN_stop {T : Type} {dec : Rdr → T × Rdr} {n : Nat} {l : List Int} (h : (dec (some l)).2 = none) : (readN dec (n + 1) (some l)).2 = none := by
  simp only [readN]
  generalize dec (some l) = x at h ⊢
  obtain ⟨a, b⟩ := x
  cases h
  rfl
theorem rList_of {T : Type} {dec : Rdr → T × Rdr} (hn : (dec none).2 = none) (st : Rdr) : (rList dec st).2 = (if (rInt st).1 < 0 ∨ (((rInt st).2.all.length / 8 : Nat) : Int) < (rInt st).1 then none else (readN dec (rInt st).1.toNat (rInt st).2).2) ∧
    ((rList dec st).2 ≠ none → (rList dec st).1 = (readN dec (rInt st).1.toNat (rInt st).2).1) := by
  simp only [rList, rMany]
  generalize rInt st = x
  obtain ⟨n, b⟩ := x
  cases b with
  | none => simp [readN_bad hn]
  | some l =>
    simp only [Rdr.all, Option.getD_some]
    by_cases c : n < 0 ∨ ((l.length / 8 : Nat) : Int) < n
    · rw [if_pos c]; exact ⟨(if_pos c).symm, fun h => absurd rfl h⟩
    · rw [if_neg c]; exact ⟨(if_neg c).symm, fun _ => rfl⟩

theorem rList_b {T : Type} {dec : Rdr → T × Rdr} (hn : (dec none).2 = none) (b : Bool) (st : Rdr) :
    (((rInt st).1 < 0 ∨ (((rInt st).2.all.length / 8 : Nat) : Int) < (rInt st).1) → (rList dec (Rdr.if_ b st)).2 = none) ∧
    (¬ ((rInt st).1 < 0 ∨ (((rInt st).2.all.length / 8 : Nat) : Int) < (rInt st).1) → (rList dec (Rdr.if_ b st)).2 = (readN dec (rInt st).1.toNat (Rdr.if_ b (rInt st).2)).2 ∧
      ((rList dec (Rdr.if_ b st)).2 ≠ none → (rList dec (Rdr.if_ b st)).1 = (readN dec (rInt st).1.toNat (Rdr.if_ b (rInt st).2)).1)) := by
  cases b with
  | true => exact ⟨fun _ => rfl, fun _ => ⟨(readN_bad hn _).symm, fun h => absurd rfl h⟩⟩
  | false =>
    obtain ⟨h1, h2⟩ := rList_of hn st
    exact ⟨fun c => by rw [if_pos c] at h1; exact h1, fun c => by rw [if_neg c] at h1; exact ⟨h1, h2⟩⟩

/-- its row, if any, is new -/
def NewRow (k sz : Nat) (a : AV) : Prop := ∀ n off len cap, a = .ref n sz off len cap → k ≤ n
theorem NewRow.nils (k sz : Nat) : NewRow k sz .nils := by intro _ _ _ _ e; cases e
def GetL {T : Type} (P : Program) (f : FuncId) (sz : Nat) (c : T → List D) (dec : Rdr → T × Rdr) : Prop :=
  isFn P f = true ∧ ∀ (get : FuncId), GetT P get c dec → (dec none).2 = none → ∀ (F : Nat → Prop) (h : AHeap) (s q : Nat) (b : Bool) (st : Rdr), SrcB F h s q b st →
    ACalls P f [.ptr q 2 0 0, .clo get [.ptr s 2 0 0] []] h fun r h' => ∃ (xs : List T) (a : AV) (ok b2 : Bool) (st2 : Rdr), r = .tup [a, .bool ok] ∧ Own (.sl sz (xs.map c)) (fun m => F m ∨ h.length ≤ m) h' a ∧ NewRow h.length sz a ∧ SrcB F h' s q b2 st2 ∧ Ext (two s q) h h' ∧
      (ok = true → (rList dec (Rdr.if_ b st)).2 = Rdr.if_ b2 st2 ∧ (Rdr.if_ b2 st2 ≠ none → xs = (rList dec (Rdr.if_ b st)).1)) ∧ (ok = false → (rList dec (Rdr.if_ b st)).2 = none)

theorem rInt_if (b : Bool) (st : Rdr) : (rInt (Rdr.if_ b st)).2 = Rdr.if_ b (rInt st).2 := by cases b <;> rfl

theorem getEntrys_ok {P : Program} {f fi l bd : FuncId} {dec : Rdr → Entry × Rdr} (hf : Is P f (c_image_getList_api_Entry fi l bd)) (hI : IntR P fi) (hl : Is P l c_pack_Reader_Left) (hb : Is P bd c_pack_Reader_Bad) (hc : ∀ x : Entry, x.c.length = 3 := fun _ => rfl) : GetL P f 3 Entry.c dec := by
  refine ⟨hf.2, fun get hg hn F h s q b st hs => fun_sound hf.1 (Nat.le_of_ble_eq_true rfl) ?_⟩
  show vc P (c_image_getList_api_Entry fi l bd).code ⟨[(0, .ptr q 2 0 0), (1, .clo get [.ptr s 2 0 0] [])], [], h⟩ (atEnd (c_image_getList_api_Entry fi l bd).res _)
  have hq := hs.2.2.2
  have hlt := hs.lt
  simp only [c_image_getList_api_Entry, go_sem, reduceIte, Nat.reduceEqDiff, Nat.reduceAdd, Nat.reduceLeDiff, Nat.reducePow, Nat.reduceDiv, Nat.reduceMod, decide_true]
  refine wCall_use ⟨hI.1, hI.2 F _ q st hs.2.1 hs.nq⟩ ?_
  rintro _ h1 ⟨rfl, r1, x1⟩
  have S1 := hs.next x1 r1
  obtain ⟨K1, K2⟩ := rList_b hn b st
  have lb := r1.2.2
  have xt := x1.weak (F' := two s q) (fun _ _ x => .inr x)
  have bad : ((rInt st).1 < 0 ∨ (((rInt st).2.all.length / 8 : Nat) : Int) < (rInt st).1) → ∃ (xs : List Entry) (a : AV) (ok b2 : Bool) (st2 : Rdr), AV.tup [.nils, .bool false] = .tup [a, .bool ok] ∧ Own (.sl 3 (xs.map Entry.c)) (fun m => F m ∨ h.length ≤ m) h1 a ∧ NewRow h.length 3 a ∧ SrcB F h1 s q b2 st2 ∧ Ext (two s q) h h1 ∧
      (ok = true → (rList dec (Rdr.if_ b st)).2 = Rdr.if_ b2 st2 ∧ (Rdr.if_ b2 st2 ≠ none → xs = (rList dec (Rdr.if_ b st)).1)) ∧ (ok = false → (rList dec (Rdr.if_ b st)).2 = none) :=
    fun c => ⟨[], .nils, false, b, _, rfl, Own.nils _, NewRow.nils _ _, S1, xt, by simp, fun _ => K1 c⟩
  have q8 : ∀ x : Int, abin .quo (.int .i64 x) (.int .i64 8) = some (.int .i64 (IntKind.i64.wrap (x.tdiv 8))) := fun _ => rfl
  have e8 : IntKind.i64.wrap (((rInt st).2.all.length : Int).tdiv 8) = (((rInt st).2.all.length / 8 : Nat) : Int) := by
    rw [Int.tdiv_eq_ediv_of_nonneg (by omega), wrap_i64 (by omega)]; omega
  simp only [go_sem, reduceIte, Nat.reduceEqDiff, Nat.reduceAdd, Nat.reduceLeDiff, Nat.reducePow, Nat.reduceDiv, Nat.reduceMod, decide_true]
  by_cases c1 : (rInt st).1 < 0
  · simp only [decide_eq_true c1, go_sem, reduceIte, Nat.reduceEqDiff, Nat.reduceAdd, Nat.reduceLeDiff, Nat.reducePow, Nat.reduceDiv, Nat.reduceMod, decide_true]
    exact bad (.inl c1)
  simp only [decide_eq_false c1, go_sem, reduceIte, Nat.reduceEqDiff, Nat.reduceAdd, Nat.reduceLeDiff, Nat.reducePow, Nat.reduceDiv, Nat.reduceMod, decide_true]
  refine use1 hl.2 (pack_Left_r hl r1) ?_
  simp only [go_sem, reduceIte, Nat.reduceEqDiff, Nat.reduceAdd, Nat.reduceLeDiff, Nat.reducePow, Nat.reduceDiv, Nat.reduceMod, decide_true, q8, e8]
  by_cases c2 : (((rInt st).2.all.length / 8 : Nat) : Int) < (rInt st).1
  · simp only [decide_eq_true c2, go_sem, reduceIte, Nat.reduceEqDiff, Nat.reduceAdd, Nat.reduceLeDiff, Nat.reducePow, Nat.reduceDiv, Nat.reduceMod, decide_true]
    exact bad (.inr c2)
  simp only [decide_eq_false c2, go_sem, reduceIte, Nat.reduceEqDiff, Nat.reduceAdd, Nat.reduceLeDiff, Nat.reducePow, Nat.reduceDiv, Nat.reduceMod, decide_true]
  obtain ⟨E1, E2⟩ := K2 (by omega)
  clear bad K1 K2
  generalize (rInt st).1 = n at *
  generalize (rInt st).2 = st1 at *
  obtain ⟨N, rfl⟩ := Int.eq_ofNat_of_zero_le (show 0 ≤ n by omega)
  rw [Int.toNat_natCast] at E1 E2
  have hN37 : N ≤ 2^37 := by omega
  have hFs : ∀ m, F m → m < q := hs.2.2.1
  refine vc_loop (fun m L h2 => ∃ (i : Nat) (xs : List Entry) (o : AV) (b2 : Bool) (st2 : Rdr), lk 0 L = .ptr q 2 0 0 ∧ lk 1 L = .clo get [.ptr s 2 0 0] [] ∧ lk 7 L = o ∧ lk 19 L = .int .i64 N ∧ lk 20 L = .int .i64 i ∧
      Own (.sl 3 (xs.map Entry.c)) (fun m => F m ∨ h.length ≤ m) h2 o ∧ canApp h2 o ∧ (∀ n off len cap, o = .ref n 3 off len cap → h.length ≤ n) ∧ SrcB F h2 s q b2 st2 ∧ Ext (two s q) h h2 ∧ xs.length = i ∧ i ≤ N ∧ m = N - i ∧
      (Rdr.if_ b2 st2 = none → (readN dec N (Rdr.if_ b st1)).2 = none) ∧ (∀ l, Rdr.if_ b2 st2 = some l → readN dec N (Rdr.if_ b st1) = (xs ++ (readN dec (N - i) (some l)).1, (readN dec (N - i) (some l)).2))) N ?_ ?_
  · refine ⟨0, [], .nils, b, st1, by simp [lk_ins, lk_cons], by simp [lk_ins, lk_cons], by simp [lk_ins, lk_cons], by simp [lk_ins, lk_cons], by simp [lk_ins], Own.nils _, trivial, (by intro _ _ _ _ e; cases e), S1, xt, rfl, by omega, by omega, ?_, ?_⟩
    · intro e; rw [e]; exact readN_bad hn _
    · intro l e; rw [e]; simp
  · rintro m L h2 ⟨i, xs, o, b2, st2, k0, k1, k7, k19, k20, hO, hA, hR, S2, X2, hx, hi, rfl, hz, hm⟩
    simp only [c_image_getList_api_Entry_l0, go_sem, reduceIte, Nat.reduceEqDiff, Nat.reduceAdd, Nat.reduceLeDiff, Nat.reducePow, Nat.reduceDiv, Nat.reduceMod, decide_true, k0, k1, k7, k19, k20]
    refine wCond_split (fun ci => ?_) (fun ci => ?_)
    · simp at ci
      simp only [go_sem, reduceIte, Nat.reduceEqDiff, Nat.reduceAdd, Nat.reduceLeDiff, Nat.reducePow, Nat.reduceDiv, Nat.reduceMod, decide_true, k0, k1, k7, k19, k20]
      refine wCall_use ⟨hg.1, hg.2 F h2 s q _ ⟨b2, st2, S2, rfl⟩⟩ ?_
      rintro _ h3 ⟨x, as, rfl, hO3, ⟨b3, st3, S3, e3⟩, X3, hx3⟩
      have has : as.length = 3 := by rw [OwnL_length hO3, hc]
      have hn0 : ∀ m, F m → m < h.length := fun m hm => by have := hFs m hm; omega
      have keep3 : Keep (fun m => F m ∨ h.length ≤ m) h2 h3 := X3.keepOff (fun m _ hm hm' => by rcases hm with hm | hm <;> rcases hm' with rfl | rfl <;> first | (have := hFs _ hm; omega) | omega)
      have hO' := Own.mono (F' := fun m => F m ∨ h.length ≤ m) _ (fun _ x => x) keep3 _ hO
      have hA' := hA.keep hO keep3
      have l2 : h.length ≤ h2.length := X2.1
      have l3 : h2.length ≤ h3.length := X3.1
      obtain ⟨o4, h4, s1, s2, s3, s4, s5⟩ := own_appG (bytes := 40) (G := fun m => F m ∨ h2.length ≤ m) (es := [x.c]) (ys := [as]) (h := h3 ++ [some (.arr 3 [as] false)]) hO' hA' (Ext.b1 _)
        ⟨as, [], rfl, OwnL.mono _ (fun _ x => x) ((Ext.b1 (h := h3) (some (.arr 3 [as] false))).keep _) _ hO3, rfl⟩
        (fun m hm => hm.elim .inl (fun x => .inr (by omega)))
        (fun n off len cap e hm => by
          have h1 := hR _ _ _ _ e
          subst e
          obtain ⟨row, g, hrow, _⟩ := hA
          have h2 := (List.getElem?_eq_some_iff.1 hrow).1
          rcases hm with hm | hm
          · have := hn0 _ hm; omega
          · omega) (.inr (by simp; omega)) (by simp; omega)
      have s1' := s1
      rw [← aappend_of (aelems_new h3 3 [as] false (some 1) (len := 1) rfl)] at s1'
      have hsc := hO3.scalars
      have S4 := (S3.up (Ext.b1 (some (.arr 3 [as] false)))).off s4 (fun m hm => by obtain ⟨⟨_, _, _, e⟩, _⟩ := hm; have := hR _ _ _ _ e; omega)
      have e1 : IntKind.i64.wrap (↑i + 1) = (i : Int) + 1 := wrap_i64 (by omega)
      have X4 : Ext (two s q) h h4 := ((X2.trans X3 (fun _ _ x => x) (fun _ _ x => x)).trans (Ext.b1 (some (.arr 3 [as] false))) (fun _ _ x => x) (fun _ _ x => x.elim)).trans s4 (fun _ _ x => x) (fun m hm hm' => by obtain ⟨⟨_, _, _, e⟩, _⟩ := hm'; have := hR _ _ _ _ e; omega)
      have go : ∀ st0, Rdr.if_ b2 st2 = st0 → (Rdr.if_ b3 st3 = none → (readN dec N (Rdr.if_ b st1)).2 = none) ∧ (∀ l, Rdr.if_ b3 st3 = some l → readN dec N (Rdr.if_ b st1) = (xs ++ [x] ++ (readN dec (N - (i + 1)) (some l)).1, (readN dec (N - (i + 1)) (some l)).2)) := by
        intro st0 e0
        rw [e0] at e3 hx3
        rw [← e3]
        cases st0 with
        | none => exact ⟨fun _ => hz e0, fun l e => by rw [hn] at e; cases e⟩
        | some l0 =>
          have hm0 := hm l0 e0
          rw [show N - i = (N - (i + 1)) + 1 by omega] at hm0
          refine ⟨fun e => by rw [hm0]; exact readN_stop e, fun l e => ?_⟩
          rw [hm0, readN_more e, hx3 (by rw [e]; simp)]
          simp
      obtain ⟨go1, go2⟩ := go _ rfl
      simp only [go_sem, reduceIte, Nat.reduceEqDiff, Nat.reduceAdd, Nat.reduceLeDiff, Nat.reducePow, Nat.reduceDiv, Nat.reduceMod, decide_true, has, k0, k1, k7, k19, k20, hsc, s1']
      refine use1 hb.2 (pack_Bad_r hb S4.2.1) ?_
      cases st3 with
      | none =>
        simp only [go_sem, reduceIte, Nat.reduceEqDiff, Nat.reduceAdd, Nat.reduceLeDiff, Nat.reducePow, Nat.reduceDiv, Nat.reduceMod, decide_true, Option.isNone_none]
        refine ⟨[], .nils, false, b3, none, rfl, Own.nils _, NewRow.nils _ _, S4, X4, by simp, fun _ => ?_⟩
        rw [E1]; exact go1 (by cases b3 <;> rfl)
      | some l3 =>
        simp only [go_sem, reduceIte, Nat.reduceEqDiff, Nat.reduceAdd, Nat.reduceLeDiff, Nat.reducePow, Nat.reduceDiv, Nat.reduceMod, decide_true, Option.isNone_some, k0, k1, k7, k19, k20, e1]
        refine ⟨_, by omega, i + 1, xs ++ [x], o4, b3, _, rfl, by simp, by simpa using s2, s3, fun n off len cap e => ?_, S4, X4, by simp [hx], ci, rfl, go1, go2⟩
        rcases s5 _ _ _ _ e with ⟨_, _, _, e'⟩ | hge
        · exact hR _ _ _ _ e'
        · simp only [List.length_append, List.length_cons, List.length_nil] at hge; omega
    · simp at ci
      obtain rfl : i = N := by omega
      simp only [go_sem, reduceIte, Nat.reduceEqDiff, Nat.reduceAdd, Nat.reduceLeDiff, Nat.reducePow, Nat.reduceDiv, Nat.reduceMod, decide_true, k0, k7]
      refine use1 hb.2 (pack_Bad_r hb S2.2.1) ?_
      simp only [go_sem, reduceIte, Nat.reduceEqDiff, Nat.reduceAdd, Nat.reduceLeDiff, Nat.reducePow, Nat.reduceDiv, Nat.reduceMod, decide_true]
      refine ⟨xs, o, !st2.isNone, b2, st2, rfl, hO, hR, S2, X2, fun hok => ?_, fun hok => ?_⟩
      · rw [E1]
        cases e : Rdr.if_ b2 st2 with
        | none => exact ⟨hz e, fun hh => absurd rfl hh⟩
        | some l =>
          have := hm l e
          rw [Nat.sub_self] at this
          refine ⟨by rw [this]; rfl, fun _ => ?_⟩
          rw [E2 (by rw [E1, this]; simp [readN]), this]; simp [readN]
      · rw [E1]
        refine hz ?_
        cases st2 with
        | none => cases b2 <;> rfl
        | some l => simp at hok
theorem getHards_ok {P : Program} {f fi l bd : FuncId} {dec : Rdr → Hard × Rdr} (hf : Is P f (c_image_getList_api_Hard fi l bd)) (hI : IntR P fi) (hl : Is P l c_pack_Reader_Left) (hb : Is P bd c_pack_Reader_Bad) (hc : ∀ x : Hard, x.c.length = 10 := fun _ => rfl) : GetL P f 10 Hard.c dec := by
  refine ⟨hf.2, fun get hg hn F h s q b st hs => fun_sound hf.1 (Nat.le_of_ble_eq_true rfl) ?_⟩
  show vc P (c_image_getList_api_Hard fi l bd).code ⟨[(0, .ptr q 2 0 0), (1, .clo get [.ptr s 2 0 0] [])], [], h⟩ (atEnd (c_image_getList_api_Hard fi l bd).res _)
  have hq := hs.2.2.2
  have hlt := hs.lt
  simp only [c_image_getList_api_Hard, go_sem, reduceIte, Nat.reduceEqDiff, Nat.reduceAdd, Nat.reduceLeDiff, Nat.reducePow, Nat.reduceDiv, Nat.reduceMod, decide_true]
  refine wCall_use ⟨hI.1, hI.2 F _ q st hs.2.1 hs.nq⟩ ?_
  rintro _ h1 ⟨rfl, r1, x1⟩
  have S1 := hs.next x1 r1
  obtain ⟨K1, K2⟩ := rList_b hn b st
  have lb := r1.2.2
  have xt := x1.weak (F' := two s q) (fun _ _ x => .inr x)
  have bad : ((rInt st).1 < 0 ∨ (((rInt st).2.all.length / 8 : Nat) : Int) < (rInt st).1) → ∃ (xs : List Hard) (a : AV) (ok b2 : Bool) (st2 : Rdr), AV.tup [.nils, .bool false] = .tup [a, .bool ok] ∧ Own (.sl 10 (xs.map Hard.c)) (fun m => F m ∨ h.length ≤ m) h1 a ∧ NewRow h.length 10 a ∧ SrcB F h1 s q b2 st2 ∧ Ext (two s q) h h1 ∧
      (ok = true → (rList dec (Rdr.if_ b st)).2 = Rdr.if_ b2 st2 ∧ (Rdr.if_ b2 st2 ≠ none → xs = (rList dec (Rdr.if_ b st)).1)) ∧ (ok = false → (rList dec (Rdr.if_ b st)).2 = none) :=
    fun c => ⟨[], .nils, false, b, _, rfl, Own.nils _, NewRow.nils _ _, S1, xt, by simp, fun _ => K1 c⟩
  have q8 : ∀ x : Int, abin .quo (.int .i64 x) (.int .i64 8) = some (.int .i64 (IntKind.i64.wrap (x.tdiv 8))) := fun _ => rfl
  have e8 : IntKind.i64.wrap (((rInt st).2.all.length : Int).tdiv 8) = (((rInt st).2.all.length / 8 : Nat) : Int) := by
    rw [Int.tdiv_eq_ediv_of_nonneg (by omega), wrap_i64 (by omega)]; omega
  simp only [go_sem, reduceIte, Nat.reduceEqDiff, Nat.reduceAdd, Nat.reduceLeDiff, Nat.reducePow, Nat.reduceDiv, Nat.reduceMod, decide_true]
  by_cases c1 : (rInt st).1 < 0
  · simp only [decide_eq_true c1, go_sem, reduceIte, Nat.reduceEqDiff, Nat.reduceAdd, Nat.reduceLeDiff, Nat.reducePow, Nat.reduceDiv, Nat.reduceMod, decide_true]
    exact bad (.inl c1)
  simp only [decide_eq_false c1, go_sem, reduceIte, Nat.reduceEqDiff, Nat.reduceAdd, Nat.reduceLeDiff, Nat.reducePow, Nat.reduceDiv, Nat.reduceMod, decide_true]
  refine use1 hl.2 (pack_Left_r hl r1) ?_
  simp only [go_sem, reduceIte, Nat.reduceEqDiff, Nat.reduceAdd, Nat.reduceLeDiff, Nat.reducePow, Nat.reduceDiv, Nat.reduceMod, decide_true, q8, e8]
  by_cases c2 : (((rInt st).2.all.length / 8 : Nat) : Int) < (rInt st).1
  · simp only [decide_eq_true c2, go_sem, reduceIte, Nat.reduceEqDiff, Nat.reduceAdd, Nat.reduceLeDiff, Nat.reducePow, Nat.reduceDiv, Nat.reduceMod, decide_true]
    exact bad (.inr c2)
  simp only [decide_eq_false c2, go_sem, reduceIte, Nat.reduceEqDiff, Nat.reduceAdd, Nat.reduceLeDiff, Nat.reducePow, Nat.reduceDiv, Nat.reduceMod, decide_true]
  obtain ⟨E1, E2⟩ := K2 (by omega)
  clear bad K1 K2
  generalize (rInt st).1 = n at *
  generalize (rInt st).2 = st1 at *
  obtain ⟨N, rfl⟩ := Int.eq_ofNat_of_zero_le (show 0 ≤ n by omega)
  rw [Int.toNat_natCast] at E1 E2
  have hN37 : N ≤ 2^37 := by omega
  have hFs : ∀ m, F m → m < q := hs.2.2.1
  refine vc_loop (fun m L h2 => ∃ (i : Nat) (xs : List Hard) (o : AV) (b2 : Bool) (st2 : Rdr), lk 0 L = .ptr q 2 0 0 ∧ lk 1 L = .clo get [.ptr s 2 0 0] [] ∧ lk 7 L = o ∧ lk 19 L = .int .i64 N ∧ lk 20 L = .int .i64 i ∧
      Own (.sl 10 (xs.map Hard.c)) (fun m => F m ∨ h.length ≤ m) h2 o ∧ canApp h2 o ∧ (∀ n off len cap, o = .ref n 10 off len cap → h.length ≤ n) ∧ SrcB F h2 s q b2 st2 ∧ Ext (two s q) h h2 ∧ xs.length = i ∧ i ≤ N ∧ m = N - i ∧
      (Rdr.if_ b2 st2 = none → (readN dec N (Rdr.if_ b st1)).2 = none) ∧ (∀ l, Rdr.if_ b2 st2 = some l → readN dec N (Rdr.if_ b st1) = (xs ++ (readN dec (N - i) (some l)).1, (readN dec (N - i) (some l)).2))) N ?_ ?_
  · refine ⟨0, [], .nils, b, st1, by simp [lk_ins, lk_cons], by simp [lk_ins, lk_cons], by simp [lk_ins, lk_cons], by simp [lk_ins, lk_cons], by simp [lk_ins], Own.nils _, trivial, (by intro _ _ _ _ e; cases e), S1, xt, rfl, by omega, by omega, ?_, ?_⟩
    · intro e; rw [e]; exact readN_bad hn _
    · intro l e; rw [e]; simp
  · rintro m L h2 ⟨i, xs, o, b2, st2, k0, k1, k7, k19, k20, hO, hA, hR, S2, X2, hx, hi, rfl, hz, hm⟩
    simp only [c_image_getList_api_Hard_l0, go_sem, reduceIte, Nat.reduceEqDiff, Nat.reduceAdd, Nat.reduceLeDiff, Nat.reducePow, Nat.reduceDiv, Nat.reduceMod, decide_true, k0, k1, k7, k19, k20]
    refine wCond_split (fun ci => ?_) (fun ci => ?_)
    · simp at ci
      simp only [go_sem, reduceIte, Nat.reduceEqDiff, Nat.reduceAdd, Nat.reduceLeDiff, Nat.reducePow, Nat.reduceDiv, Nat.reduceMod, decide_true, k0, k1, k7, k19, k20]
      refine wCall_use ⟨hg.1, hg.2 F h2 s q _ ⟨b2, st2, S2, rfl⟩⟩ ?_
      rintro _ h3 ⟨x, as, rfl, hO3, ⟨b3, st3, S3, e3⟩, X3, hx3⟩
      have has : as.length = 10 := by rw [OwnL_length hO3, hc]
      have hn0 : ∀ m, F m → m < h.length := fun m hm => by have := hFs m hm; omega
      have keep3 : Keep (fun m => F m ∨ h.length ≤ m) h2 h3 := X3.keepOff (fun m _ hm hm' => by rcases hm with hm | hm <;> rcases hm' with rfl | rfl <;> first | (have := hFs _ hm; omega) | omega)
      have hO' := Own.mono (F' := fun m => F m ∨ h.length ≤ m) _ (fun _ x => x) keep3 _ hO
      have hA' := hA.keep hO keep3
      have l2 : h.length ≤ h2.length := X2.1
      have l3 : h2.length ≤ h3.length := X3.1
      obtain ⟨o4, h4, s1, s2, s3, s4, s5⟩ := own_appG (bytes := 160) (G := fun m => F m ∨ h2.length ≤ m) (es := [x.c]) (ys := [as]) (h := h3 ++ [some (.arr 10 [as] false)]) hO' hA' (Ext.b1 _)
        ⟨as, [], rfl, OwnL.mono _ (fun _ x => x) ((Ext.b1 (h := h3) (some (.arr 10 [as] false))).keep _) _ hO3, rfl⟩
        (fun m hm => hm.elim .inl (fun x => .inr (by omega)))
        (fun n off len cap e hm => by
          have h1 := hR _ _ _ _ e
          subst e
          obtain ⟨row, g, hrow, _⟩ := hA
          have h2 := (List.getElem?_eq_some_iff.1 hrow).1
          rcases hm with hm | hm
          · have := hn0 _ hm; omega
          · omega) (.inr (by simp; omega)) (by simp; omega)
      have s1' := s1
      rw [← aappend_of (aelems_new h3 10 [as] false (some 1) (len := 1) rfl)] at s1'
      have hsc := hO3.scalars
      have S4 := (S3.up (Ext.b1 (some (.arr 10 [as] false)))).off s4 (fun m hm => by obtain ⟨⟨_, _, _, e⟩, _⟩ := hm; have := hR _ _ _ _ e; omega)
      have e1 : IntKind.i64.wrap (↑i + 1) = (i : Int) + 1 := wrap_i64 (by omega)
      have X4 : Ext (two s q) h h4 := ((X2.trans X3 (fun _ _ x => x) (fun _ _ x => x)).trans (Ext.b1 (some (.arr 10 [as] false))) (fun _ _ x => x) (fun _ _ x => x.elim)).trans s4 (fun _ _ x => x) (fun m hm hm' => by obtain ⟨⟨_, _, _, e⟩, _⟩ := hm'; have := hR _ _ _ _ e; omega)
      have go : ∀ st0, Rdr.if_ b2 st2 = st0 → (Rdr.if_ b3 st3 = none → (readN dec N (Rdr.if_ b st1)).2 = none) ∧ (∀ l, Rdr.if_ b3 st3 = some l → readN dec N (Rdr.if_ b st1) = (xs ++ [x] ++ (readN dec (N - (i + 1)) (some l)).1, (readN dec (N - (i + 1)) (some l)).2)) := by
        intro st0 e0
        rw [e0] at e3 hx3
        rw [← e3]
        cases st0 with
        | none => exact ⟨fun _ => hz e0, fun l e => by rw [hn] at e; cases e⟩
        | some l0 =>
          have hm0 := hm l0 e0
          rw [show N - i = (N - (i + 1)) + 1 by omega] at hm0
          refine ⟨fun e => by rw [hm0]; exact readN_stop e, fun l e => ?_⟩
          rw [hm0, readN_more e, hx3 (by rw [e]; simp)]
          simp
      obtain ⟨go1, go2⟩ := go _ rfl
      simp only [go_sem, reduceIte, Nat.reduceEqDiff, Nat.reduceAdd, Nat.reduceLeDiff, Nat.reducePow, Nat.reduceDiv, Nat.reduceMod, decide_true, has, k0, k1, k7, k19, k20, hsc, s1']
      refine use1 hb.2 (pack_Bad_r hb S4.2.1) ?_
      cases st3 with
      | none =>
        simp only [go_sem, reduceIte, Nat.reduceEqDiff, Nat.reduceAdd, Nat.reduceLeDiff, Nat.reducePow, Nat.reduceDiv, Nat.reduceMod, decide_true, Option.isNone_none]
        refine ⟨[], .nils, false, b3, none, rfl, Own.nils _, NewRow.nils _ _, S4, X4, by simp, fun _ => ?_⟩
        rw [E1]; exact go1 (by cases b3 <;> rfl)
      | some l3 =>
        simp only [go_sem, reduceIte, Nat.reduceEqDiff, Nat.reduceAdd, Nat.reduceLeDiff, Nat.reducePow, Nat.reduceDiv, Nat.reduceMod, decide_true, Option.isNone_some, k0, k1, k7, k19, k20, e1]
        refine ⟨_, by omega, i + 1, xs ++ [x], o4, b3, _, rfl, by simp, by simpa using s2, s3, fun n off len cap e => ?_, S4, X4, by simp [hx], ci, rfl, go1, go2⟩
        rcases s5 _ _ _ _ e with ⟨_, _, _, e'⟩ | hge
        · exact hR _ _ _ _ e'
        · simp only [List.length_append, List.length_cons, List.length_nil] at hge; omega
    · simp at ci
      obtain rfl : i = N := by omega
      simp only [go_sem, reduceIte, Nat.reduceEqDiff, Nat.reduceAdd, Nat.reduceLeDiff, Nat.reducePow, Nat.reduceDiv, Nat.reduceMod, decide_true, k0, k7]
      refine use1 hb.2 (pack_Bad_r hb S2.2.1) ?_
      simp only [go_sem, reduceIte, Nat.reduceEqDiff, Nat.reduceAdd, Nat.reduceLeDiff, Nat.reducePow, Nat.reduceDiv, Nat.reduceMod, decide_true]
      refine ⟨xs, o, !st2.isNone, b2, st2, rfl, hO, hR, S2, X2, fun hok => ?_, fun hok => ?_⟩
      · rw [E1]
        cases e : Rdr.if_ b2 st2 with
        | none => exact ⟨hz e, fun hh => absurd rfl hh⟩
        | some l =>
          have := hm l e
          rw [Nat.sub_self] at this
          refine ⟨by rw [this]; rfl, fun _ => ?_⟩
          rw [E2 (by rw [E1, this]; simp [readN]), this]; simp [readN]
      · rw [E1]
        refine hz ?_
        cases st2 with
        | none => cases b2 <;> rfl
        | some l => simp at hok
theorem getVotes_ok {P : Program} {f fi l bd : FuncId} {dec : Rdr → Vote × Rdr} (hf : Is P f (c_image_getList_api_Accepted fi l bd)) (hI : IntR P fi) (hl : Is P l c_pack_Reader_Left) (hb : Is P bd c_pack_Reader_Bad) (hc : ∀ x : Vote, x.c.length = 5 := fun _ => rfl) : GetL P f 5 Vote.c dec := by
  refine ⟨hf.2, fun get hg hn F h s q b st hs => fun_sound hf.1 (Nat.le_of_ble_eq_true rfl) ?_⟩
  show vc P (c_image_getList_api_Accepted fi l bd).code ⟨[(0, .ptr q 2 0 0), (1, .clo get [.ptr s 2 0 0] [])], [], h⟩ (atEnd (c_image_getList_api_Accepted fi l bd).res _)
  have hq := hs.2.2.2
  have hlt := hs.lt
  simp only [c_image_getList_api_Accepted, go_sem, reduceIte, Nat.reduceEqDiff, Nat.reduceAdd, Nat.reduceLeDiff, Nat.reducePow, Nat.reduceDiv, Nat.reduceMod, decide_true]
  refine wCall_use ⟨hI.1, hI.2 F _ q st hs.2.1 hs.nq⟩ ?_
  rintro _ h1 ⟨rfl, r1, x1⟩
  have S1 := hs.next x1 r1
  obtain ⟨K1, K2⟩ := rList_b hn b st
  have lb := r1.2.2
  have xt := x1.weak (F' := two s q) (fun _ _ x => .inr x)
  have bad : ((rInt st).1 < 0 ∨ (((rInt st).2.all.length / 8 : Nat) : Int) < (rInt st).1) → ∃ (xs : List Vote) (a : AV) (ok b2 : Bool) (st2 : Rdr), AV.tup [.nils, .bool false] = .tup [a, .bool ok] ∧ Own (.sl 5 (xs.map Vote.c)) (fun m => F m ∨ h.length ≤ m) h1 a ∧ NewRow h.length 5 a ∧ SrcB F h1 s q b2 st2 ∧ Ext (two s q) h h1 ∧
      (ok = true → (rList dec (Rdr.if_ b st)).2 = Rdr.if_ b2 st2 ∧ (Rdr.if_ b2 st2 ≠ none → xs = (rList dec (Rdr.if_ b st)).1)) ∧ (ok = false → (rList dec (Rdr.if_ b st)).2 = none) :=
    fun c => ⟨[], .nils, false, b, _, rfl, Own.nils _, NewRow.nils _ _, S1, xt, by simp, fun _ => K1 c⟩
  have q8 : ∀ x : Int, abin .quo (.int .i64 x) (.int .i64 8) = some (.int .i64 (IntKind.i64.wrap (x.tdiv 8))) := fun _ => rfl
  have e8 : IntKind.i64.wrap (((rInt st).2.all.length : Int).tdiv 8) = (((rInt st).2.all.length / 8 : Nat) : Int) := by
    rw [Int.tdiv_eq_ediv_of_nonneg (by omega), wrap_i64 (by omega)]; omega
  simp only [go_sem, reduceIte, Nat.reduceEqDiff, Nat.reduceAdd, Nat.reduceLeDiff, Nat.reducePow, Nat.reduceDiv, Nat.reduceMod, decide_true]
  by_cases c1 : (rInt st).1 < 0
  · simp only [decide_eq_true c1, go_sem, reduceIte, Nat.reduceEqDiff, Nat.reduceAdd, Nat.reduceLeDiff, Nat.reducePow, Nat.reduceDiv, Nat.reduceMod, decide_true]
    exact bad (.inl c1)
  simp only [decide_eq_false c1, go_sem, reduceIte, Nat.reduceEqDiff, Nat.reduceAdd, Nat.reduceLeDiff, Nat.reducePow, Nat.reduceDiv, Nat.reduceMod, decide_true]
  refine use1 hl.2 (pack_Left_r hl r1) ?_
  simp only [go_sem, reduceIte, Nat.reduceEqDiff, Nat.reduceAdd, Nat.reduceLeDiff, Nat.reducePow, Nat.reduceDiv, Nat.reduceMod, decide_true, q8, e8]
  by_cases c2 : (((rInt st).2.all.length / 8 : Nat) : Int) < (rInt st).1
  · simp only [decide_eq_true c2, go_sem, reduceIte, Nat.reduceEqDiff, Nat.reduceAdd, Nat.reduceLeDiff, Nat.reducePow, Nat.reduceDiv, Nat.reduceMod, decide_true]
    exact bad (.inr c2)
  simp only [decide_eq_false c2, go_sem, reduceIte, Nat.reduceEqDiff, Nat.reduceAdd, Nat.reduceLeDiff, Nat.reducePow, Nat.reduceDiv, Nat.reduceMod, decide_true]
  obtain ⟨E1, E2⟩ := K2 (by omega)
  clear bad K1 K2
  generalize (rInt st).1 = n at *
  generalize (rInt st).2 = st1 at *
  obtain ⟨N, rfl⟩ := Int.eq_ofNat_of_zero_le (show 0 ≤ n by omega)
  rw [Int.toNat_natCast] at E1 E2
  have hN37 : N ≤ 2^37 := by omega
  have hFs : ∀ m, F m → m < q := hs.2.2.1
  refine vc_loop (fun m L h2 => ∃ (i : Nat) (xs : List Vote) (o : AV) (b2 : Bool) (st2 : Rdr), lk 0 L = .ptr q 2 0 0 ∧ lk 1 L = .clo get [.ptr s 2 0 0] [] ∧ lk 7 L = o ∧ lk 19 L = .int .i64 N ∧ lk 20 L = .int .i64 i ∧
      Own (.sl 5 (xs.map Vote.c)) (fun m => F m ∨ h.length ≤ m) h2 o ∧ canApp h2 o ∧ (∀ n off len cap, o = .ref n 5 off len cap → h.length ≤ n) ∧ SrcB F h2 s q b2 st2 ∧ Ext (two s q) h h2 ∧ xs.length = i ∧ i ≤ N ∧ m = N - i ∧
      (Rdr.if_ b2 st2 = none → (readN dec N (Rdr.if_ b st1)).2 = none) ∧ (∀ l, Rdr.if_ b2 st2 = some l → readN dec N (Rdr.if_ b st1) = (xs ++ (readN dec (N - i) (some l)).1, (readN dec (N - i) (some l)).2))) N ?_ ?_
  · refine ⟨0, [], .nils, b, st1, by simp [lk_ins, lk_cons], by simp [lk_ins, lk_cons], by simp [lk_ins, lk_cons], by simp [lk_ins, lk_cons], by simp [lk_ins], Own.nils _, trivial, (by intro _ _ _ _ e; cases e), S1, xt, rfl, by omega, by omega, ?_, ?_⟩
    · intro e; rw [e]; exact readN_bad hn _
    · intro l e; rw [e]; simp
  · rintro m L h2 ⟨i, xs, o, b2, st2, k0, k1, k7, k19, k20, hO, hA, hR, S2, X2, hx, hi, rfl, hz, hm⟩
    simp only [c_image_getList_api_Accepted_l0, go_sem, reduceIte, Nat.reduceEqDiff, Nat.reduceAdd, Nat.reduceLeDiff, Nat.reducePow, Nat.reduceDiv, Nat.reduceMod, decide_true, k0, k1, k7, k19, k20]
    refine wCond_split (fun ci => ?_) (fun ci => ?_)
    · simp at ci
      simp only [go_sem, reduceIte, Nat.reduceEqDiff, Nat.reduceAdd, Nat.reduceLeDiff, Nat.reducePow, Nat.reduceDiv, Nat.reduceMod, decide_true, k0, k1, k7, k19, k20]
      refine wCall_use ⟨hg.1, hg.2 F h2 s q _ ⟨b2, st2, S2, rfl⟩⟩ ?_
      rintro _ h3 ⟨x, as, rfl, hO3, ⟨b3, st3, S3, e3⟩, X3, hx3⟩
      have has : as.length = 5 := by rw [OwnL_length hO3, hc]
      have hn0 : ∀ m, F m → m < h.length := fun m hm => by have := hFs m hm; omega
      have keep3 : Keep (fun m => F m ∨ h.length ≤ m) h2 h3 := X3.keepOff (fun m _ hm hm' => by rcases hm with hm | hm <;> rcases hm' with rfl | rfl <;> first | (have := hFs _ hm; omega) | omega)
      have hO' := Own.mono (F' := fun m => F m ∨ h.length ≤ m) _ (fun _ x => x) keep3 _ hO
      have hA' := hA.keep hO keep3
      have l2 : h.length ≤ h2.length := X2.1
      have l3 : h2.length ≤ h3.length := X3.1
      obtain ⟨o4, h4, s1, s2, s3, s4, s5⟩ := own_appG (bytes := 40) (G := fun m => F m ∨ h2.length ≤ m) (es := [x.c]) (ys := [as]) (h := h3 ++ [some (.arr 5 [as] false)]) hO' hA' (Ext.b1 _)
        ⟨as, [], rfl, OwnL.mono _ (fun _ x => x) ((Ext.b1 (h := h3) (some (.arr 5 [as] false))).keep _) _ hO3, rfl⟩
        (fun m hm => hm.elim .inl (fun x => .inr (by omega)))
        (fun n off len cap e hm => by
          have h1 := hR _ _ _ _ e
          subst e
          obtain ⟨row, g, hrow, _⟩ := hA
          have h2 := (List.getElem?_eq_some_iff.1 hrow).1
          rcases hm with hm | hm
          · have := hn0 _ hm; omega
          · omega) (.inr (by simp; omega)) (by simp; omega)
      have s1' := s1
      rw [← aappend_of (aelems_new h3 5 [as] false (some 1) (len := 1) rfl)] at s1'
      have hsc := hO3.scalars
      have S4 := (S3.up (Ext.b1 (some (.arr 5 [as] false)))).off s4 (fun m hm => by obtain ⟨⟨_, _, _, e⟩, _⟩ := hm; have := hR _ _ _ _ e; omega)
      have e1 : IntKind.i64.wrap (↑i + 1) = (i : Int) + 1 := wrap_i64 (by omega)
      have X4 : Ext (two s q) h h4 := ((X2.trans X3 (fun _ _ x => x) (fun _ _ x => x)).trans (Ext.b1 (some (.arr 5 [as] false))) (fun _ _ x => x) (fun _ _ x => x.elim)).trans s4 (fun _ _ x => x) (fun m hm hm' => by obtain ⟨⟨_, _, _, e⟩, _⟩ := hm'; have := hR _ _ _ _ e; omega)
      have go : ∀ st0, Rdr.if_ b2 st2 = st0 → (Rdr.if_ b3 st3 = none → (readN dec N (Rdr.if_ b st1)).2 = none) ∧ (∀ l, Rdr.if_ b3 st3 = some l → readN dec N (Rdr.if_ b st1) = (xs ++ [x] ++ (readN dec (N - (i + 1)) (some l)).1, (readN dec (N - (i + 1)) (some l)).2)) := by
        intro st0 e0
        rw [e0] at e3 hx3
        rw [← e3]
        cases st0 with
        | none => exact ⟨fun _ => hz e0, fun l e => by rw [hn] at e; cases e⟩
        | some l0 =>
          have hm0 := hm l0 e0
          rw [show N - i = (N - (i + 1)) + 1 by omega] at hm0
          refine ⟨fun e => by rw [hm0]; exact readN_stop e, fun l e => ?_⟩
          rw [hm0, readN_more e, hx3 (by rw [e]; simp)]
          simp
      obtain ⟨go1, go2⟩ := go _ rfl
      simp only [go_sem, reduceIte, Nat.reduceEqDiff, Nat.reduceAdd, Nat.reduceLeDiff, Nat.reducePow, Nat.reduceDiv, Nat.reduceMod, decide_true, has, k0, k1, k7, k19, k20, hsc, s1']
      refine use1 hb.2 (pack_Bad_r hb S4.2.1) ?_
      cases st3 with
      | none =>
        simp only [go_sem, reduceIte, Nat.reduceEqDiff, Nat.reduceAdd, Nat.reduceLeDiff, Nat.reducePow, Nat.reduceDiv, Nat.reduceMod, decide_true, Option.isNone_none]
        refine ⟨[], .nils, false, b3, none, rfl, Own.nils _, NewRow.nils _ _, S4, X4, by simp, fun _ => ?_⟩
        rw [E1]; exact go1 (by cases b3 <;> rfl)
      | some l3 =>
        simp only [go_sem, reduceIte, Nat.reduceEqDiff, Nat.reduceAdd, Nat.reduceLeDiff, Nat.reducePow, Nat.reduceDiv, Nat.reduceMod, decide_true, Option.isNone_some, k0, k1, k7, k19, k20, e1]
        refine ⟨_, by omega, i + 1, xs ++ [x], o4, b3, _, rfl, by simp, by simpa using s2, s3, fun n off len cap e => ?_, S4, X4, by simp [hx], ci, rfl, go1, go2⟩
        rcases s5 _ _ _ _ e with ⟨_, _, _, e'⟩ | hge
        · exact hR _ _ _ _ e'
        · simp only [List.length_append, List.length_cons, List.length_nil] at hge; omega
    · simp at ci
      obtain rfl : i = N := by omega
      simp only [go_sem, reduceIte, Nat.reduceEqDiff, Nat.reduceAdd, Nat.reduceLeDiff, Nat.reducePow, Nat.reduceDiv, Nat.reduceMod, decide_true, k0, k7]
      refine use1 hb.2 (pack_Bad_r hb S2.2.1) ?_
      simp only [go_sem, reduceIte, Nat.reduceEqDiff, Nat.reduceAdd, Nat.reduceLeDiff, Nat.reducePow, Nat.reduceDiv, Nat.reduceMod, decide_true]
      refine ⟨xs, o, !st2.isNone, b2, st2, rfl, hO, hR, S2, X2, fun hok => ?_, fun hok => ?_⟩
      · rw [E1]
        cases e : Rdr.if_ b2 st2 with
        | none => exact ⟨hz e, fun hh => absurd rfl hh⟩
        | some l =>
          have := hm l e
          rw [Nat.sub_self] at this
          refine ⟨by rw [this]; rfl, fun _ => ?_⟩
          rw [E2 (by rw [E1, this]; simp [readN]), this]; simp [readN]
      · rw [E1]
        refine hz ?_
        cases st2 with
        | none => cases b2 <;> rfl
        | some l => simp at hok
end Glb

/-
  Lists of a source, logs, Hards, changes.
-/
namespace Glb
open Go
set_option maxRecDepth 10000
set_option maxHeartbeats 8000000

def ListT {T : Type} (P : Program) (f : FuncId) (sz : Nat) (c : T → List D) (dec : Rdr → T × Rdr) : Prop :=
  isFn P f = true ∧ ∀ (get : FuncId), GetT P get c dec → (dec none).2 = none → ∀ (F : Nat → Prop) (h : AHeap) (s q : Nat) (st : Rdr), SrcS F h s q st →
    ACalls P f [.ptr s 2 0 0, .clo get [.ptr s 2 0 0] []] h fun r h' => ∃ (xs : List T), Own (.sl sz (xs.map c)) (fun m => F m ∨ h.length ≤ m) h' r ∧ NewRow h.length sz r ∧ SrcS F h' s q (rList dec st).2 ∧ Ext (two s q) h h' ∧ ((rList dec st).2 ≠ none → xs = (rList dec st).1)

theorem listEntrys_ok {P : Program} {f g : FuncId} {dec : Rdr → Entry × Rdr} (hf : Is P f (c_image_listOf_api_Entry g)) (hg : GetL P g 3 Entry.c dec) : ListT P f 3 Entry.c dec := by
  refine ⟨hf.2, fun get hgt hn F h s q st ⟨b, st', hs, e⟩ => fun_sound hf.1 (Nat.le_of_ble_eq_true rfl) ?_⟩
  show vc P (c_image_listOf_api_Entry g).code ⟨[(0, .ptr s 2 0 0), (1, .clo get [.ptr s 2 0 0] [])], [], h⟩ (atEnd (c_image_listOf_api_Entry g).res _)
  subst e
  have B := hs.1
  have hq := hs.2.2.2
  have hlt := hs.lt
  simp only [c_image_listOf_api_Entry, go_sem, reduceIte, Nat.reduceEqDiff, Nat.reduceAdd, Nat.reduceLeDiff, Nat.reducePow, Nat.reduceDiv, Nat.reduceMod, decide_true, B]
  refine wCall_use ⟨hg.1, hg.2 get hgt hn F h s q b st' hs⟩ ?_
  rintro _ h1 ⟨xs, a, ok, b2, st2, rfl, hO, hNR, S1, X1, hok, hno⟩
  have B1 := S1.1
  have l1 := S1.lt
  cases ok with
  | true =>
    obtain ⟨h3, h4⟩ := hok rfl
    simp only [go_sem, reduceIte, Nat.reduceEqDiff, Nat.reduceAdd, Nat.reduceLeDiff, Nat.reducePow, Nat.reduceDiv, Nat.reduceMod, decide_true]
    refine ⟨xs, hO, hNR, ⟨b2, st2, S1, h3⟩, X1, fun hh => h4 (by rw [← h3]; exact hh)⟩
  | false =>
    simp only [go_sem, reduceIte, Nat.reduceEqDiff, Nat.reduceAdd, Nat.reduceLeDiff, Nat.reducePow, Nat.reduceDiv, Nat.reduceMod, decide_true, B1, l1]
    refine ⟨xs, Own.mono _ (fun _ x => x) (fun m hm y hy => ?_) _ hO, hNR, ⟨true, st2, ⟨List.getElem?_set_self l1, S1.2.1.keep (List.getElem?_set_ne (by omega)) (fun m hm y hy => ?_), S1.2.2⟩, hno rfl⟩, ?_, fun hh => absurd (hno rfl) hh⟩
    · rw [List.getElem?_set_ne (by rintro rfl; rcases hm with hm | hm; exact hs.ns hm; omega)]; exact hy
    · rw [List.getElem?_set_ne (by rintro rfl; exact hs.ns hm)]; exact hy
    · exact X1.trans (Ext.set (F := two s q) _ (fun _ => .inl rfl)) (fun _ _ x => x) (fun _ _ x => x)
theorem listHards_ok {P : Program} {f g : FuncId} {dec : Rdr → Hard × Rdr} (hf : Is P f (c_image_listOf_api_Hard g)) (hg : GetL P g 10 Hard.c dec) : ListT P f 10 Hard.c dec := by
  refine ⟨hf.2, fun get hgt hn F h s q st ⟨b, st', hs, e⟩ => fun_sound hf.1 (Nat.le_of_ble_eq_true rfl) ?_⟩
  show vc P (c_image_listOf_api_Hard g).code ⟨[(0, .ptr s 2 0 0), (1, .clo get [.ptr s 2 0 0] [])], [], h⟩ (atEnd (c_image_listOf_api_Hard g).res _)
  subst e
  have B := hs.1
  have hq := hs.2.2.2
  have hlt := hs.lt
  simp only [c_image_listOf_api_Hard, go_sem, reduceIte, Nat.reduceEqDiff, Nat.reduceAdd, Nat.reduceLeDiff, Nat.reducePow, Nat.reduceDiv, Nat.reduceMod, decide_true, B]
  refine wCall_use ⟨hg.1, hg.2 get hgt hn F h s q b st' hs⟩ ?_
  rintro _ h1 ⟨xs, a, ok, b2, st2, rfl, hO, hNR, S1, X1, hok, hno⟩
  have B1 := S1.1
  have l1 := S1.lt
  cases ok with
  | true =>
    obtain ⟨h3, h4⟩ := hok rfl
    simp only [go_sem, reduceIte, Nat.reduceEqDiff, Nat.reduceAdd, Nat.reduceLeDiff, Nat.reducePow, Nat.reduceDiv, Nat.reduceMod, decide_true]
    refine ⟨xs, hO, hNR, ⟨b2, st2, S1, h3⟩, X1, fun hh => h4 (by rw [← h3]; exact hh)⟩
  | false =>
    simp only [go_sem, reduceIte, Nat.reduceEqDiff, Nat.reduceAdd, Nat.reduceLeDiff, Nat.reducePow, Nat.reduceDiv, Nat.reduceMod, decide_true, B1, l1]
    refine ⟨xs, Own.mono _ (fun _ x => x) (fun m hm y hy => ?_) _ hO, hNR, ⟨true, st2, ⟨List.getElem?_set_self l1, S1.2.1.keep (List.getElem?_set_ne (by omega)) (fun m hm y hy => ?_), S1.2.2⟩, hno rfl⟩, ?_, fun hh => absurd (hno rfl) hh⟩
    · rw [List.getElem?_set_ne (by rintro rfl; rcases hm with hm | hm; exact hs.ns hm; omega)]; exact hy
    · rw [List.getElem?_set_ne (by rintro rfl; exact hs.ns hm)]; exact hy
    · exact X1.trans (Ext.set (F := two s q) _ (fun _ => .inl rfl)) (fun _ _ x => x) (fun _ _ x => x)
theorem listVotes_ok {P : Program} {f g : FuncId} {dec : Rdr → Vote × Rdr} (hf : Is P f (c_image_listOf_api_Accepted g)) (hg : GetL P g 5 Vote.c dec) : ListT P f 5 Vote.c dec := by
  refine ⟨hf.2, fun get hgt hn F h s q st ⟨b, st', hs, e⟩ => fun_sound hf.1 (Nat.le_of_ble_eq_true rfl) ?_⟩
  show vc P (c_image_listOf_api_Accepted g).code ⟨[(0, .ptr s 2 0 0), (1, .clo get [.ptr s 2 0 0] [])], [], h⟩ (atEnd (c_image_listOf_api_Accepted g).res _)
  subst e
  have B := hs.1
  have hq := hs.2.2.2
  have hlt := hs.lt
  simp only [c_image_listOf_api_Accepted, go_sem, reduceIte, Nat.reduceEqDiff, Nat.reduceAdd, Nat.reduceLeDiff, Nat.reducePow, Nat.reduceDiv, Nat.reduceMod, decide_true, B]
  refine wCall_use ⟨hg.1, hg.2 get hgt hn F h s q b st' hs⟩ ?_
  rintro _ h1 ⟨xs, a, ok, b2, st2, rfl, hO, hNR, S1, X1, hok, hno⟩
  have B1 := S1.1
  have l1 := S1.lt
  cases ok with
  | true =>
    obtain ⟨h3, h4⟩ := hok rfl
    simp only [go_sem, reduceIte, Nat.reduceEqDiff, Nat.reduceAdd, Nat.reduceLeDiff, Nat.reducePow, Nat.reduceDiv, Nat.reduceMod, decide_true]
    refine ⟨xs, hO, hNR, ⟨b2, st2, S1, h3⟩, X1, fun hh => h4 (by rw [← h3]; exact hh)⟩
  | false =>
    simp only [go_sem, reduceIte, Nat.reduceEqDiff, Nat.reduceAdd, Nat.reduceLeDiff, Nat.reducePow, Nat.reduceDiv, Nat.reduceMod, decide_true, B1, l1]
    refine ⟨xs, Own.mono _ (fun _ x => x) (fun m hm y hy => ?_) _ hO, hNR, ⟨true, st2, ⟨List.getElem?_set_self l1, S1.2.1.keep (List.getElem?_set_ne (by omega)) (fun m hm y hy => ?_), S1.2.2⟩, hno rfl⟩, ?_, fun hh => absurd (hno rfl) hh⟩
    · rw [List.getElem?_set_ne (by rintro rfl; rcases hm with hm | hm; exact hs.ns hm; omega)]; exact hy
    · rw [List.getElem?_set_ne (by rintro rfl; exact hs.ns hm)]; exact hy
    · exact X1.trans (Ext.set (F := two s q) _ (fun _ => .inl rfl)) (fun _ _ x => x) (fun _ _ x => x)
theorem log_ok {P : Program} {f g en li : FuncId} (hf : Is P f (c_image_source_log g en li)) (hg : IntR P g) (he : GetT P en Entry.c entryC.dec) (hl : ListT P li 3 Entry.c entryC.dec) : GetT P f Log.c logC.dec := by
  refine ⟨hf.2, fun F h s q st ⟨b, st', hs, e⟩ => fun_sound hf.1 (Nat.le_of_ble_eq_true rfl) ?_⟩
  show vc P (c_image_source_log g en li).code ⟨[(0, .ptr s 2 0 0)], [], h⟩ (atEnd (c_image_source_log g en li).res _)
  have hlt := hs.lt
  have hq := hs.2.2.2
  have B2 : ∀ x y : Option ABlk, (h ++ [x] ++ [y])[s]? = some (some (.arr 2 [[.ptr q 2 0 0, .bool b]] false)) := fun x y => (old2 hlt x y).trans hs.1
  simp only [c_image_source_log, go_sem, reduceIte, Nat.reduceEqDiff, Nat.reduceAdd, Nat.reduceLeDiff, Nat.reducePow, Nat.reduceDiv, Nat.reduceMod, decide_true, B2]
  have S0 := hs.up (Ext.b2 (some (.arr 3 [[.int .i64 0, .int .i64 0, .nils]] false)) none)
  have C0 := bx20 h (some (.arr 3 [[.int .i64 0, .int .i64 0, .nils]] false)) none
  have D0 := bx21 h (some (.arr 3 [[.int .i64 0, .int .i64 0, .nils]] false)) none
  have E0 : Ext nof h (h ++ [some (.arr 3 [[.int .i64 0, .int .i64 0, .nils]] false)] ++ [none]) := Ext.b2 _ _
  generalize h ++ [some (ABlk.arr 3 [[.int .i64 0, .int .i64 0, .nils]] false)] ++ [none] = H0 at *
  have NR : ∀ k, notRes (h.length + 1) k (.ptr s 2 0 0) = true := fun k => notRes_lt (by omega)
  simp only [NR, true_and]
  refine wCall_use ⟨hg.1, hg.2 F _ q st' S0.2.1 hs.nq⟩ ?_
  rintro _ H1 ⟨rfl, r1, x1⟩
  have S1 := S0.next x1 r1
  have hq := hs.2.2.2
  have lH := E0.1
  have C1 : H1[h.length]? = _ := (x1.2 _ (List.getElem?_eq_some_iff.1 C0).1 (by simp only [only]; omega)).trans C0
  have B1 := S1.1
  have D1 : H1[h.length + 1]? = some none := (x1.2 _ (List.getElem?_eq_some_iff.1 D0).1 (by simp only [only]; omega)).trans D0
  have ne1 : (h.length + 1 = s) = False := eq_false (by omega)
  simp only [go_sem, reduceIte, Nat.reduceEqDiff, Nat.reduceAdd, Nat.reduceLeDiff, Nat.reducePow, Nat.reduceDiv, Nat.reduceMod, decide_true, hideL_cons, showL_cons, B1, D1, ne1, set_back D1]
  refine wCall_use ⟨hg.1, hg.2 F _ q _ S1.2.1 hs.nq⟩ ?_
  rintro _ H2 ⟨rfl, r2, x2⟩
  have S2 := S1.next x2 r2
  have lH1 := x1.1
  have C2 : H2[h.length]? = _ := (x2.2 _ (List.getElem?_eq_some_iff.1 C1).1 (by simp only [only]; omega)).trans C1
  have D2 : H2[h.length + 1]? = some none := (x2.2 _ (List.getElem?_eq_some_iff.1 D1).1 (by simp only [only]; omega)).trans D1
  have B2 := S2.1
  have l2 := (List.getElem?_eq_some_iff.1 D2).1
  simp only [go_sem, reduceIte, Nat.reduceEqDiff, Nat.reduceAdd, Nat.reduceLeDiff, Nat.reducePow, Nat.reduceDiv, Nat.reduceMod, decide_true, hideL_cons, showL_cons, B2, D2, ne1, set_back D2, l2]
  rw [List.set_set]
  have S3 := S2.set (n := h.length + 1) (by omega) (some (.arr 3 [[.int .i64 (rInt st').1, .int .i64 (rInt (rInt st').2).1, .nils]] false))
  have C3 : (H2.set (h.length + 1) (some (.arr 3 [[.int .i64 (rInt st').1, .int .i64 (rInt (rInt st').2).1, .nils]] false)))[h.length]? = _ := (List.getElem?_set_ne (by omega)).trans C2
  have D3 := List.getElem?_set_self (a := some (ABlk.arr 3 [[.int .i64 (rInt st').1, .int .i64 (rInt (rInt st').2).1, .nils]] false)) l2
  have E3 : Ext (only q) h (H2.set (h.length + 1) (some (.arr 3 [[.int .i64 (rInt st').1, .int .i64 (rInt (rInt st').2).1, .nils]] false))) :=
    (E0.trans (x1.trans x2 (fun _ _ x => x) (fun _ _ x => x)) (fun _ _ x => x.elim) (fun _ _ x => x)).put (by omega) _
  generalize H2.set (h.length + 1) (some (ABlk.arr 3 [[.int .i64 (rInt st').1, .int .i64 (rInt (rInt st').2).1, .nils]] false)) = H3 at *
  have lH3 := E3.1
  have lD := (List.getElem?_eq_some_iff.1 D3).1
  refine wCall_use ⟨hl.1, hl.2 en he entryC.bad F _ s q _ ⟨b, _, S3, rfl⟩⟩ ?_
  rintro r H4 ⟨xs, o4, -, S4, x4, hx⟩
  have C4 : H4[h.length]? = _ := (x4.2 _ (by omega) (by simp only [two]; omega)).trans C3
  have D4 : H4[h.length + 1]? = _ := (x4.2 _ lD (by simp only [two]; omega)).trans D3
  have l4 := (List.getElem?_eq_some_iff.1 D4).1
  have l4' := (List.getElem?_eq_some_iff.1 C4).1
  simp only [go_sem, reduceIte, Nat.reduceEqDiff, Nat.reduceAdd, Nat.reduceLeDiff, Nat.reducePow, Nat.reduceDiv, Nat.reduceMod, decide_true, D4, l4, l4', o4.scalar, cells_of o4.scalar, C4, List.length_set]
  subst e
  have dl : logC.dec (Rdr.if_ b st') = (⟨(rInt (Rdr.if_ b st')).1, (rInt (rInt (Rdr.if_ b st')).2).1, (rList entryC.dec (rInt (rInt (Rdr.if_ b st')).2).2).1⟩, (rList entryC.dec (rInt (rInt (Rdr.if_ b st')).2).2).2) := rfl
  rw [dl, rInt_if, rInt_if]
  obtain ⟨b4, st4, S4, e4⟩ := S4
  refine ⟨⟨(rInt st').1, (rInt (rInt st').2).1, xs⟩, _, rfl, ?_, ⟨b4, st4, (S4.set (by omega) _).set (by omega) _, e4⟩, (((E3.weak (F' := two s q) (fun _ _ x => .inr x)).trans x4 (fun _ _ x => x) (fun _ _ x => x)).put (by omega) _).put (by omega) _, ?_⟩
  · refine ⟨_, _, rfl, own_i64 _ _ _, _, _, rfl, own_i64 _ _ _, _, _, rfl, ?_, rfl⟩
    refine Own.mono (F := fun m => F m ∨ H3.length ≤ m) _ (fun m hm => hm.elim .inl (fun x => .inr (by omega))) (fun m hm y hy => ?_) _ o4
    have hF : ∀ m, F m → m < q := hs.2.2.1
    rw [List.getElem?_set_ne (by rcases hm with hm | hm; (have := hF _ hm; omega); omega), List.getElem?_set_ne (by rcases hm with hm | hm; (have := hF _ hm; omega); omega)]; exact hy
  · intro hh
    rw [hx hh]
    cases b with
    | true => exact absurd rfl hh
    | false => rfl

/-- rows that a reading thing writes -/
abbrev four (s q n : Nat) : Nat → Prop := fun m => m = s ∨ m = q ∨ m = n ∨ m = n + 1
theorem own_four {d : D} {F : Nat → Prop} {H H' : AHeap} {a : AV} {s q n k : Nat} (ho : Own d (fun m => F m ∨ k ≤ m) H a) (e : Ext (four s q n) H H') (hF : ∀ m, F m → m < q) (hq : q < s) (hs : s < n) (hk : n + 2 ≤ k) : Own d (fun m => F m ∨ n ≤ m) H' a :=
  Own.mono _ (fun m hm => hm.elim .inl (fun x => .inr (by omega))) (e.keepOff (fun m _ hm hm' => by rcases hm with hm | hm; (have := hF _ hm; simp only [four] at hm'; omega); (simp only [four] at hm'; omega))) _ ho
theorem own_logL {x : Log} {F : Nat → Prop} {h : AHeap} {a : List AV} (hh : OwnL x.c F h a) : ∃ d, a = [.int .i64 x.base, .int .i64 x.bterm, d] ∧ Own (dEntries x.es) F h d := by
  simp only [Log.c, OwnL, Own] at hh
  obtain ⟨_, _, rfl, rfl, _, _, rfl, rfl, d, _, rfl, hd, rfl⟩ := hh
  exact ⟨d, rfl, by simpa only [dEntries, Own] using hd⟩
theorem own_voteL {x : Vote} {F : Nat → Prop} {h : AHeap} {a : List AV} (hh : OwnL x.c F h a) : a = [.int .i64 x.txn, .int .i64 x.part, .int .i64 x.promised, .int .i64 x.ballot, .int .i64 x.value] := by
  simp only [Vote.c, OwnL, Own] at hh
  obtain ⟨_, _, rfl, rfl, _, _, rfl, rfl, _, _, rfl, rfl, _, _, rfl, rfl, _, _, rfl, rfl, rfl⟩ := hh
  rfl

theorem hard_ok {P : Program} {f g lo co k : FuncId} (hf : Is P f (c_image_source_hard g lo co k)) (hg : IntR P g) (hlo : GetT P lo Log.c logC.dec) (hco : GetT P co Conf.c confC.dec) (hk : BlobR P k) : GetT P f Hard.c hardC.dec := by
  refine ⟨hf.2, fun F h s q st ⟨b, st', hs, e⟩ => fun_sound hf.1 (Nat.le_of_ble_eq_true rfl) ?_⟩
  show vc P (c_image_source_hard g lo co k).code ⟨[(0, .ptr s 2 0 0)], [], h⟩ (atEnd (c_image_source_hard g lo co k).res _)
  have hlt := hs.lt
  have hq := hs.2.2.2
  have B2 : ∀ x y : Option ABlk, (h ++ [x] ++ [y])[s]? = some (some (.arr 2 [[.ptr q 2 0 0, .bool b]] false)) := fun x y => (old2 hlt x y).trans hs.1
  have NR : ∀ k, notRes (h.length + 1) k (.ptr s 2 0 0) = true := fun k => notRes_lt (by omega)
  have ne1 : (h.length + 1 = s) = False := eq_false (by omega)
  simp only [c_image_source_hard, go_sem, reduceIte, Nat.reduceEqDiff, Nat.reduceAdd, Nat.reduceLeDiff, Nat.reducePow, Nat.reduceDiv, Nat.reduceMod, decide_true, B2, NR]
  have S0 := hs.up (Ext.b2 (some (.arr 10 [[.int .i64 0, .int .i64 0, .int .i64 0, .int .i64 0, .int .i64 0, .nils, .nils, .nils, .nils, .nils]] false)) none)
  have C0 := bx20 h (some (.arr 10 [[.int .i64 0, .int .i64 0, .int .i64 0, .int .i64 0, .int .i64 0, .nils, .nils, .nils, .nils, .nils]] false)) none
  have D0 := bx21 h (some (.arr 10 [[.int .i64 0, .int .i64 0, .int .i64 0, .int .i64 0, .int .i64 0, .nils, .nils, .nils, .nils, .nils]] false)) none
  have E0 : Ext (two s q) h (h ++ [some (.arr 10 [[.int .i64 0, .int .i64 0, .int .i64 0, .int .i64 0, .int .i64 0, .nils, .nils, .nils, .nils, .nils]] false)] ++ [none]) := (Ext.b2 _ _).weak (fun _ _ x => x.elim)
  have lH0 : h.length + 2 = (h ++ [some (ABlk.arr 10 [[.int .i64 0, .int .i64 0, .int .i64 0, .int .i64 0, .int .i64 0, .nils, .nils, .nils, .nils, .nils]] false)] ++ [none]).length := by simp
  generalize h ++ [some (ABlk.arr 10 [[.int .i64 0, .int .i64 0, .int .i64 0, .int .i64 0, .int .i64 0, .nils, .nils, .nils, .nils, .nils]] false)] ++ [none] = H0 at *
  clear B2
  refine wCall_use ⟨hg.1, hg.2 F _ q _ S0.2.1 hs.nq⟩ ?_
  rintro _ H1 ⟨rfl, r1, x1⟩
  have S1 := S0.next x1 r1
  have lH1 := x1.1
  have C1 : H1[h.length]? = _ := (x1.2 _ (by omega) (by simp only [only]; omega)).trans C0
  have D1 : H1[h.length + 1]? = some none := (x1.2 _ (by omega) (by simp only [only]; omega)).trans D0
  have B1 := S1.1
  have E1 := E0.trans x1 (fun _ _ x => x) (fun _ _ x => .inr x)
  simp only [go_sem, reduceIte, Nat.reduceEqDiff, Nat.reduceAdd, Nat.reduceLeDiff, Nat.reducePow, Nat.reduceDiv, Nat.reduceMod, decide_true, hideL_cons, showL_cons, B1, D1, ne1, set_back D1]
  refine wCall_use ⟨hg.1, hg.2 F _ q _ S1.2.1 hs.nq⟩ ?_
  rintro _ H2 ⟨rfl, r2, x2⟩
  have S2 := S1.next x2 r2
  have lH2 := x2.1
  have C2 : H2[h.length]? = _ := (x2.2 _ (by omega) (by simp only [only]; omega)).trans C1
  have D2 : H2[h.length + 1]? = some none := (x2.2 _ (by omega) (by simp only [only]; omega)).trans D1
  have B2 := S2.1
  have E2 := E1.trans x2 (fun _ _ x => x) (fun _ _ x => .inr x)
  simp only [go_sem, reduceIte, Nat.reduceEqDiff, Nat.reduceAdd, Nat.reduceLeDiff, Nat.reducePow, Nat.reduceDiv, Nat.reduceMod, decide_true, hideL_cons, showL_cons, B2, D2, ne1, set_back D2]
  refine wCall_use ⟨hg.1, hg.2 F _ q _ S2.2.1 hs.nq⟩ ?_
  rintro _ H3 ⟨rfl, r3, x3⟩
  have S3 := S2.next x3 r3
  have lH3 := x3.1
  have C3 : H3[h.length]? = _ := (x3.2 _ (by omega) (by simp only [only]; omega)).trans C2
  have D3 : H3[h.length + 1]? = some none := (x3.2 _ (by omega) (by simp only [only]; omega)).trans D2
  have B3 := S3.1
  have E3 := E2.trans x3 (fun _ _ x => x) (fun _ _ x => .inr x)
  have l3 : h.length + 1 < H3.length := by omega
  simp only [go_sem, reduceIte, Nat.reduceEqDiff, Nat.reduceAdd, Nat.reduceLeDiff, Nat.reducePow, Nat.reduceDiv, Nat.reduceMod, decide_true, hideL_cons, showL_cons, B3, D3, ne1, set_back D3, l3]
  rw [List.set_set]
  have K0 : Ext (four s q h.length) H3 (H3.set (h.length + 1) (some (.arr 10 [[.int .i64 (rInt st').1, .int .i64 (rInt (rInt st').2).1, .int .i64 (rInt (rInt (rInt st').2).2).1, .int .i64 0, .int .i64 0, .nils, .nils, .nils, .nils, .nils]] false))) := Ext.set _ (fun _ => .inr (.inr (.inr rfl)))
  have SS := S3.set (n := h.length + 1) (by omega) (some (.arr 10 [[.int .i64 (rInt st').1, .int .i64 (rInt (rInt st').2).1, .int .i64 (rInt (rInt (rInt st').2).2).1, .int .i64 0, .int .i64 0, .nils, .nils, .nils, .nils, .nils]] false))
  have CC : (H3.set (h.length + 1) (some (.arr 10 [[.int .i64 (rInt st').1, .int .i64 (rInt (rInt st').2).1, .int .i64 (rInt (rInt (rInt st').2).2).1, .int .i64 0, .int .i64 0, .nils, .nils, .nils, .nils, .nils]] false)))[h.length]? = _ := (List.getElem?_set_ne (by omega)).trans C3
  have DD := List.getElem?_set_self (a := some (ABlk.arr 10 [[.int .i64 (rInt st').1, .int .i64 (rInt (rInt st').2).1, .int .i64 (rInt (rInt (rInt st').2).2).1, .int .i64 0, .int .i64 0, .nils, .nils, .nils, .nils, .nils]] false)) l3
  have EE := E3.put (n := h.length + 1) (by omega) (some (.arr 10 [[.int .i64 (rInt st').1, .int .i64 (rInt (rInt st').2).1, .int .i64 (rInt (rInt (rInt st').2).2).1, .int .i64 0, .int .i64 0, .nils, .nils, .nils, .nils, .nils]] false))
  have lHH : (H3.set (h.length + 1) (some (.arr 10 [[.int .i64 (rInt st').1, .int .i64 (rInt (rInt st').2).1, .int .i64 (rInt (rInt (rInt st').2).2).1, .int .i64 0, .int .i64 0, .nils, .nils, .nils, .nils, .nils]] false))).length = H3.length := List.length_set
  generalize hgen : H3.set (h.length + 1) (some (ABlk.arr 10 [[.int .i64 (rInt st').1, .int .i64 (rInt (rInt st').2).1, .int .i64 (rInt (rInt (rInt st').2).2).1, .int .i64 0, .int .i64 0, .nils, .nils, .nils, .nils, .nils]] false)) = G0 at *
  have T0 : SrcS F G0 s q (Rdr.if_ b (rInt (rInt (rInt st').2).2).2) := ⟨b, _, SS, rfl⟩
  generalize hσ : Rdr.if_ b (rInt (rInt (rInt st').2).2).2 = σ0 at *
  refine wCall_use ⟨hlo.1, hlo.2 F _ s q _ T0⟩ ?_
  rintro _ J1 ⟨y1, as1, rfl, w1, U1, z1, hy1⟩
  obtain ⟨d1, rfl, wl1⟩ := own_logL w1
  have z1 := z1
  have lJ1 := z1.1
  have CJ1 : J1[h.length]? = _ := (z1.2 _ (by omega) (by simp only [two]; omega)).trans CC
  have DJ1 : J1[h.length + 1]? = _ := (z1.2 _ (by omega) (by simp only [two]; omega)).trans DD
  have mJ1 : h.length + 1 < J1.length := by omega
  have nJ1 : h.length < J1.length := by omega
  simp only [go_sem, reduceIte, Nat.reduceEqDiff, Nat.reduceAdd, Nat.reduceLeDiff, Nat.reducePow, Nat.reduceDiv, Nat.reduceMod, decide_true, DJ1, CJ1, mJ1, nJ1, List.length_set, wl1.scalar, cells_of wl1.scalar]
  have K1 : Ext (four s q h.length) G0 (J1.set (h.length + 1) (some (.arr 10 [[.int .i64 (rInt st').1, .int .i64 (rInt (rInt st').2).1, .int .i64 (rInt (rInt (rInt st').2).2).1, .int .i64 y1.base, .int .i64 y1.bterm, d1, .nils, .nils, .nils, .nils]] false))) := z1.trans (Ext.set (F := four s q h.length) _ (fun _ => .inr (.inr (.inr rfl)))) (fun _ _ x => x.elim .inl (fun y => .inr (.inl y))) (fun _ _ x => x)
  have M1 : Ext (four s q h.length) J1 (J1.set (h.length + 1) (some (.arr 10 [[.int .i64 (rInt st').1, .int .i64 (rInt (rInt st').2).1, .int .i64 (rInt (rInt (rInt st').2).2).1, .int .i64 y1.base, .int .i64 y1.bterm, d1, .nils, .nils, .nils, .nils]] false))) := Ext.set _ (fun _ => .inr (.inr (.inr rfl)))
  have T1 : SrcS F (J1.set (h.length + 1) (some (.arr 10 [[.int .i64 (rInt st').1, .int .i64 (rInt (rInt st').2).1, .int .i64 (rInt (rInt (rInt st').2).2).1, .int .i64 y1.base, .int .i64 y1.bterm, d1, .nils, .nils, .nils, .nils]] false))) s q (logC.dec σ0).2 := by obtain ⟨b', s', S', e'⟩ := U1; exact ⟨b', s', S'.set (by omega) _, e'⟩
  skip
  have CC := (List.getElem?_set_ne (a := some (ABlk.arr 10 [[.int .i64 (rInt st').1, .int .i64 (rInt (rInt st').2).1, .int .i64 (rInt (rInt (rInt st').2).2).1, .int .i64 y1.base, .int .i64 y1.bterm, d1, .nils, .nils, .nils, .nils]] false)) (show h.length + 1 ≠ h.length by omega)).trans CJ1
  have DD := List.getElem?_set_self (a := some (ABlk.arr 10 [[.int .i64 (rInt st').1, .int .i64 (rInt (rInt st').2).1, .int .i64 (rInt (rInt (rInt st').2).2).1, .int .i64 y1.base, .int .i64 y1.bterm, d1, .nils, .nils, .nils, .nils]] false)) mJ1
  have EE := (EE.trans z1 (fun _ _ x => x) (fun _ _ x => x)).put (n := h.length + 1) (by omega) (some (.arr 10 [[.int .i64 (rInt st').1, .int .i64 (rInt (rInt st').2).1, .int .i64 (rInt (rInt (rInt st').2).2).1, .int .i64 y1.base, .int .i64 y1.bterm, d1, .nils, .nils, .nils, .nils]] false))
  have lG1 : (J1.set (h.length + 1) (some (.arr 10 [[.int .i64 (rInt st').1, .int .i64 (rInt (rInt st').2).1, .int .i64 (rInt (rInt (rInt st').2).2).1, .int .i64 y1.base, .int .i64 y1.bterm, d1, .nils, .nils, .nils, .nils]] false))).length = J1.length := List.length_set
  generalize J1.set (h.length + 1) (some (ABlk.arr 10 [[.int .i64 (rInt st').1, .int .i64 (rInt (rInt st').2).1, .int .i64 (rInt (rInt (rInt st').2).2).1, .int .i64 y1.base, .int .i64 y1.bterm, d1, .nils, .nils, .nils, .nils]] false)) = G1 at *
  refine wCall_use ⟨hco.1, hco.2 F _ s q _ T1⟩ ?_
  rintro _ J2 ⟨y2, as2, rfl, w2, U2, z2, hy2⟩
  obtain ⟨d2, f2, g2, rfl, wl2, vl2, ul2⟩ := own_confL w2
  have z2 := z2
  have lJ2 := z2.1
  have CJ2 : J2[h.length]? = _ := (z2.2 _ (by omega) (by simp only [two]; omega)).trans CC
  have DJ2 : J2[h.length + 1]? = _ := (z2.2 _ (by omega) (by simp only [two]; omega)).trans DD
  have mJ2 : h.length + 1 < J2.length := by omega
  have nJ2 : h.length < J2.length := by omega
  obtain ⟨bb, sb, Ub, eb⟩ := U2
  have Bb := Ub.1
  simp only [go_sem, reduceIte, Nat.reduceEqDiff, Nat.reduceAdd, Nat.reduceLeDiff, Nat.reducePow, Nat.reduceDiv, Nat.reduceMod, decide_true, DJ2, CJ2, mJ2, nJ2, List.length_set, wl2.scalar, cells_of wl2.scalar, vl2.scalar, cells_of vl2.scalar, ul2.scalar, cells_of ul2.scalar, Bb, ne1]
  have K2 : Ext (four s q h.length) G1 (J2.set (h.length + 1) (some (.arr 10 [[.int .i64 (rInt st').1, .int .i64 (rInt (rInt st').2).1, .int .i64 (rInt (rInt (rInt st').2).2).1, .int .i64 y1.base, .int .i64 y1.bterm, d1, d2, f2, g2, .nils]] false))) := z2.trans (Ext.set (F := four s q h.length) _ (fun _ => .inr (.inr (.inr rfl)))) (fun _ _ x => x.elim .inl (fun y => .inr (.inl y))) (fun _ _ x => x)
  have M2 : Ext (four s q h.length) J2 (J2.set (h.length + 1) (some (.arr 10 [[.int .i64 (rInt st').1, .int .i64 (rInt (rInt st').2).1, .int .i64 (rInt (rInt (rInt st').2).2).1, .int .i64 y1.base, .int .i64 y1.bterm, d1, d2, f2, g2, .nils]] false))) := Ext.set _ (fun _ => .inr (.inr (.inr rfl)))
  have T2 : SrcS F (J2.set (h.length + 1) (some (.arr 10 [[.int .i64 (rInt st').1, .int .i64 (rInt (rInt st').2).1, .int .i64 (rInt (rInt (rInt st').2).2).1, .int .i64 y1.base, .int .i64 y1.bterm, d1, d2, f2, g2, .nils]] false))) s q (confC.dec (logC.dec σ0).2).2 := ⟨bb, sb, Ub.set (by omega) _, eb⟩
  have Sb : SrcB F (J2.set (h.length + 1) (some (.arr 10 [[.int .i64 (rInt st').1, .int .i64 (rInt (rInt st').2).1, .int .i64 (rInt (rInt (rInt st').2).2).1, .int .i64 y1.base, .int .i64 y1.bterm, d1, d2, f2, g2, .nils]] false))) s q bb sb := Ub.set (by omega) _
  have CC := (List.getElem?_set_ne (a := some (ABlk.arr 10 [[.int .i64 (rInt st').1, .int .i64 (rInt (rInt st').2).1, .int .i64 (rInt (rInt (rInt st').2).2).1, .int .i64 y1.base, .int .i64 y1.bterm, d1, d2, f2, g2, .nils]] false)) (show h.length + 1 ≠ h.length by omega)).trans CJ2
  have DD := List.getElem?_set_self (a := some (ABlk.arr 10 [[.int .i64 (rInt st').1, .int .i64 (rInt (rInt st').2).1, .int .i64 (rInt (rInt (rInt st').2).2).1, .int .i64 y1.base, .int .i64 y1.bterm, d1, d2, f2, g2, .nils]] false)) mJ2
  have EE := (EE.trans z2 (fun _ _ x => x) (fun _ _ x => x)).put (n := h.length + 1) (by omega) (some (.arr 10 [[.int .i64 (rInt st').1, .int .i64 (rInt (rInt st').2).1, .int .i64 (rInt (rInt (rInt st').2).2).1, .int .i64 y1.base, .int .i64 y1.bterm, d1, d2, f2, g2, .nils]] false))
  have lG2 : (J2.set (h.length + 1) (some (.arr 10 [[.int .i64 (rInt st').1, .int .i64 (rInt (rInt st').2).1, .int .i64 (rInt (rInt (rInt st').2).2).1, .int .i64 y1.base, .int .i64 y1.bterm, d1, d2, f2, g2, .nils]] false))).length = J2.length := List.length_set
  generalize J2.set (h.length + 1) (some (ABlk.arr 10 [[.int .i64 (rInt st').1, .int .i64 (rInt (rInt st').2).1, .int .i64 (rInt (rInt (rInt st').2).2).1, .int .i64 y1.base, .int .i64 y1.bterm, d1, d2, f2, g2, .nils]] false)) = G2 at *
  refine wCall_use ⟨hk.1, hk.2 F _ q _ Sb.2.1 hs.nq⟩ ?_
  rintro d3 J3 ⟨w3, rb, zb⟩
  have z3 : Ext (two s q) G2 J3 := zb.weak (fun _ _ x => .inr x)
  have w3 := Own.mono (F' := fun m => F m ∨ G2.length ≤ m) _ (fun _ x => .inl x) (fun _ _ _ x => x) _ w3
  have U3 : SrcS F J3 s q (rBlob (confC.dec (logC.dec σ0).2).2).2 := by
    refine ⟨bb, _, Sb.next zb rb, ?_⟩
    rw [eb]; cases bb <;> rfl
  have hy3 : (rBlob (confC.dec (logC.dec σ0).2).2).2 ≠ none → (rBlob sb).1 = (rBlob (confC.dec (logC.dec σ0).2).2).1 := by
    rw [eb]; cases bb
    · exact fun _ => rfl
    · exact fun hh => absurd rfl hh
  generalize (rBlob sb).1 = y3 at *
  have lJ3 := z3.1
  have CJ3 : J3[h.length]? = _ := (z3.2 _ (by omega) (by simp only [two]; omega)).trans CC
  have DJ3 : J3[h.length + 1]? = _ := (z3.2 _ (by omega) (by simp only [two]; omega)).trans DD
  have mJ3 : h.length + 1 < J3.length := by omega
  have nJ3 : h.length < J3.length := by omega
  simp only [go_sem, reduceIte, Nat.reduceEqDiff, Nat.reduceAdd, Nat.reduceLeDiff, Nat.reducePow, Nat.reduceDiv, Nat.reduceMod, decide_true, DJ3, CJ3, mJ3, nJ3, List.length_set, wl1.scalar, cells_of wl1.scalar, wl2.scalar, cells_of wl2.scalar, vl2.scalar, cells_of vl2.scalar, ul2.scalar, cells_of ul2.scalar, w3.scalar, cells_of w3.scalar]
  have K3 : Ext (four s q h.length) G2 (J3.set (h.length + 1) (some (.arr 10 [[.int .i64 (rInt st').1, .int .i64 (rInt (rInt st').2).1, .int .i64 (rInt (rInt (rInt st').2).2).1, .int .i64 y1.base, .int .i64 y1.bterm, d1, d2, f2, g2, d3]] false))) := z3.trans (Ext.set (F := four s q h.length) _ (fun _ => .inr (.inr (.inr rfl)))) (fun _ _ x => x.elim .inl (fun y => .inr (.inl y))) (fun _ _ x => x)
  have M3 : Ext (four s q h.length) J3 (J3.set (h.length + 1) (some (.arr 10 [[.int .i64 (rInt st').1, .int .i64 (rInt (rInt st').2).1, .int .i64 (rInt (rInt (rInt st').2).2).1, .int .i64 y1.base, .int .i64 y1.bterm, d1, d2, f2, g2, d3]] false))) := Ext.set _ (fun _ => .inr (.inr (.inr rfl)))
  have T3 : SrcS F (J3.set (h.length + 1) (some (.arr 10 [[.int .i64 (rInt st').1, .int .i64 (rInt (rInt st').2).1, .int .i64 (rInt (rInt (rInt st').2).2).1, .int .i64 y1.base, .int .i64 y1.bterm, d1, d2, f2, g2, d3]] false))) s q (rBlob (confC.dec (logC.dec σ0).2).2).2 := by obtain ⟨b', s', S', e'⟩ := U3; exact ⟨b', s', S'.set (by omega) _, e'⟩
  skip
  have CC := (List.getElem?_set_ne (a := some (ABlk.arr 10 [[.int .i64 (rInt st').1, .int .i64 (rInt (rInt st').2).1, .int .i64 (rInt (rInt (rInt st').2).2).1, .int .i64 y1.base, .int .i64 y1.bterm, d1, d2, f2, g2, d3]] false)) (show h.length + 1 ≠ h.length by omega)).trans CJ3
  have DD := List.getElem?_set_self (a := some (ABlk.arr 10 [[.int .i64 (rInt st').1, .int .i64 (rInt (rInt st').2).1, .int .i64 (rInt (rInt (rInt st').2).2).1, .int .i64 y1.base, .int .i64 y1.bterm, d1, d2, f2, g2, d3]] false)) mJ3
  have EE := (EE.trans z3 (fun _ _ x => x) (fun _ _ x => x)).put (n := h.length + 1) (by omega) (some (.arr 10 [[.int .i64 (rInt st').1, .int .i64 (rInt (rInt st').2).1, .int .i64 (rInt (rInt (rInt st').2).2).1, .int .i64 y1.base, .int .i64 y1.bterm, d1, d2, f2, g2, d3]] false))
  have lG3 : (J3.set (h.length + 1) (some (.arr 10 [[.int .i64 (rInt st').1, .int .i64 (rInt (rInt st').2).1, .int .i64 (rInt (rInt (rInt st').2).2).1, .int .i64 y1.base, .int .i64 y1.bterm, d1, d2, f2, g2, d3]] false))).length = J3.length := List.length_set
  generalize J3.set (h.length + 1) (some (ABlk.arr 10 [[.int .i64 (rInt st').1, .int .i64 (rInt (rInt st').2).1, .int .i64 (rInt (rInt (rInt st').2).2).1, .int .i64 y1.base, .int .i64 y1.bterm, d1, d2, f2, g2, d3]] false)) = G3 at *
  subst e
  have dl : hardC.dec (Rdr.if_ b st') = (⟨(rInt (Rdr.if_ b st')).1, (rInt (rInt (Rdr.if_ b st')).2).1, (rInt (rInt (rInt (Rdr.if_ b st')).2).2).1, (logC.dec (rInt (rInt (rInt (Rdr.if_ b st')).2).2).2).1, (confC.dec (logC.dec (rInt (rInt (rInt (Rdr.if_ b st')).2).2).2).2).1, (rBlob (confC.dec (logC.dec (rInt (rInt (rInt (Rdr.if_ b st')).2).2).2).2).2).1⟩, (rBlob (confC.dec (logC.dec (rInt (rInt (rInt (Rdr.if_ b st')).2).2).2).2).2).2) := rfl
  rw [dl, rInt_if, rInt_if, rInt_if, hσ]
  have fin : ∀ (H : AHeap) (y : Option ABlk), Ext (four s q h.length) H (H.set h.length y) := fun H y => Ext.set _ (fun _ => .inr (.inr (.inl rfl)))
  have hF : ∀ m, F m → m < q := hs.2.2.1
  refine ⟨⟨(rInt st').1, (rInt (rInt st').2).1, (rInt (rInt (rInt st').2).2).1, y1, y2, y3⟩, _, rfl, ?_, by obtain ⟨b', s', S', e'⟩ := T3; exact ⟨b', s', S'.set (by omega) _, e'⟩, EE.put (by omega) _, fun hh => ?_⟩
  · exact ⟨_, _, rfl, own_i64 _ _ _, ⟨_, _, rfl, own_i64 _ _ _, ⟨_, _, rfl, own_i64 _ _ _, ⟨_, _, rfl, own_i64 _ _ _, ⟨_, _, rfl, own_i64 _ _ _, ⟨_, _, rfl, own_four wl1 (((M1.trans K2 (fun _ _ x => x) (fun _ _ x => x)).trans K3 (fun _ _ x => x) (fun _ _ x => x)).trans (fin _ _) (fun _ _ x => x) (fun _ _ x => x)) hF hq hlt (by omega), ⟨_, _, rfl, own_four wl2 ((M2.trans K3 (fun _ _ x => x) (fun _ _ x => x)).trans (fin _ _) (fun _ _ x => x) (fun _ _ x => x)) hF hq hlt (by omega), ⟨_, _, rfl, own_four vl2 ((M2.trans K3 (fun _ _ x => x) (fun _ _ x => x)).trans (fin _ _) (fun _ _ x => x) (fun _ _ x => x)) hF hq hlt (by omega), ⟨_, _, rfl, own_four ul2 ((M2.trans K3 (fun _ _ x => x) (fun _ _ x => x)).trans (fin _ _) (fun _ _ x => x) (fun _ _ x => x)) hF hq hlt (by omega), ⟨_, _, rfl, own_four w3 (M3.trans (fin _ _) (fun _ _ x => x) (fun _ _ x => x)) hF hq hlt (by omega), rfl⟩⟩⟩⟩⟩⟩⟩⟩⟩⟩
  · have n3 : (rBlob (confC.dec (logC.dec σ0).2).2).2 ≠ none := hh
    have n2 : (confC.dec (logC.dec σ0).2).2 ≠ none := fun hz => n3 (by rw [hz]; exact rfl)
    have n1 : (logC.dec σ0).2 ≠ none := fun hz => n2 (by rw [hz]; exact confC.bad)
    have n0 : σ0 ≠ none := fun hz => n1 (by rw [hz]; exact logC.bad)
    rw [hy1 n1, hy2 n2, hy3 n3]
    cases b with
    | true => exact absurd hσ.symm n0
    | false => rfl

theorem change_ok {P : Program} {f g lo co k vo : FuncId} (hf : Is P f (c_image_source_change g lo co k vo)) (hg : IntR P g) (hlo : GetT P lo Log.c logC.dec) (hco : GetT P co Conf.c confC.dec) (hk : BlobR P k) (hv : GetT P vo Vote.c voteC.dec) : GetT P f Change.c changeC.dec := by
  refine ⟨hf.2, fun F h s q st ⟨b, st', hs, e⟩ => fun_sound hf.1 (Nat.le_of_ble_eq_true rfl) ?_⟩
  show vc P (c_image_source_change g lo co k vo).code ⟨[(0, .ptr s 2 0 0)], [], h⟩ (atEnd (c_image_source_change g lo co k vo).res _)
  have hlt := hs.lt
  have hq := hs.2.2.2
  have B2 : ∀ x y : Option ABlk, (h ++ [x] ++ [y])[s]? = some (some (.arr 2 [[.ptr q 2 0 0, .bool b]] false)) := fun x y => (old2 hlt x y).trans hs.1
  have NR : ∀ k, notRes (h.length + 1) k (.ptr s 2 0 0) = true := fun k => notRes_lt (by omega)
  have ne1 : (h.length + 1 = s) = False := eq_false (by omega)
  simp only [c_image_source_change, go_sem, reduceIte, Nat.reduceEqDiff, Nat.reduceAdd, Nat.reduceLeDiff, Nat.reducePow, Nat.reduceDiv, Nat.reduceMod, decide_true, B2, NR]
  have S0 := hs.up (Ext.b2 (some (.arr 17 [[.int .i64 0, .int .i64 0, .int .i64 0, .int .i64 0, .int .i64 0, .int .i64 0, .int .i64 0, .nils, .nils, .nils, .nils, .nils, .int .i64 0, .int .i64 0, .int .i64 0, .int .i64 0, .int .i64 0]] false)) none)
  have C0 := bx20 h (some (.arr 17 [[.int .i64 0, .int .i64 0, .int .i64 0, .int .i64 0, .int .i64 0, .int .i64 0, .int .i64 0, .nils, .nils, .nils, .nils, .nils, .int .i64 0, .int .i64 0, .int .i64 0, .int .i64 0, .int .i64 0]] false)) none
  have D0 := bx21 h (some (.arr 17 [[.int .i64 0, .int .i64 0, .int .i64 0, .int .i64 0, .int .i64 0, .int .i64 0, .int .i64 0, .nils, .nils, .nils, .nils, .nils, .int .i64 0, .int .i64 0, .int .i64 0, .int .i64 0, .int .i64 0]] false)) none
  have E0 : Ext (two s q) h (h ++ [some (.arr 17 [[.int .i64 0, .int .i64 0, .int .i64 0, .int .i64 0, .int .i64 0, .int .i64 0, .int .i64 0, .nils, .nils, .nils, .nils, .nils, .int .i64 0, .int .i64 0, .int .i64 0, .int .i64 0, .int .i64 0]] false)] ++ [none]) := (Ext.b2 _ _).weak (fun _ _ x => x.elim)
  have lH0 : h.length + 2 = (h ++ [some (ABlk.arr 17 [[.int .i64 0, .int .i64 0, .int .i64 0, .int .i64 0, .int .i64 0, .int .i64 0, .int .i64 0, .nils, .nils, .nils, .nils, .nils, .int .i64 0, .int .i64 0, .int .i64 0, .int .i64 0, .int .i64 0]] false)] ++ [none]).length := by simp
  generalize h ++ [some (ABlk.arr 17 [[.int .i64 0, .int .i64 0, .int .i64 0, .int .i64 0, .int .i64 0, .int .i64 0, .int .i64 0, .nils, .nils, .nils, .nils, .nils, .int .i64 0, .int .i64 0, .int .i64 0, .int .i64 0, .int .i64 0]] false)] ++ [none] = H0 at *
  clear B2
  refine wCall_use ⟨hg.1, hg.2 F _ q _ S0.2.1 hs.nq⟩ ?_
  rintro _ H1 ⟨rfl, r1, x1⟩
  have S1 := S0.next x1 r1
  have lH1 := x1.1
  have C1 : H1[h.length]? = _ := (x1.2 _ (by omega) (by simp only [only]; omega)).trans C0
  have D1 : H1[h.length + 1]? = some none := (x1.2 _ (by omega) (by simp only [only]; omega)).trans D0
  have B1 := S1.1
  have E1 := E0.trans x1 (fun _ _ x => x) (fun _ _ x => .inr x)
  simp only [go_sem, reduceIte, Nat.reduceEqDiff, Nat.reduceAdd, Nat.reduceLeDiff, Nat.reducePow, Nat.reduceDiv, Nat.reduceMod, decide_true, hideL_cons, showL_cons, B1, D1, ne1, set_back D1]
  refine wCall_use ⟨hg.1, hg.2 F _ q _ S1.2.1 hs.nq⟩ ?_
  rintro _ H2 ⟨rfl, r2, x2⟩
  have S2 := S1.next x2 r2
  have lH2 := x2.1
  have C2 : H2[h.length]? = _ := (x2.2 _ (by omega) (by simp only [only]; omega)).trans C1
  have D2 : H2[h.length + 1]? = some none := (x2.2 _ (by omega) (by simp only [only]; omega)).trans D1
  have B2 := S2.1
  have E2 := E1.trans x2 (fun _ _ x => x) (fun _ _ x => .inr x)
  simp only [go_sem, reduceIte, Nat.reduceEqDiff, Nat.reduceAdd, Nat.reduceLeDiff, Nat.reducePow, Nat.reduceDiv, Nat.reduceMod, decide_true, hideL_cons, showL_cons, B2, D2, ne1, set_back D2]
  refine wCall_use ⟨hg.1, hg.2 F _ q _ S2.2.1 hs.nq⟩ ?_
  rintro _ H3 ⟨rfl, r3, x3⟩
  have S3 := S2.next x3 r3
  have lH3 := x3.1
  have C3 : H3[h.length]? = _ := (x3.2 _ (by omega) (by simp only [only]; omega)).trans C2
  have D3 : H3[h.length + 1]? = some none := (x3.2 _ (by omega) (by simp only [only]; omega)).trans D2
  have B3 := S3.1
  have E3 := E2.trans x3 (fun _ _ x => x) (fun _ _ x => .inr x)
  simp only [go_sem, reduceIte, Nat.reduceEqDiff, Nat.reduceAdd, Nat.reduceLeDiff, Nat.reducePow, Nat.reduceDiv, Nat.reduceMod, decide_true, hideL_cons, showL_cons, B3, D3, ne1, set_back D3]
  refine wCall_use ⟨hg.1, hg.2 F _ q _ S3.2.1 hs.nq⟩ ?_
  rintro _ H4 ⟨rfl, r4, x4⟩
  have S4 := S3.next x4 r4
  have lH4 := x4.1
  have C4 : H4[h.length]? = _ := (x4.2 _ (by omega) (by simp only [only]; omega)).trans C3
  have D4 : H4[h.length + 1]? = some none := (x4.2 _ (by omega) (by simp only [only]; omega)).trans D3
  have B4 := S4.1
  have E4 := E3.trans x4 (fun _ _ x => x) (fun _ _ x => .inr x)
  simp only [go_sem, reduceIte, Nat.reduceEqDiff, Nat.reduceAdd, Nat.reduceLeDiff, Nat.reducePow, Nat.reduceDiv, Nat.reduceMod, decide_true, hideL_cons, showL_cons, B4, D4, ne1, set_back D4]
  refine wCall_use ⟨hg.1, hg.2 F _ q _ S4.2.1 hs.nq⟩ ?_
  rintro _ H5 ⟨rfl, r5, x5⟩
  have S5 := S4.next x5 r5
  have lH5 := x5.1
  have C5 : H5[h.length]? = _ := (x5.2 _ (by omega) (by simp only [only]; omega)).trans C4
  have D5 : H5[h.length + 1]? = some none := (x5.2 _ (by omega) (by simp only [only]; omega)).trans D4
  have B5 := S5.1
  have E5 := E4.trans x5 (fun _ _ x => x) (fun _ _ x => .inr x)
  have l5 : h.length + 1 < H5.length := by omega
  simp only [go_sem, reduceIte, Nat.reduceEqDiff, Nat.reduceAdd, Nat.reduceLeDiff, Nat.reducePow, Nat.reduceDiv, Nat.reduceMod, decide_true, hideL_cons, showL_cons, B5, D5, ne1, set_back D5, l5]
  rw [List.set_set]
  have K0 : Ext (four s q h.length) H5 (H5.set (h.length + 1) (some (.arr 17 [[.int .i64 (rInt st').1, .int .i64 (rInt (rInt st').2).1, .int .i64 (rInt (rInt (rInt st').2).2).1, .int .i64 (rInt (rInt (rInt (rInt st').2).2).2).1, .int .i64 (rInt (rInt (rInt (rInt (rInt st').2).2).2).2).1, .int .i64 0, .int .i64 0, .nils, .nils, .nils, .nils, .nils, .int .i64 0, .int .i64 0, .int .i64 0, .int .i64 0, .int .i64 0]] false))) := Ext.set _ (fun _ => .inr (.inr (.inr rfl)))
  have SS := S5.set (n := h.length + 1) (by omega) (some (.arr 17 [[.int .i64 (rInt st').1, .int .i64 (rInt (rInt st').2).1, .int .i64 (rInt (rInt (rInt st').2).2).1, .int .i64 (rInt (rInt (rInt (rInt st').2).2).2).1, .int .i64 (rInt (rInt (rInt (rInt (rInt st').2).2).2).2).1, .int .i64 0, .int .i64 0, .nils, .nils, .nils, .nils, .nils, .int .i64 0, .int .i64 0, .int .i64 0, .int .i64 0, .int .i64 0]] false))
  have CC : (H5.set (h.length + 1) (some (.arr 17 [[.int .i64 (rInt st').1, .int .i64 (rInt (rInt st').2).1, .int .i64 (rInt (rInt (rInt st').2).2).1, .int .i64 (rInt (rInt (rInt (rInt st').2).2).2).1, .int .i64 (rInt (rInt (rInt (rInt (rInt st').2).2).2).2).1, .int .i64 0, .int .i64 0, .nils, .nils, .nils, .nils, .nils, .int .i64 0, .int .i64 0, .int .i64 0, .int .i64 0, .int .i64 0]] false)))[h.length]? = _ := (List.getElem?_set_ne (by omega)).trans C5
  have DD := List.getElem?_set_self (a := some (ABlk.arr 17 [[.int .i64 (rInt st').1, .int .i64 (rInt (rInt st').2).1, .int .i64 (rInt (rInt (rInt st').2).2).1, .int .i64 (rInt (rInt (rInt (rInt st').2).2).2).1, .int .i64 (rInt (rInt (rInt (rInt (rInt st').2).2).2).2).1, .int .i64 0, .int .i64 0, .nils, .nils, .nils, .nils, .nils, .int .i64 0, .int .i64 0, .int .i64 0, .int .i64 0, .int .i64 0]] false)) l5
  have EE := E5.put (n := h.length + 1) (by omega) (some (.arr 17 [[.int .i64 (rInt st').1, .int .i64 (rInt (rInt st').2).1, .int .i64 (rInt (rInt (rInt st').2).2).1, .int .i64 (rInt (rInt (rInt (rInt st').2).2).2).1, .int .i64 (rInt (rInt (rInt (rInt (rInt st').2).2).2).2).1, .int .i64 0, .int .i64 0, .nils, .nils, .nils, .nils, .nils, .int .i64 0, .int .i64 0, .int .i64 0, .int .i64 0, .int .i64 0]] false))
  have lHH : (H5.set (h.length + 1) (some (.arr 17 [[.int .i64 (rInt st').1, .int .i64 (rInt (rInt st').2).1, .int .i64 (rInt (rInt (rInt st').2).2).1, .int .i64 (rInt (rInt (rInt (rInt st').2).2).2).1, .int .i64 (rInt (rInt (rInt (rInt (rInt st').2).2).2).2).1, .int .i64 0, .int .i64 0, .nils, .nils, .nils, .nils, .nils, .int .i64 0, .int .i64 0, .int .i64 0, .int .i64 0, .int .i64 0]] false))).length = H5.length := List.length_set
  generalize hgen : H5.set (h.length + 1) (some (ABlk.arr 17 [[.int .i64 (rInt st').1, .int .i64 (rInt (rInt st').2).1, .int .i64 (rInt (rInt (rInt st').2).2).1, .int .i64 (rInt (rInt (rInt (rInt st').2).2).2).1, .int .i64 (rInt (rInt (rInt (rInt (rInt st').2).2).2).2).1, .int .i64 0, .int .i64 0, .nils, .nils, .nils, .nils, .nils, .int .i64 0, .int .i64 0, .int .i64 0, .int .i64 0, .int .i64 0]] false)) = G0 at *
  have T0 : SrcS F G0 s q (Rdr.if_ b (rInt (rInt (rInt (rInt (rInt st').2).2).2).2).2) := ⟨b, _, SS, rfl⟩
  generalize hσ : Rdr.if_ b (rInt (rInt (rInt (rInt (rInt st').2).2).2).2).2 = σ0 at *
  refine wCall_use ⟨hlo.1, hlo.2 F _ s q _ T0⟩ ?_
  rintro _ J1 ⟨y1, as1, rfl, w1, U1, z1, hy1⟩
  obtain ⟨d1, rfl, wl1⟩ := own_logL w1
  have z1 := z1
  have lJ1 := z1.1
  have CJ1 : J1[h.length]? = _ := (z1.2 _ (by omega) (by simp only [two]; omega)).trans CC
  have DJ1 : J1[h.length + 1]? = _ := (z1.2 _ (by omega) (by simp only [two]; omega)).trans DD
  have mJ1 : h.length + 1 < J1.length := by omega
  have nJ1 : h.length < J1.length := by omega
  simp only [go_sem, reduceIte, Nat.reduceEqDiff, Nat.reduceAdd, Nat.reduceLeDiff, Nat.reducePow, Nat.reduceDiv, Nat.reduceMod, decide_true, DJ1, CJ1, mJ1, nJ1, List.length_set, wl1.scalar, cells_of wl1.scalar]
  have K1 : Ext (four s q h.length) G0 (J1.set (h.length + 1) (some (.arr 17 [[.int .i64 (rInt st').1, .int .i64 (rInt (rInt st').2).1, .int .i64 (rInt (rInt (rInt st').2).2).1, .int .i64 (rInt (rInt (rInt (rInt st').2).2).2).1, .int .i64 (rInt (rInt (rInt (rInt (rInt st').2).2).2).2).1, .int .i64 y1.base, .int .i64 y1.bterm, d1, .nils, .nils, .nils, .nils, .int .i64 0, .int .i64 0, .int .i64 0, .int .i64 0, .int .i64 0]] false))) := z1.trans (Ext.set (F := four s q h.length) _ (fun _ => .inr (.inr (.inr rfl)))) (fun _ _ x => x.elim .inl (fun y => .inr (.inl y))) (fun _ _ x => x)
  have M1 : Ext (four s q h.length) J1 (J1.set (h.length + 1) (some (.arr 17 [[.int .i64 (rInt st').1, .int .i64 (rInt (rInt st').2).1, .int .i64 (rInt (rInt (rInt st').2).2).1, .int .i64 (rInt (rInt (rInt (rInt st').2).2).2).1, .int .i64 (rInt (rInt (rInt (rInt (rInt st').2).2).2).2).1, .int .i64 y1.base, .int .i64 y1.bterm, d1, .nils, .nils, .nils, .nils, .int .i64 0, .int .i64 0, .int .i64 0, .int .i64 0, .int .i64 0]] false))) := Ext.set _ (fun _ => .inr (.inr (.inr rfl)))
  have T1 : SrcS F (J1.set (h.length + 1) (some (.arr 17 [[.int .i64 (rInt st').1, .int .i64 (rInt (rInt st').2).1, .int .i64 (rInt (rInt (rInt st').2).2).1, .int .i64 (rInt (rInt (rInt (rInt st').2).2).2).1, .int .i64 (rInt (rInt (rInt (rInt (rInt st').2).2).2).2).1, .int .i64 y1.base, .int .i64 y1.bterm, d1, .nils, .nils, .nils, .nils, .int .i64 0, .int .i64 0, .int .i64 0, .int .i64 0, .int .i64 0]] false))) s q (logC.dec σ0).2 := by obtain ⟨b', s', S', e'⟩ := U1; exact ⟨b', s', S'.set (by omega) _, e'⟩
  skip
  have CC := (List.getElem?_set_ne (a := some (ABlk.arr 17 [[.int .i64 (rInt st').1, .int .i64 (rInt (rInt st').2).1, .int .i64 (rInt (rInt (rInt st').2).2).1, .int .i64 (rInt (rInt (rInt (rInt st').2).2).2).1, .int .i64 (rInt (rInt (rInt (rInt (rInt st').2).2).2).2).1, .int .i64 y1.base, .int .i64 y1.bterm, d1, .nils, .nils, .nils, .nils, .int .i64 0, .int .i64 0, .int .i64 0, .int .i64 0, .int .i64 0]] false)) (show h.length + 1 ≠ h.length by omega)).trans CJ1
  have DD := List.getElem?_set_self (a := some (ABlk.arr 17 [[.int .i64 (rInt st').1, .int .i64 (rInt (rInt st').2).1, .int .i64 (rInt (rInt (rInt st').2).2).1, .int .i64 (rInt (rInt (rInt (rInt st').2).2).2).1, .int .i64 (rInt (rInt (rInt (rInt (rInt st').2).2).2).2).1, .int .i64 y1.base, .int .i64 y1.bterm, d1, .nils, .nils, .nils, .nils, .int .i64 0, .int .i64 0, .int .i64 0, .int .i64 0, .int .i64 0]] false)) mJ1
  have EE := (EE.trans z1 (fun _ _ x => x) (fun _ _ x => x)).put (n := h.length + 1) (by omega) (some (.arr 17 [[.int .i64 (rInt st').1, .int .i64 (rInt (rInt st').2).1, .int .i64 (rInt (rInt (rInt st').2).2).1, .int .i64 (rInt (rInt (rInt (rInt st').2).2).2).1, .int .i64 (rInt (rInt (rInt (rInt (rInt st').2).2).2).2).1, .int .i64 y1.base, .int .i64 y1.bterm, d1, .nils, .nils, .nils, .nils, .int .i64 0, .int .i64 0, .int .i64 0, .int .i64 0, .int .i64 0]] false))
  have lG1 : (J1.set (h.length + 1) (some (.arr 17 [[.int .i64 (rInt st').1, .int .i64 (rInt (rInt st').2).1, .int .i64 (rInt (rInt (rInt st').2).2).1, .int .i64 (rInt (rInt (rInt (rInt st').2).2).2).1, .int .i64 (rInt (rInt (rInt (rInt (rInt st').2).2).2).2).1, .int .i64 y1.base, .int .i64 y1.bterm, d1, .nils, .nils, .nils, .nils, .int .i64 0, .int .i64 0, .int .i64 0, .int .i64 0, .int .i64 0]] false))).length = J1.length := List.length_set
  generalize J1.set (h.length + 1) (some (ABlk.arr 17 [[.int .i64 (rInt st').1, .int .i64 (rInt (rInt st').2).1, .int .i64 (rInt (rInt (rInt st').2).2).1, .int .i64 (rInt (rInt (rInt (rInt st').2).2).2).1, .int .i64 (rInt (rInt (rInt (rInt (rInt st').2).2).2).2).1, .int .i64 y1.base, .int .i64 y1.bterm, d1, .nils, .nils, .nils, .nils, .int .i64 0, .int .i64 0, .int .i64 0, .int .i64 0, .int .i64 0]] false)) = G1 at *
  refine wCall_use ⟨hco.1, hco.2 F _ s q _ T1⟩ ?_
  rintro _ J2 ⟨y2, as2, rfl, w2, U2, z2, hy2⟩
  obtain ⟨d2, f2, g2, rfl, wl2, vl2, ul2⟩ := own_confL w2
  have z2 := z2
  have lJ2 := z2.1
  have CJ2 : J2[h.length]? = _ := (z2.2 _ (by omega) (by simp only [two]; omega)).trans CC
  have DJ2 : J2[h.length + 1]? = _ := (z2.2 _ (by omega) (by simp only [two]; omega)).trans DD
  have mJ2 : h.length + 1 < J2.length := by omega
  have nJ2 : h.length < J2.length := by omega
  obtain ⟨bb, sb, Ub, eb⟩ := U2
  have Bb := Ub.1
  simp only [go_sem, reduceIte, Nat.reduceEqDiff, Nat.reduceAdd, Nat.reduceLeDiff, Nat.reducePow, Nat.reduceDiv, Nat.reduceMod, decide_true, DJ2, CJ2, mJ2, nJ2, List.length_set, wl2.scalar, cells_of wl2.scalar, vl2.scalar, cells_of vl2.scalar, ul2.scalar, cells_of ul2.scalar, Bb, ne1]
  have K2 : Ext (four s q h.length) G1 (J2.set (h.length + 1) (some (.arr 17 [[.int .i64 (rInt st').1, .int .i64 (rInt (rInt st').2).1, .int .i64 (rInt (rInt (rInt st').2).2).1, .int .i64 (rInt (rInt (rInt (rInt st').2).2).2).1, .int .i64 (rInt (rInt (rInt (rInt (rInt st').2).2).2).2).1, .int .i64 y1.base, .int .i64 y1.bterm, d1, d2, f2, g2, .nils, .int .i64 0, .int .i64 0, .int .i64 0, .int .i64 0, .int .i64 0]] false))) := z2.trans (Ext.set (F := four s q h.length) _ (fun _ => .inr (.inr (.inr rfl)))) (fun _ _ x => x.elim .inl (fun y => .inr (.inl y))) (fun _ _ x => x)
  have M2 : Ext (four s q h.length) J2 (J2.set (h.length + 1) (some (.arr 17 [[.int .i64 (rInt st').1, .int .i64 (rInt (rInt st').2).1, .int .i64 (rInt (rInt (rInt st').2).2).1, .int .i64 (rInt (rInt (rInt (rInt st').2).2).2).1, .int .i64 (rInt (rInt (rInt (rInt (rInt st').2).2).2).2).1, .int .i64 y1.base, .int .i64 y1.bterm, d1, d2, f2, g2, .nils, .int .i64 0, .int .i64 0, .int .i64 0, .int .i64 0, .int .i64 0]] false))) := Ext.set _ (fun _ => .inr (.inr (.inr rfl)))
  have T2 : SrcS F (J2.set (h.length + 1) (some (.arr 17 [[.int .i64 (rInt st').1, .int .i64 (rInt (rInt st').2).1, .int .i64 (rInt (rInt (rInt st').2).2).1, .int .i64 (rInt (rInt (rInt (rInt st').2).2).2).1, .int .i64 (rInt (rInt (rInt (rInt (rInt st').2).2).2).2).1, .int .i64 y1.base, .int .i64 y1.bterm, d1, d2, f2, g2, .nils, .int .i64 0, .int .i64 0, .int .i64 0, .int .i64 0, .int .i64 0]] false))) s q (confC.dec (logC.dec σ0).2).2 := ⟨bb, sb, Ub.set (by omega) _, eb⟩
  have Sb : SrcB F (J2.set (h.length + 1) (some (.arr 17 [[.int .i64 (rInt st').1, .int .i64 (rInt (rInt st').2).1, .int .i64 (rInt (rInt (rInt st').2).2).1, .int .i64 (rInt (rInt (rInt (rInt st').2).2).2).1, .int .i64 (rInt (rInt (rInt (rInt (rInt st').2).2).2).2).1, .int .i64 y1.base, .int .i64 y1.bterm, d1, d2, f2, g2, .nils, .int .i64 0, .int .i64 0, .int .i64 0, .int .i64 0, .int .i64 0]] false))) s q bb sb := Ub.set (by omega) _
  have CC := (List.getElem?_set_ne (a := some (ABlk.arr 17 [[.int .i64 (rInt st').1, .int .i64 (rInt (rInt st').2).1, .int .i64 (rInt (rInt (rInt st').2).2).1, .int .i64 (rInt (rInt (rInt (rInt st').2).2).2).1, .int .i64 (rInt (rInt (rInt (rInt (rInt st').2).2).2).2).1, .int .i64 y1.base, .int .i64 y1.bterm, d1, d2, f2, g2, .nils, .int .i64 0, .int .i64 0, .int .i64 0, .int .i64 0, .int .i64 0]] false)) (show h.length + 1 ≠ h.length by omega)).trans CJ2
  have DD := List.getElem?_set_self (a := some (ABlk.arr 17 [[.int .i64 (rInt st').1, .int .i64 (rInt (rInt st').2).1, .int .i64 (rInt (rInt (rInt st').2).2).1, .int .i64 (rInt (rInt (rInt (rInt st').2).2).2).1, .int .i64 (rInt (rInt (rInt (rInt (rInt st').2).2).2).2).1, .int .i64 y1.base, .int .i64 y1.bterm, d1, d2, f2, g2, .nils, .int .i64 0, .int .i64 0, .int .i64 0, .int .i64 0, .int .i64 0]] false)) mJ2
  have EE := (EE.trans z2 (fun _ _ x => x) (fun _ _ x => x)).put (n := h.length + 1) (by omega) (some (.arr 17 [[.int .i64 (rInt st').1, .int .i64 (rInt (rInt st').2).1, .int .i64 (rInt (rInt (rInt st').2).2).1, .int .i64 (rInt (rInt (rInt (rInt st').2).2).2).1, .int .i64 (rInt (rInt (rInt (rInt (rInt st').2).2).2).2).1, .int .i64 y1.base, .int .i64 y1.bterm, d1, d2, f2, g2, .nils, .int .i64 0, .int .i64 0, .int .i64 0, .int .i64 0, .int .i64 0]] false))
  have lG2 : (J2.set (h.length + 1) (some (.arr 17 [[.int .i64 (rInt st').1, .int .i64 (rInt (rInt st').2).1, .int .i64 (rInt (rInt (rInt st').2).2).1, .int .i64 (rInt (rInt (rInt (rInt st').2).2).2).1, .int .i64 (rInt (rInt (rInt (rInt (rInt st').2).2).2).2).1, .int .i64 y1.base, .int .i64 y1.bterm, d1, d2, f2, g2, .nils, .int .i64 0, .int .i64 0, .int .i64 0, .int .i64 0, .int .i64 0]] false))).length = J2.length := List.length_set
  generalize J2.set (h.length + 1) (some (ABlk.arr 17 [[.int .i64 (rInt st').1, .int .i64 (rInt (rInt st').2).1, .int .i64 (rInt (rInt (rInt st').2).2).1, .int .i64 (rInt (rInt (rInt (rInt st').2).2).2).1, .int .i64 (rInt (rInt (rInt (rInt (rInt st').2).2).2).2).1, .int .i64 y1.base, .int .i64 y1.bterm, d1, d2, f2, g2, .nils, .int .i64 0, .int .i64 0, .int .i64 0, .int .i64 0, .int .i64 0]] false)) = G2 at *
  refine wCall_use ⟨hk.1, hk.2 F _ q _ Sb.2.1 hs.nq⟩ ?_
  rintro d3 J3 ⟨w3, rb, zb⟩
  have z3 : Ext (two s q) G2 J3 := zb.weak (fun _ _ x => .inr x)
  have w3 := Own.mono (F' := fun m => F m ∨ G2.length ≤ m) _ (fun _ x => .inl x) (fun _ _ _ x => x) _ w3
  have U3 : SrcS F J3 s q (rBlob (confC.dec (logC.dec σ0).2).2).2 := by
    refine ⟨bb, _, Sb.next zb rb, ?_⟩
    rw [eb]; cases bb <;> rfl
  have hy3 : (rBlob (confC.dec (logC.dec σ0).2).2).2 ≠ none → (rBlob sb).1 = (rBlob (confC.dec (logC.dec σ0).2).2).1 := by
    rw [eb]; cases bb
    · exact fun _ => rfl
    · exact fun hh => absurd rfl hh
  generalize (rBlob sb).1 = y3 at *
  have lJ3 := z3.1
  have CJ3 : J3[h.length]? = _ := (z3.2 _ (by omega) (by simp only [two]; omega)).trans CC
  have DJ3 : J3[h.length + 1]? = _ := (z3.2 _ (by omega) (by simp only [two]; omega)).trans DD
  have mJ3 : h.length + 1 < J3.length := by omega
  have nJ3 : h.length < J3.length := by omega
  simp only [go_sem, reduceIte, Nat.reduceEqDiff, Nat.reduceAdd, Nat.reduceLeDiff, Nat.reducePow, Nat.reduceDiv, Nat.reduceMod, decide_true, DJ3, CJ3, mJ3, nJ3, List.length_set, w3.scalar, cells_of w3.scalar]
  have K3 : Ext (four s q h.length) G2 (J3.set (h.length + 1) (some (.arr 17 [[.int .i64 (rInt st').1, .int .i64 (rInt (rInt st').2).1, .int .i64 (rInt (rInt (rInt st').2).2).1, .int .i64 (rInt (rInt (rInt (rInt st').2).2).2).1, .int .i64 (rInt (rInt (rInt (rInt (rInt st').2).2).2).2).1, .int .i64 y1.base, .int .i64 y1.bterm, d1, d2, f2, g2, d3, .int .i64 0, .int .i64 0, .int .i64 0, .int .i64 0, .int .i64 0]] false))) := z3.trans (Ext.set (F := four s q h.length) _ (fun _ => .inr (.inr (.inr rfl)))) (fun _ _ x => x.elim .inl (fun y => .inr (.inl y))) (fun _ _ x => x)
  have M3 : Ext (four s q h.length) J3 (J3.set (h.length + 1) (some (.arr 17 [[.int .i64 (rInt st').1, .int .i64 (rInt (rInt st').2).1, .int .i64 (rInt (rInt (rInt st').2).2).1, .int .i64 (rInt (rInt (rInt (rInt st').2).2).2).1, .int .i64 (rInt (rInt (rInt (rInt (rInt st').2).2).2).2).1, .int .i64 y1.base, .int .i64 y1.bterm, d1, d2, f2, g2, d3, .int .i64 0, .int .i64 0, .int .i64 0, .int .i64 0, .int .i64 0]] false))) := Ext.set _ (fun _ => .inr (.inr (.inr rfl)))
  have T3 : SrcS F (J3.set (h.length + 1) (some (.arr 17 [[.int .i64 (rInt st').1, .int .i64 (rInt (rInt st').2).1, .int .i64 (rInt (rInt (rInt st').2).2).1, .int .i64 (rInt (rInt (rInt (rInt st').2).2).2).1, .int .i64 (rInt (rInt (rInt (rInt (rInt st').2).2).2).2).1, .int .i64 y1.base, .int .i64 y1.bterm, d1, d2, f2, g2, d3, .int .i64 0, .int .i64 0, .int .i64 0, .int .i64 0, .int .i64 0]] false))) s q (rBlob (confC.dec (logC.dec σ0).2).2).2 := by obtain ⟨b', s', S', e'⟩ := U3; exact ⟨b', s', S'.set (by omega) _, e'⟩
  skip
  have CC := (List.getElem?_set_ne (a := some (ABlk.arr 17 [[.int .i64 (rInt st').1, .int .i64 (rInt (rInt st').2).1, .int .i64 (rInt (rInt (rInt st').2).2).1, .int .i64 (rInt (rInt (rInt (rInt st').2).2).2).1, .int .i64 (rInt (rInt (rInt (rInt (rInt st').2).2).2).2).1, .int .i64 y1.base, .int .i64 y1.bterm, d1, d2, f2, g2, d3, .int .i64 0, .int .i64 0, .int .i64 0, .int .i64 0, .int .i64 0]] false)) (show h.length + 1 ≠ h.length by omega)).trans CJ3
  have DD := List.getElem?_set_self (a := some (ABlk.arr 17 [[.int .i64 (rInt st').1, .int .i64 (rInt (rInt st').2).1, .int .i64 (rInt (rInt (rInt st').2).2).1, .int .i64 (rInt (rInt (rInt (rInt st').2).2).2).1, .int .i64 (rInt (rInt (rInt (rInt (rInt st').2).2).2).2).1, .int .i64 y1.base, .int .i64 y1.bterm, d1, d2, f2, g2, d3, .int .i64 0, .int .i64 0, .int .i64 0, .int .i64 0, .int .i64 0]] false)) mJ3
  have EE := (EE.trans z3 (fun _ _ x => x) (fun _ _ x => x)).put (n := h.length + 1) (by omega) (some (.arr 17 [[.int .i64 (rInt st').1, .int .i64 (rInt (rInt st').2).1, .int .i64 (rInt (rInt (rInt st').2).2).1, .int .i64 (rInt (rInt (rInt (rInt st').2).2).2).1, .int .i64 (rInt (rInt (rInt (rInt (rInt st').2).2).2).2).1, .int .i64 y1.base, .int .i64 y1.bterm, d1, d2, f2, g2, d3, .int .i64 0, .int .i64 0, .int .i64 0, .int .i64 0, .int .i64 0]] false))
  have lG3 : (J3.set (h.length + 1) (some (.arr 17 [[.int .i64 (rInt st').1, .int .i64 (rInt (rInt st').2).1, .int .i64 (rInt (rInt (rInt st').2).2).1, .int .i64 (rInt (rInt (rInt (rInt st').2).2).2).1, .int .i64 (rInt (rInt (rInt (rInt (rInt st').2).2).2).2).1, .int .i64 y1.base, .int .i64 y1.bterm, d1, d2, f2, g2, d3, .int .i64 0, .int .i64 0, .int .i64 0, .int .i64 0, .int .i64 0]] false))).length = J3.length := List.length_set
  generalize J3.set (h.length + 1) (some (ABlk.arr 17 [[.int .i64 (rInt st').1, .int .i64 (rInt (rInt st').2).1, .int .i64 (rInt (rInt (rInt st').2).2).1, .int .i64 (rInt (rInt (rInt (rInt st').2).2).2).1, .int .i64 (rInt (rInt (rInt (rInt (rInt st').2).2).2).2).1, .int .i64 y1.base, .int .i64 y1.bterm, d1, d2, f2, g2, d3, .int .i64 0, .int .i64 0, .int .i64 0, .int .i64 0, .int .i64 0]] false)) = G3 at *
  refine wCall_use ⟨hv.1, hv.2 F _ s q _ T3⟩ ?_
  rintro _ J4 ⟨y4, as4, rfl, w4, U4, z4, hy4⟩
  obtain rfl := own_voteL w4
  have z4 := z4
  have lJ4 := z4.1
  have CJ4 : J4[h.length]? = _ := (z4.2 _ (by omega) (by simp only [two]; omega)).trans CC
  have DJ4 : J4[h.length + 1]? = _ := (z4.2 _ (by omega) (by simp only [two]; omega)).trans DD
  have mJ4 : h.length + 1 < J4.length := by omega
  have nJ4 : h.length < J4.length := by omega
  simp only [go_sem, reduceIte, Nat.reduceEqDiff, Nat.reduceAdd, Nat.reduceLeDiff, Nat.reducePow, Nat.reduceDiv, Nat.reduceMod, decide_true, DJ4, CJ4, mJ4, nJ4, List.length_set, wl1.scalar, cells_of wl1.scalar, wl2.scalar, cells_of wl2.scalar, vl2.scalar, cells_of vl2.scalar, ul2.scalar, cells_of ul2.scalar, w3.scalar, cells_of w3.scalar]
  have K4 : Ext (four s q h.length) G3 (J4.set (h.length + 1) (some (.arr 17 [[.int .i64 (rInt st').1, .int .i64 (rInt (rInt st').2).1, .int .i64 (rInt (rInt (rInt st').2).2).1, .int .i64 (rInt (rInt (rInt (rInt st').2).2).2).1, .int .i64 (rInt (rInt (rInt (rInt (rInt st').2).2).2).2).1, .int .i64 y1.base, .int .i64 y1.bterm, d1, d2, f2, g2, d3, .int .i64 y4.txn, .int .i64 y4.part, .int .i64 y4.promised, .int .i64 y4.ballot, .int .i64 y4.value]] false))) := z4.trans (Ext.set (F := four s q h.length) _ (fun _ => .inr (.inr (.inr rfl)))) (fun _ _ x => x.elim .inl (fun y => .inr (.inl y))) (fun _ _ x => x)
  have M4 : Ext (four s q h.length) J4 (J4.set (h.length + 1) (some (.arr 17 [[.int .i64 (rInt st').1, .int .i64 (rInt (rInt st').2).1, .int .i64 (rInt (rInt (rInt st').2).2).1, .int .i64 (rInt (rInt (rInt (rInt st').2).2).2).1, .int .i64 (rInt (rInt (rInt (rInt (rInt st').2).2).2).2).1, .int .i64 y1.base, .int .i64 y1.bterm, d1, d2, f2, g2, d3, .int .i64 y4.txn, .int .i64 y4.part, .int .i64 y4.promised, .int .i64 y4.ballot, .int .i64 y4.value]] false))) := Ext.set _ (fun _ => .inr (.inr (.inr rfl)))
  have T4 : SrcS F (J4.set (h.length + 1) (some (.arr 17 [[.int .i64 (rInt st').1, .int .i64 (rInt (rInt st').2).1, .int .i64 (rInt (rInt (rInt st').2).2).1, .int .i64 (rInt (rInt (rInt (rInt st').2).2).2).1, .int .i64 (rInt (rInt (rInt (rInt (rInt st').2).2).2).2).1, .int .i64 y1.base, .int .i64 y1.bterm, d1, d2, f2, g2, d3, .int .i64 y4.txn, .int .i64 y4.part, .int .i64 y4.promised, .int .i64 y4.ballot, .int .i64 y4.value]] false))) s q (voteC.dec (rBlob (confC.dec (logC.dec σ0).2).2).2).2 := by obtain ⟨b', s', S', e'⟩ := U4; exact ⟨b', s', S'.set (by omega) _, e'⟩
  skip
  have CC := (List.getElem?_set_ne (a := some (ABlk.arr 17 [[.int .i64 (rInt st').1, .int .i64 (rInt (rInt st').2).1, .int .i64 (rInt (rInt (rInt st').2).2).1, .int .i64 (rInt (rInt (rInt (rInt st').2).2).2).1, .int .i64 (rInt (rInt (rInt (rInt (rInt st').2).2).2).2).1, .int .i64 y1.base, .int .i64 y1.bterm, d1, d2, f2, g2, d3, .int .i64 y4.txn, .int .i64 y4.part, .int .i64 y4.promised, .int .i64 y4.ballot, .int .i64 y4.value]] false)) (show h.length + 1 ≠ h.length by omega)).trans CJ4
  have DD := List.getElem?_set_self (a := some (ABlk.arr 17 [[.int .i64 (rInt st').1, .int .i64 (rInt (rInt st').2).1, .int .i64 (rInt (rInt (rInt st').2).2).1, .int .i64 (rInt (rInt (rInt (rInt st').2).2).2).1, .int .i64 (rInt (rInt (rInt (rInt (rInt st').2).2).2).2).1, .int .i64 y1.base, .int .i64 y1.bterm, d1, d2, f2, g2, d3, .int .i64 y4.txn, .int .i64 y4.part, .int .i64 y4.promised, .int .i64 y4.ballot, .int .i64 y4.value]] false)) mJ4
  have EE := (EE.trans z4 (fun _ _ x => x) (fun _ _ x => x)).put (n := h.length + 1) (by omega) (some (.arr 17 [[.int .i64 (rInt st').1, .int .i64 (rInt (rInt st').2).1, .int .i64 (rInt (rInt (rInt st').2).2).1, .int .i64 (rInt (rInt (rInt (rInt st').2).2).2).1, .int .i64 (rInt (rInt (rInt (rInt (rInt st').2).2).2).2).1, .int .i64 y1.base, .int .i64 y1.bterm, d1, d2, f2, g2, d3, .int .i64 y4.txn, .int .i64 y4.part, .int .i64 y4.promised, .int .i64 y4.ballot, .int .i64 y4.value]] false))
  have lG4 : (J4.set (h.length + 1) (some (.arr 17 [[.int .i64 (rInt st').1, .int .i64 (rInt (rInt st').2).1, .int .i64 (rInt (rInt (rInt st').2).2).1, .int .i64 (rInt (rInt (rInt (rInt st').2).2).2).1, .int .i64 (rInt (rInt (rInt (rInt (rInt st').2).2).2).2).1, .int .i64 y1.base, .int .i64 y1.bterm, d1, d2, f2, g2, d3, .int .i64 y4.txn, .int .i64 y4.part, .int .i64 y4.promised, .int .i64 y4.ballot, .int .i64 y4.value]] false))).length = J4.length := List.length_set
  generalize J4.set (h.length + 1) (some (ABlk.arr 17 [[.int .i64 (rInt st').1, .int .i64 (rInt (rInt st').2).1, .int .i64 (rInt (rInt (rInt st').2).2).1, .int .i64 (rInt (rInt (rInt (rInt st').2).2).2).1, .int .i64 (rInt (rInt (rInt (rInt (rInt st').2).2).2).2).1, .int .i64 y1.base, .int .i64 y1.bterm, d1, d2, f2, g2, d3, .int .i64 y4.txn, .int .i64 y4.part, .int .i64 y4.promised, .int .i64 y4.ballot, .int .i64 y4.value]] false)) = G4 at *
  subst e
  have dl : changeC.dec (Rdr.if_ b st') = (⟨(rInt (Rdr.if_ b st')).1, (rInt (rInt (Rdr.if_ b st')).2).1, (rInt (rInt (rInt (Rdr.if_ b st')).2).2).1, (rInt (rInt (rInt (rInt (Rdr.if_ b st')).2).2).2).1, (rInt (rInt (rInt (rInt (rInt (Rdr.if_ b st')).2).2).2).2).1, (logC.dec (rInt (rInt (rInt (rInt (rInt (Rdr.if_ b st')).2).2).2).2).2).1, (confC.dec (logC.dec (rInt (rInt (rInt (rInt (rInt (Rdr.if_ b st')).2).2).2).2).2).2).1, (rBlob (confC.dec (logC.dec (rInt (rInt (rInt (rInt (rInt (Rdr.if_ b st')).2).2).2).2).2).2).2).1, (voteC.dec (rBlob (confC.dec (logC.dec (rInt (rInt (rInt (rInt (rInt (Rdr.if_ b st')).2).2).2).2).2).2).2).2).1⟩, (voteC.dec (rBlob (confC.dec (logC.dec (rInt (rInt (rInt (rInt (rInt (Rdr.if_ b st')).2).2).2).2).2).2).2).2).2) := rfl
  rw [dl, rInt_if, rInt_if, rInt_if, rInt_if, rInt_if, hσ]
  have fin : ∀ (H : AHeap) (y : Option ABlk), Ext (four s q h.length) H (H.set h.length y) := fun H y => Ext.set _ (fun _ => .inr (.inr (.inl rfl)))
  have hF : ∀ m, F m → m < q := hs.2.2.1
  refine ⟨⟨(rInt st').1, (rInt (rInt st').2).1, (rInt (rInt (rInt st').2).2).1, (rInt (rInt (rInt (rInt st').2).2).2).1, (rInt (rInt (rInt (rInt (rInt st').2).2).2).2).1, y1, y2, y3, y4⟩, _, rfl, ?_, by obtain ⟨b', s', S', e'⟩ := T4; exact ⟨b', s', S'.set (by omega) _, e'⟩, EE.put (by omega) _, fun hh => ?_⟩
  · exact ⟨_, _, rfl, own_i64 _ _ _, ⟨_, _, rfl, own_i64 _ _ _, ⟨_, _, rfl, own_i64 _ _ _, ⟨_, _, rfl, own_i64 _ _ _, ⟨_, _, rfl, own_i64 _ _ _, ⟨_, _, rfl, own_i64 _ _ _, ⟨_, _, rfl, own_i64 _ _ _, ⟨_, _, rfl, own_four wl1 ((((M1.trans K2 (fun _ _ x => x) (fun _ _ x => x)).trans K3 (fun _ _ x => x) (fun _ _ x => x)).trans K4 (fun _ _ x => x) (fun _ _ x => x)).trans (fin _ _) (fun _ _ x => x) (fun _ _ x => x)) hF hq hlt (by omega), ⟨_, _, rfl, own_four wl2 (((M2.trans K3 (fun _ _ x => x) (fun _ _ x => x)).trans K4 (fun _ _ x => x) (fun _ _ x => x)).trans (fin _ _) (fun _ _ x => x) (fun _ _ x => x)) hF hq hlt (by omega), ⟨_, _, rfl, own_four vl2 (((M2.trans K3 (fun _ _ x => x) (fun _ _ x => x)).trans K4 (fun _ _ x => x) (fun _ _ x => x)).trans (fin _ _) (fun _ _ x => x) (fun _ _ x => x)) hF hq hlt (by omega), ⟨_, _, rfl, own_four ul2 (((M2.trans K3 (fun _ _ x => x) (fun _ _ x => x)).trans K4 (fun _ _ x => x) (fun _ _ x => x)).trans (fin _ _) (fun _ _ x => x) (fun _ _ x => x)) hF hq hlt (by omega), ⟨_, _, rfl, own_four w3 ((M3.trans K4 (fun _ _ x => x) (fun _ _ x => x)).trans (fin _ _) (fun _ _ x => x) (fun _ _ x => x)) hF hq hlt (by omega), ⟨_, _, rfl, own_i64 _ _ _, ⟨_, _, rfl, own_i64 _ _ _, ⟨_, _, rfl, own_i64 _ _ _, ⟨_, _, rfl, own_i64 _ _ _, ⟨_, _, rfl, own_i64 _ _ _, rfl⟩⟩⟩⟩⟩⟩⟩⟩⟩⟩⟩⟩⟩⟩⟩⟩⟩
  · have n4 : (voteC.dec (rBlob (confC.dec (logC.dec σ0).2).2).2).2 ≠ none := hh
    have n3 : (rBlob (confC.dec (logC.dec σ0).2).2).2 ≠ none := fun hz => n4 (by rw [hz]; exact voteC.bad)
    have n2 : (confC.dec (logC.dec σ0).2).2 ≠ none := fun hz => n3 (by rw [hz]; exact rfl)
    have n1 : (logC.dec σ0).2 ≠ none := fun hz => n2 (by rw [hz]; exact confC.bad)
    have n0 : σ0 ≠ none := fun hz => n1 (by rw [hz]; exact logC.bad)
    rw [hy1 n1, hy2 n2, hy3 n3, hy4 n4]
    cases b with
    | true => exact absurd hσ.symm n0
    | false => rfl

end Glb
