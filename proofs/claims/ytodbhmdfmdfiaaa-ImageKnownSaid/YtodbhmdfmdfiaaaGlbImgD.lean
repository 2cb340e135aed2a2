/-
  A library of its own: its parts, one behind the other.
-/
import Derived.Test.YtodbhmdfmdfiaaaGlbImgC
import Derived.Test.YtodbhmdfmdfiaaaGlbCgleberef13
import Derived.Test.YtodbhmdfmdfiaaaGlbQuoB
set_option linter.unusedSimpArgs false
set_option linter.unusedVariables false
/-
  The program's Get, GetChanges, GetConf; images in order.
-/
namespace Glb
open Go
set_option maxRecDepth 10000
set_option maxHeartbeats 8000000

theorem end_ok {P : Program} {f g : FuncId} (hf : Is P f (c_image_source_end g)) (hg : Is P g c_pack_Reader_End) {F : Nat → Prop} {h : AHeap} {s q : Nat} {st : Rdr} (hs : SrcS F h s q st) :
    ACalls P f [.ptr s 2 0 0] h fun r h' => r = .int .i64 st.end_ ∧ h' = h := by
  refine fun_sound hf.1 (Nat.le_of_ble_eq_true rfl) ?_
  show vc P (c_image_source_end g).code ⟨[(0, .ptr s 2 0 0)], [], h⟩ (atEnd (c_image_source_end g).res _)
  obtain ⟨b, st', hs, rfl⟩ := hs
  have B := hs.1
  simp only [c_image_source_end, go_sem, reduceIte, Nat.reduceEqDiff, Nat.reduceAdd, Nat.reduceLeDiff, Nat.reducePow, Nat.reduceDiv, Nat.reduceMod, decide_true, B]
  cases b with
  | true =>
    simp only [go_sem, reduceIte, Nat.reduceEqDiff, Nat.reduceAdd, Nat.reduceLeDiff, Nat.reducePow, Nat.reduceDiv, Nat.reduceMod, decide_true]
    exact rfl
  | false =>
    simp only [go_sem, reduceIte, Nat.reduceEqDiff, Nat.reduceAdd, Nat.reduceLeDiff, Nat.reducePow, Nat.reduceDiv, Nat.reduceMod, decide_true, B]
    refine use1 hg.2 (pack_End_r hg hs.2.1) ?_
    simp only [go_sem, reduceIte, Nat.reduceEqDiff, Nat.reduceAdd, Nat.reduceLeDiff, Nat.reducePow, Nat.reduceDiv, Nat.reduceMod, decide_true]
    exact rfl

/-- in order -/
def ordB {T : Type} (lt : T → T → Bool) : List T → Bool
  | a :: b :: r => lt a b && ordB lt (b :: r)
  | _ => true
theorem ordB_iff {T : Type} {lt : T → T → Bool} : ∀ {l : List T}, ordB lt l = true ↔ ∀ i (h : i + 1 < l.length), lt (l[i]'(by omega)) l[i + 1] = true
  | [] => by simp [ordB]
  | [a] => by simp [ordB]
  | a :: b :: r => by
    simp only [ordB, Bool.and_eq_true]
    rw [ordB_iff (l := b :: r)]
    refine ⟨fun ⟨h1, h2⟩ i hi => ?_, fun hh => ⟨hh 0 (by simp), fun i hi => hh (i + 1) (by simp at hi ⊢; omega)⟩⟩
    cases i with
    | zero => exact h1
    | succ i => exact h2 i (by simp at hi ⊢; omega)
def Vote.ahead (a b : Vote) : Bool := decide (a.txn < b.txn) || (decide (a.txn = b.txn) && decide (a.part < b.part))
def Image.ordered (x : Image) : Bool := ordB (fun a b => decide (a.group < b.group)) x.hards && ordB Vote.ahead x.votes

def AheadOk (P : Program) (f : FuncId) : Prop := isFn P f = true ∧ ∀ (h : AHeap) (a b : Vote) (as bs : List AV), as = [.int .i64 a.txn, .int .i64 a.part, .int .i64 a.promised, .int .i64 a.ballot, .int .i64 a.value] → bs = [.int .i64 b.txn, .int .i64 b.part, .int .i64 b.promised, .int .i64 b.ballot, .int .i64 b.value] →
  ACalls P f [.agg as, .agg bs] h fun r h' => r = .bool (a.ahead b) ∧ h' = h

theorem image_ahead_ok {P : Program} {f : FuncId} (hf : Is P f c_image_ahead) : AheadOk P f := by
  refine ⟨hf.2, fun h a b as bs e1 e2 => obs rfl (fun_sound hf.1 (Nat.le_of_ble_eq_true rfl) ?_)⟩
  subst e1; subst e2
  show vc P c_image_ahead.code ⟨[(0, .agg _), (1, .agg _)], [], h⟩ (atEnd c_image_ahead.res _)
  simp only [c_image_ahead, go_sem, reduceIte, Nat.reduceEqDiff, Nat.reduceAdd, Nat.reduceLeDiff, Nat.reducePow, Nat.reduceDiv, Nat.reduceMod, decide_true]
  by_cases c1 : a.txn < b.txn
  · simp only [go_sem, reduceIte, Nat.reduceEqDiff, Nat.reduceAdd, Nat.reduceLeDiff, Nat.reducePow, Nat.reduceDiv, Nat.reduceMod, decide_true, decide_eq_true c1]
    exact ⟨by simp [Vote.ahead, c1], Ext.b2 _ _⟩
  · simp only [go_sem, reduceIte, Nat.reduceEqDiff, Nat.reduceAdd, Nat.reduceLeDiff, Nat.reducePow, Nat.reduceDiv, Nat.reduceMod, decide_true, decide_eq_false c1]
    by_cases c2 : a.txn = b.txn
    · simp only [go_sem, reduceIte, Nat.reduceEqDiff, Nat.reduceAdd, Nat.reduceLeDiff, Nat.reducePow, Nat.reduceDiv, Nat.reduceMod, decide_true, decide_eq_true c2]
      exact ⟨by simp [Vote.ahead, c2], Ext.b2 _ _⟩
    · simp only [go_sem, reduceIte, Nat.reduceEqDiff, Nat.reduceAdd, Nat.reduceLeDiff, Nat.reducePow, Nat.reduceDiv, Nat.reduceMod, decide_true, decide_eq_false c2]
      exact ⟨by simp [Vote.ahead, c1, c2], Ext.b2 _ _⟩
def OrdOk (P : Program) (f : FuncId) : Prop := isFn P f = true ∧ ∀ (G : Nat → Prop) (h : AHeap) (x : Image) (as : List AV), RdL G h x.c as → x.hards.length ≤ 2^40 → x.votes.length ≤ 2^40 → ACalls P f [.agg as] h fun r h' => r = .bool x.ordered ∧ h' = h

theorem image_ordered_ok {P : Program} {f g : FuncId} (hf : Is P f (c_image_ordered g)) (hg : AheadOk P g) : OrdOk P f := by
  refine ⟨hf.2, fun G h x as hx l1 l2 => obs rfl (fun_sound hf.1 (Nat.le_of_ble_eq_true rfl) ?_)⟩
  obtain ⟨d, v, rfl, hd, hv⟩ := rd_image hx
  show vc P (c_image_ordered g).code ⟨[(0, .agg [d, v])], [], h⟩ (atEnd (c_image_ordered g).res _)
  have ld : alen d = some (.int .i64 x.hards.length) := by simpa using hd.len
  have lv : alen v = some (.int .i64 x.votes.length) := by simpa using hv.len
  simp only [c_image_ordered, go_sem, reduceIte, Nat.reduceEqDiff, Nat.reduceAdd, Nat.reduceLeDiff, Nat.reducePow, Nat.reduceDiv, Nat.reduceMod, decide_true, hd.scalar, hv.scalar]
  have B := bx10 h (some (.arr 2 [[d, v]] false))
  have E0 : Ext nof h (h ++ [some (.arr 2 [[d, v]] false)]) := Ext.b1 _
  have hd := hd.up E0
  have hv := hv.up E0
  generalize h ++ [some (ABlk.arr 2 [[d, v]] false)] = H at *
  refine vc_loop (fun m L h' => ∃ i : Nat, lk 1 L = .ptr h.length 2 0 0 ∧ lk 3 L = .int .i64 ((i : Int) + 1) ∧ h' = H ∧ i ≤ x.hards.length ∧ m = x.hards.length - i ∧ ∀ j (hj : j + 1 < x.hards.length), j < i → x.hards[j].group < x.hards[j + 1].group) x.hards.length ?_ ?_
  · exact ⟨0, by simp [lk_ins, lk_cons], by simp [lk_ins], rfl, by omega, by omega, by omega⟩
  · rintro m L h2 ⟨i, k1, k3, rfl, hi, rfl, hj⟩
    simp only [c_image_ordered_l0, go_sem, reduceIte, Nat.reduceEqDiff, Nat.reduceAdd, Nat.reduceLeDiff, Nat.reducePow, Nat.reduceDiv, Nat.reduceMod, decide_true, k1, k3, B, ld]
    refine wCond_split (fun ci => ?_) (fun ci => ?_)
    · simp at ci
      obtain ⟨p, cs, hp1, hp2, hcs⟩ := hd.index .i64 (i := i) (d := (x.hards[i]'(by omega)).c) (by omega) (by simp [show i < x.hards.length by omega])
      obtain ⟨p', cs', hp1', hp2', hcs'⟩ := hd.index .i64 (i := i + 1) (d := (x.hards[i + 1]'(by omega)).c) (by omega) (by rw [show ((i : Int) + 1).toNat = i + 1 by omega]; simp [show i + 1 < x.hards.length by omega])
      obtain ⟨_, _, _, _, _, rfl, -⟩ := rd_hard hcs
      obtain ⟨_, _, _, _, _, rfl, -⟩ := rd_hard hcs'
      have e1 : IntKind.i64.wrap ((i : Int) + 1 - 1) = i := by rw [wrap_i64 (by omega)]; omega
      have e2 : IntKind.i64.wrap ((i : Int) + 1 + 1) = (i : Int) + 1 + 1 := wrap_i64 (by omega)
      simp only [go_sem, reduceIte, Nat.reduceEqDiff, Nat.reduceAdd, Nat.reduceLeDiff, Nat.reducePow, Nat.reduceDiv, Nat.reduceMod, decide_true, k1, k3, B, e1, hp1, hp1', afield_p hp2, afield_p hp2', aload_off hp2, aload_off hp2', Hard.cells]
      refine wCond_split (fun cg => ?_) (fun cg => ?_)
      · simp at cg
        simp only [go_sem, reduceIte, Nat.reduceEqDiff, Nat.reduceAdd, Nat.reduceLeDiff, Nat.reducePow, Nat.reduceDiv, Nat.reduceMod, decide_true]
        refine ⟨?_, E0⟩
        have : ordB (fun a b : Hard => decide (a.group < b.group)) x.hards ≠ true := fun hh => by have := ordB_iff.1 hh i (by omega); simp at this; omega
        simp [Image.ordered, this]
      · simp at cg
        simp only [go_sem, reduceIte, Nat.reduceEqDiff, Nat.reduceAdd, Nat.reduceLeDiff, Nat.reducePow, Nat.reduceDiv, Nat.reduceMod, decide_true, k1, k3, e2]
        refine ⟨_, by omega, i + 1, by simp, by omega, rfl, fun j hj' hji => ?_⟩
        by_cases e : j = i
        · subst e; omega
        · exact hj j hj' (by omega)
    · simp at ci
      have o1 : ordB (fun a b : Hard => decide (a.group < b.group)) x.hards = true := ordB_iff.2 fun j hj' => by simpa using hj j hj' (by omega)
      simp only [go_sem, reduceIte, Nat.reduceEqDiff, Nat.reduceAdd, Nat.reduceLeDiff, Nat.reducePow, Nat.reduceDiv, Nat.reduceMod, decide_true, k1, k3]
      refine vc_loop (fun m L h' => ∃ i : Nat, lk 1 L = .ptr h.length 2 0 0 ∧ lk 4 L = .int .i64 ((i : Int) + 1) ∧ h' = h2 ∧ i ≤ x.votes.length ∧ m = x.votes.length - i ∧ ∀ j (hj : j + 1 < x.votes.length), j < i → x.votes[j].ahead x.votes[j + 1] = true) x.votes.length ?_ ?_
      · exact ⟨0, by simp [lk_ins, k1], by simp [lk_ins], rfl, by omega, by omega, by omega⟩
      · rintro m L h2 ⟨i, k1, k4, rfl, hi, rfl, hj⟩
        simp only [c_image_ordered_l1, go_sem, reduceIte, Nat.reduceEqDiff, Nat.reduceAdd, Nat.reduceLeDiff, Nat.reducePow, Nat.reduceDiv, Nat.reduceMod, decide_true, k1, k4, B, lv]
        refine wCond_split (fun ci => ?_) (fun ci => ?_)
        · simp at ci
          obtain ⟨p, cs, hp1, hp2, hcs⟩ := hv.index .i64 (i := i) (d := (x.votes[i]'(by omega)).c) (by omega) (by simp [show i < x.votes.length by omega])
          obtain ⟨p', cs', hp1', hp2', hcs'⟩ := hv.index .i64 (i := i + 1) (d := (x.votes[i + 1]'(by omega)).c) (by omega) (by rw [show ((i : Int) + 1).toNat = i + 1 by omega]; simp [show i + 1 < x.votes.length by omega])
          have r1 := rd_vote hcs
          have r2 := rd_vote hcs'
          have e1 : IntKind.i64.wrap ((i : Int) + 1 - 1) = i := by rw [wrap_i64 (by omega)]; omega
          have e2 : IntKind.i64.wrap ((i : Int) + 1 + 1) = (i : Int) + 1 + 1 := wrap_i64 (by omega)
          have t1 := aload_p hp2 true 5
          have t2 := aload_p hp2' true 5
          rw [take_agg, if_pos (by rw [r1]; simp), List.take_of_length_le (by rw [r1]; simp)] at t1
          rw [take_agg, if_pos (by rw [r2]; simp), List.take_of_length_le (by rw [r2]; simp)] at t2
          simp only [go_sem, reduceIte, Nat.reduceEqDiff, Nat.reduceAdd, Nat.reduceLeDiff, Nat.reducePow, Nat.reduceDiv, Nat.reduceMod, decide_true, k1, k4, B, e1, hp1, hp1', t1, t2, notRes_of hp2, notRes_of hp2']
          refine use1 hg.1 (hg.2 h2 _ _ cs cs' r1 r2) ?_
          simp only [go_sem, reduceIte, Nat.reduceEqDiff, Nat.reduceAdd, Nat.reduceLeDiff, Nat.reducePow, Nat.reduceDiv, Nat.reduceMod, decide_true, B, t1, t2]
          cases cg : (x.votes[i]'(by omega)).ahead (x.votes[i + 1]'(by omega)) with
          | false =>
            simp only [go_sem, reduceIte, Nat.reduceEqDiff, Nat.reduceAdd, Nat.reduceLeDiff, Nat.reducePow, Nat.reduceDiv, Nat.reduceMod, decide_true]
            refine ⟨?_, E0⟩
            have : ordB Vote.ahead x.votes ≠ true := fun hh => by have := ordB_iff.1 hh i (by omega); rw [cg] at this; cases this
            simp [Image.ordered, this]
          | true =>
            simp only [go_sem, reduceIte, Nat.reduceEqDiff, Nat.reduceAdd, Nat.reduceLeDiff, Nat.reducePow, Nat.reduceDiv, Nat.reduceMod, decide_true, k1, k4, e2]
            refine ⟨_, by omega, i + 1, by simp, by omega, rfl, fun j hj' hji => ?_⟩
            by_cases e : j = i
            · subst e; exact cg
            · exact hj j hj' (by omega)
        · simp at ci
          have o2 : ordB Vote.ahead x.votes = true := ordB_iff.2 fun j hj' => hj j hj' (by omega)
          simp only [go_sem, reduceIte, Nat.reduceEqDiff, Nat.reduceAdd, Nat.reduceLeDiff, Nat.reducePow, Nat.reduceDiv, Nat.reduceMod, decide_true]
          refine ⟨?_, E0⟩
          simp [Image.ordered, o1, o2]
end Glb

/-
  The program's Get, GetChanges, GetConf.
-/
namespace Glb
open Go
set_option maxRecDepth 10000
set_option maxHeartbeats 8000000

def getImage (l : List Int) : Image × Int :=
  if (imageC.dec (some l)).2.end_ ≠ 0 then (⟨[], []⟩, (imageC.dec (some l)).2.end_) else if (imageC.dec (some l)).1.ordered = true then ((imageC.dec (some l)).1, 0) else (⟨[], []⟩, 15)
def getConf (l : List Int) : Conf × Int :=
  if (confC.dec (some l)).2.end_ ≠ 0 then (⟨[], [], []⟩, (confC.dec (some l)).2.end_) else if (confC.dec (some l)).1.right = true then ((confC.dec (some l)).1, 0) else (⟨[], [], []⟩, 29)

/-- what is read lies in new memory -/
def GetImgOk (P : Program) (f : FuncId) : Prop := isFn P f = true ∧ ∀ (G : Nat → Prop) (h : AHeap) (l : List Int) (b : AV), Rd G h (dBytes l) b → bytesOk l → l.length ≤ 2^37 →
  ACalls P f [b] h fun r h' => ∃ as, r = .tup [.agg as, .int .i64 (getImage l).2] ∧ OwnL (getImage l).1.c (fun m => h.length ≤ m) h' as ∧ Ext nof h h'
theorem SrcS.up {F : Nat → Prop} {h h' : AHeap} {s q : Nat} {st : Rdr} (hs : SrcS F h s q st) (e : Ext nof h h') : SrcS F h' s q st := by
  obtain ⟨b', s', S', e'⟩ := hs; exact ⟨b', s', S'.up e, e'⟩
theorem SrcS.set {F : Nat → Prop} {h : AHeap} {s q : Nat} {st : Rdr} (hs : SrcS F h s q st) {n : Nat} (hn : s < n) (x : Option ABlk) : SrcS F (h.set n x) s q st := by
  obtain ⟨b', s', S', e'⟩ := hs; exact ⟨b', s', S'.set hn x, e'⟩
/-- a source over a new reader -/
theorem src_new {F : Nat → Prop} {h : AHeap} {q : Nat} {st : Rdr} (hr : RdrS F h q st) (hF : ∀ m, F m → m < q) : SrcB F (h ++ [some (.arr 2 [[.ptr q 2 0 0, .bool false]] false)]) h.length q false st :=
  ⟨bx10 _ _, hr.up (Ext.b1 _), hF, hr.lt⟩

theorem own_imageL {x : Image} {F : Nat → Prop} {h : AHeap} {a : List AV} (hh : OwnL x.c F h a) : ∃ d v, a = [d, v] ∧ Own (dHards x.hards) F h d ∧ Own (dVotes x.votes) F h v := by
  simp only [Image.c, OwnL] at hh
  obtain ⟨d, _, rfl, hd, v, _, rfl, hv, rfl⟩ := hh
  exact ⟨d, v, rfl, hd, hv⟩

theorem image_len {l r : List Int} {x : Image} (hb : bytesOk l) (h : imageC.dec (some l) = (x, some r)) : 8 * x.hards.length ≤ l.length ∧ 8 * x.votes.length ≤ l.length ∧ l = imageC.enc x ++ r ∧ imageC.ok x := by
  obtain ⟨e, ok⟩ := imageC.only l x r hb h
  have h1 := flat_big hardC x.hards
  have h2 := flat_big voteC x.votes
  have e2 := congrArg List.length e
  rw [imageC_enc] at e2
  simp only [List.length_append] at e2
  exact ⟨by omega, by omega, e, ok⟩
theorem Rdr.end_zero {st : Rdr} (h : st.end_ = 0) : st = some [] := by
  cases st with
  | none => cases h
  | some l => cases l with
    | nil => rfl
    | cons a l => simp [Rdr.end_] at h

theorem Get_ok {P : Program} {f rd hd lh vt lv en e0 od : FuncId} (hf : Is P f (c_image_Get rd hd lh vt lv en od)) (hr : ReadR P rd) (hh : GetT P hd Hard.c hardC.dec) (hlh : ListT P lh 10 Hard.c hardC.dec) (hv : GetT P vt Vote.c voteC.dec) (hlv : ListT P lv 5 Vote.c voteC.dec)
    (he : Is P en (c_image_source_end e0)) (he0 : Is P e0 c_pack_Reader_End) (ho : OrdOk P od) : GetImgOk P f := by
  refine ⟨hf.2, fun G h l b hb hbo hlen => fun_sound hf.1 (Nat.le_of_ble_eq_true rfl) ?_⟩
  show vc P (c_image_Get rd hd lh vt lv en od).code ⟨[(0, b)], [], h⟩ (atEnd (c_image_Get rd hd lh vt lv en od).res _)
  simp only [c_image_Get, go_sem, reduceIte, Nat.reduceEqDiff, Nat.reduceAdd, Nat.reduceLeDiff, Nat.reducePow, Nat.reduceDiv, Nat.reduceMod, decide_true]
  have A0 := bx10 h (some (.arr 2 [[.nils, .nils]] false))
  have X0 : Ext nof h (h ++ [some (.arr 2 [[.nils, .nils]] false)]) := Ext.b1 _
  have l0 : h.length + 1 = (h ++ [some (ABlk.arr 2 [[.nils, .nils]] false)]).length := by simp
  have hb := hb.up X0
  generalize h ++ [some (ABlk.arr 2 [[.nils, .nils]] false)] = H0 at *
  refine wCall_use ⟨hr.1, hr.2 G H0 l b hb hbo (by omega)⟩ ?_
  rintro _ h1 ⟨q, rfl, hq, r1, x1⟩
  simp only [go_sem, reduceIte, Nat.reduceEqDiff, Nat.reduceAdd, Nat.reduceLeDiff, Nat.reducePow, Nat.reduceDiv, Nat.reduceMod, decide_true]
  have S1 := src_new r1 (fun m hm => hm.2)
  have lq := r1.lt
  have X1 : Ext nof H0 (h1 ++ [some (.arr 2 [[.ptr q 2 0 0, .bool false]] false)]) := x1.tr (Ext.b1 _)
  have lb : h1.length < (h1 ++ [some (ABlk.arr 2 [[.ptr q 2 0 0, .bool false]] false)]).length := by simp
  generalize h1 ++ [some (ABlk.arr 2 [[.ptr q 2 0 0, .bool false]] false)] = H1 at *
  refine wCall_use ⟨hlh.1, hlh.2 hd hh hardC.bad _ H1 h1.length q _ ⟨false, _, S1, rfl⟩⟩ ?_
  rintro a H2 ⟨xs, hO, -, S2, X2, hx⟩
  simp only [go_sem, reduceIte, Nat.reduceEqDiff, Nat.reduceAdd, Nat.reduceLeDiff, Nat.reducePow, Nat.reduceDiv, Nat.reduceMod, decide_true, hO.scalar, cells_of hO.scalar]
  have S3 := S2.up (Ext.b1 (some (.arr 2 [[a, .nils]] false)))
  have A3 := bx10 H2 (some (.arr 2 [[a, .nils]] false))
  have X3 : Ext (two h1.length q) H1 (H2 ++ [some (.arr 2 [[a, .nils]] false)]) := X2.trans (Ext.b1 _) (fun _ _ x => x) (fun _ _ x => x.elim)
  have hO3 := Own.mono (F' := fun m => (H0.length ≤ m ∧ m < q) ∨ H1.length ≤ m ∧ m < H2.length) _ (fun m hm => by rcases hm.1 with hm' | hm'; exact .inl hm'; exact .inr ⟨hm', hm.2⟩) ((Ext.b1 (h := H2) (some (.arr 2 [[a, .nils]] false))).keep _) _ (Own.lt _ _ hO)
  have l2 := X2.1
  have l3 : H2.length + 1 = (H2 ++ [some (ABlk.arr 2 [[a, .nils]] false)]).length := by simp
  generalize H2 ++ [some (ABlk.arr 2 [[a, .nils]] false)] = H3 at *
  refine wCall_use ⟨hlv.1, hlv.2 vt hv voteC.bad _ H3 h1.length q _ S3⟩ ?_
  rintro v H4 ⟨ys, hV, -, S4, X4, hy⟩
  have lx := x1.1
  have A4 : H4[H2.length]? = _ := (X4.2 _ (by omega) (by simp only [two]; omega)).trans A3
  have l4 := X4.1
  have l4' : H2.length < H4.length := by omega
  have A5 : H4[h.length]? = _ := (((X1.trans X3 (F'' := two h1.length q) (fun _ _ x => x.elim) (fun _ _ x => x)).trans X4 (fun _ _ x => x) (fun _ _ x => x)).2 _ (by omega) (by simp only [two]; omega)).trans A0
  have XX : Ext nof h (H4.set H2.length (some (.arr 2 [[a, v]] false))) := ((((X0.trans X1 (fun _ _ x => x) (fun _ _ x => x)).trans X3 (F'' := nof) (fun _ _ x => x) (fun m hm hm' => by simp only [two] at hm'; omega)).trans X4 (F'' := nof) (fun _ _ x => x) (fun m hm hm' => by simp only [two] at hm'; omega))).put (by omega) _
  have S5 := S4.set (n := H2.length) (by omega) (some (.arr 2 [[a, v]] false))
  have A6 : (H4.set H2.length (some (.arr 2 [[a, v]] false)))[H2.length]? = _ := List.getElem?_set_self l4'
  have A7 : (H4.set H2.length (some (.arr 2 [[a, v]] false)))[h.length]? = _ := (List.getElem?_set_ne (by omega)).trans A5
  have oA : Own (dHards xs) (fun m => h.length ≤ m ∧ m ≠ h.length) (H4.set H2.length (some (.arr 2 [[a, v]] false))) a := Own.mono _ (fun m hm => by omega) (fun m hm y hy => by
    rw [List.getElem?_set_ne (by omega), X4.2 m (by omega) (by simp only [two]; omega)]; exact hy) _ hO3
  have oV : Own (dVotes ys) (fun m => h.length ≤ m ∧ m ≠ h.length) (H4.set H2.length (some (.arr 2 [[a, v]] false))) v := Own.mono _ (fun m hm => by omega) (fun m hm y hy => by
    rw [List.getElem?_set_ne (by omega)]; exact hy) _ hV
  simp only [go_sem, reduceIte, Nat.reduceEqDiff, Nat.reduceAdd, Nat.reduceLeDiff, Nat.reducePow, Nat.reduceDiv, Nat.reduceMod, decide_true, hV.scalar, cells_of hV.scalar, A4, l4']
  have l5 : (H4.set H2.length (some (.arr 2 [[a, v]] false))).length = H4.length := List.length_set
  generalize H4.set H2.length (some (.arr 2 [[a, v]] false)) = H5 at *
  refine use1 he.2 (end_ok he he0 S5) ?_
  have dl : imageC.dec (some l) = (⟨(rList hardC.dec (some l)).1, (rList voteC.dec (rList hardC.dec (some l)).2).1⟩, (rList voteC.dec (rList hardC.dec (some l)).2).2) := rfl
  have ef : Rdr.if_ false (some l) = some l := rfl
  rw [ef] at hx hy
  have e2 : (rList voteC.dec (rList hardC.dec (Rdr.if_ false (some l))).2).2 = (imageC.dec (some l)).2 := rfl
  rw [e2]
  have h3 : h.length < H5.length := by omega
  have fin : ∀ (d w : AV) (x : Image), Own (dHards x.hards) (fun m => h.length ≤ m ∧ m ≠ h.length) H5 d → Own (dVotes x.votes) (fun m => h.length ≤ m ∧ m ≠ h.length) H5 w → OwnL x.c (fun m => h.length ≤ m) (H5.set h.length (some (.arr 2 [[d, w]] false))) [d, w] ∧ Ext nof h (H5.set h.length (some (.arr 2 [[d, w]] false))) := by
    intro d w x o1 o2
    refine ⟨⟨_, _, rfl, Own.mono _ (fun m hm => hm.1) (fun m hm y hy => by rw [List.getElem?_set_ne (by omega)]; exact hy) _ o1, _, _, rfl, Own.mono _ (fun m hm => hm.1) (fun m hm y hy => by rw [List.getElem?_set_ne (by omega)]; exact hy) _ o2, rfl⟩, XX.put (by omega) _⟩
  have none' := fin .nils .nils ⟨[], []⟩ (Own.nils _) (Own.nils _)
  simp only [go_sem, reduceIte, Nat.reduceEqDiff, Nat.reduceAdd, Nat.reduceLeDiff, Nat.reducePow, Nat.reduceDiv, Nat.reduceMod, decide_true, A6]
  refine wCond_split (fun c => ?_) (fun c => ?_)
  · simp at c
    simp only [go_sem, reduceIte, Nat.reduceEqDiff, Nat.reduceAdd, Nat.reduceLeDiff, Nat.reducePow, Nat.reduceDiv, Nat.reduceMod, decide_true, A7, h3]
    have eg : getImage l = (⟨[], []⟩, (imageC.dec (some l)).2.end_) := by simp only [getImage]; rw [if_pos c]
    rw [eg]
    exact ⟨_, rfl, none'⟩
  · simp at c
    have es := Rdr.end_zero c
    have hd2 : (rList hardC.dec (some l)).2 ≠ none := fun hz => by rw [dl] at es; simp only [hz] at es; rw [show (rList voteC.dec none).2 = none from (listC voteC).bad] at es; cases es
    have ex := hx hd2
    have ey := hy (by rw [dl] at es; simp only at es; rw [es]; simp)
    have exy : (imageC.dec (some l)).1 = ⟨xs, ys⟩ := by rw [dl, ex, ey]
    obtain ⟨n1, n2, -, -⟩ := image_len (x := ⟨xs, ys⟩) (r := []) hbo (by rw [← exy, ← es])
    simp only [go_sem, reduceIte, Nat.reduceEqDiff, Nat.reduceAdd, Nat.reduceLeDiff, Nat.reducePow, Nat.reduceDiv, Nat.reduceMod, decide_true, A6]
    refine use1 ho.1 (ho.2 _ H5 ⟨xs, ys⟩ _ ⟨_, _, rfl, Own.rd _ (fun _ _ => trivial) _ oA, _, _, rfl, Own.rd _ (fun _ _ => trivial) _ oV, rfl⟩ (by omega) (by omega)) ?_
    have eg : getImage l = if Image.ordered ⟨xs, ys⟩ = true then (⟨xs, ys⟩, 0) else (⟨[], []⟩, 15) := by simp only [getImage]; rw [if_neg (by simpa using c), exy]
    rw [eg]
    cases co : Image.ordered ⟨xs, ys⟩ with
    | false =>
      simp only [go_sem, reduceIte, Nat.reduceEqDiff, Nat.reduceAdd, Nat.reduceLeDiff, Nat.reducePow, Nat.reduceDiv, Nat.reduceMod, decide_true, A7, h3]
      exact ⟨_, rfl, none'⟩
    | true =>
      simp only [go_sem, reduceIte, Nat.reduceEqDiff, Nat.reduceAdd, Nat.reduceLeDiff, Nat.reducePow, Nat.reduceDiv, Nat.reduceMod, decide_true, A7, A6, h3, oA.scalar, oV.scalar, cells_of oA.scalar, cells_of oV.scalar]
      exact ⟨_, rfl, fin a v ⟨xs, ys⟩ oA oV⟩

end Glb

/-
  Images, changes in memory of their own; members read.
-/
namespace Glb
open Go
set_option maxRecDepth 10000
set_option maxHeartbeats 8000000

/-- in memory of its own -/
def FreshOk (P : Program) (f : FuncId) : Prop := isFn P f = true ∧ ∀ (G : Nat → Prop) (h : AHeap) (x : Image) (as : List AV), RdL G h x.c as → imageC.ok x → (imageC.enc x).length ≤ 2^33 →
  ACalls P f [.agg as] h fun r h' => ∃ (d v : AV) (k : Nat), r = .agg [d, v] ∧ Own (dHards x.hards) (fun m => h.length ≤ m ∧ m < k) h' d ∧ Own (dVotes x.votes) (fun m => k ≤ m) h' v ∧ h.length ≤ k ∧ Ext nof h h'
def FreshCOk (P : Program) (f : FuncId) : Prop := isFn P f = true ∧ ∀ (G : Nat → Prop) (h : AHeap) (x : Change) (as : List AV), RdL G h x.c as → changeC.ok x → (changeC.enc x).length ≤ 2^33 →
  ACalls P f [.agg as] h fun r h' => ∃ bs, r = .agg bs ∧ OwnL x.c (fun m => h.length ≤ m) h' bs ∧ Ext nof h h'
def GetConfOk (P : Program) (f : FuncId) : Prop := isFn P f = true ∧ ∀ (G : Nat → Prop) (h : AHeap) (l : List Int) (b : AV), Rd G h (dBytes l) b → bytesOk l → l.length ≤ 2^37 →
  ACalls P f [b] h fun r h' => ∃ as, r = .tup [.agg as, .int .i64 (getConf l).2] ∧ OwnL (getConf l).1.c (fun m => h.length ≤ m) h' as ∧ Ext nof h h'

theorem own_voteLL {F F' : Nat → Prop} {h h' : AHeap} : ∀ {l : List Vote} {ys : List (List AV)}, OwnLL (l.map Vote.c) F h ys → OwnLL (l.map Vote.c) F' h' ys
  | [], ys, hh => hh
  | v :: l, ys, hh => by
    obtain ⟨a, r, rfl, h1, h2⟩ := hh
    obtain rfl := own_voteL h1
    exact ⟨_, r, rfl, ⟨_, _, rfl, own_i64 _ _ _, _, _, rfl, own_i64 _ _ _, _, _, rfl, own_i64 _ _ _, _, _, rfl, own_i64 _ _ _, _, _, rfl, own_i64 _ _ _, rfl⟩, own_voteLL h2⟩
/-- votes lie in one row -/
theorem own_votes_row {F : Nat → Prop} {h : AHeap} {l : List Vote} {a : AV} {k : Nat} (ho : Own (dVotes l) F h a) (hn : NewRow k 5 a) : Own (dVotes l) (fun m => k ≤ m) h a := by
  simp only [dVotes, Own] at ho ⊢
  rcases ho with ho | ho | ⟨n, off, cap, row, g, rfl, h1, h2, h3, h4, h5⟩
  · exact .inl ho
  · exact .inr (.inl ho)
  · exact .inr (.inr ⟨n, off, cap, row, g, rfl, hn _ _ _ _ rfl, h2, h3, h4, own_voteLL h5⟩)

theorem fresh_ok {P : Program} {f pu rd hd lh vt lv : FuncId} (hf : Is P f (c_image_fresh pu rd hd lh vt lv)) (hp : PutImgP P pu) (hr : ReadR P rd) (hh : GetT P hd Hard.c hardC.dec) (hlh : ListT P lh 10 Hard.c hardC.dec) (hv : GetT P vt Vote.c voteC.dec) (hlv : ListT P lv 5 Vote.c voteC.dec) : FreshOk P f := by
  refine ⟨hf.2, fun G h x as hx hok hlen => fun_sound hf.1 (Nat.le_of_ble_eq_true rfl) ?_⟩
  obtain ⟨xd, xv, rfl, hd0, hv0⟩ := rd_image hx
  show vc P (c_image_fresh pu rd hd lh vt lv).code ⟨[(0, .agg [xd, xv])], [], h⟩ (atEnd (c_image_fresh pu rd hd lh vt lv).res _)
  simp only [c_image_fresh, go_sem, reduceIte, Nat.reduceEqDiff, Nat.reduceAdd, Nat.reduceLeDiff, Nat.reducePow, Nat.reduceDiv, Nat.reduceMod, decide_true, hd0.scalar, hv0.scalar]
  have A0 := bx21 h (some (.arr 2 [[xd, xv]] false)) (some (.arr 2 [[.nils, .nils]] false))
  have X0 : Ext nof h (h ++ [some (.arr 2 [[xd, xv]] false)] ++ [some (.arr 2 [[.nils, .nils]] false)]) := Ext.b2 _ _
  have l0 : h.length + 2 = (h ++ [some (ABlk.arr 2 [[xd, xv]] false)] ++ [some (ABlk.arr 2 [[.nils, .nils]] false)]).length := by simp
  have hx0 := hx.up X0
  generalize h ++ [some (ABlk.arr 2 [[xd, xv]] false)] ++ [some (ABlk.arr 2 [[.nils, .nils]] false)] = H0 at *
  refine use1 hp.1 (hp.2 G H0 x _ hx0 hlen) ?_
  simp only [go_sem, reduceIte, Nat.reduceEqDiff, Nat.reduceAdd, Nat.reduceLeDiff, Nat.reducePow, Nat.reduceDiv, Nat.reduceMod, decide_true]
  have hbo : bytesOk (imageC.enc x) := imageC.bytes x hok
  have back := imageC.back x [] hok
  rw [List.append_nil] at back
  generalize hl : imageC.enc x = l at *
  have hb : Rd nof H0 (dBytes l) (abytes l) := rd_abytes _ _ _
  refine wCall_use ⟨hr.1, hr.2 nof H0 l _ hb hbo (by omega)⟩ ?_
  rintro _ h1 ⟨q, rfl, hq, r1, x1⟩
  simp only [go_sem, reduceIte, Nat.reduceEqDiff, Nat.reduceAdd, Nat.reduceLeDiff, Nat.reducePow, Nat.reduceDiv, Nat.reduceMod, decide_true]
  have S1 := src_new r1 (fun m hm => hm.2)
  have lq := r1.lt
  have X1 : Ext nof H0 (h1 ++ [some (.arr 2 [[.ptr q 2 0 0, .bool false]] false)]) := x1.tr (Ext.b1 _)
  have lb : h1.length < (h1 ++ [some (ABlk.arr 2 [[.ptr q 2 0 0, .bool false]] false)]).length := by simp
  generalize h1 ++ [some (ABlk.arr 2 [[.ptr q 2 0 0, .bool false]] false)] = H1 at *
  refine wCall_use ⟨hlh.1, hlh.2 hd hh hardC.bad _ H1 h1.length q _ ⟨false, _, S1, rfl⟩⟩ ?_
  rintro a H2 ⟨xs, hO, -, S2, X2, hxx⟩
  simp only [go_sem, reduceIte, Nat.reduceEqDiff, Nat.reduceAdd, Nat.reduceLeDiff, Nat.reducePow, Nat.reduceDiv, Nat.reduceMod, decide_true, hO.scalar, cells_of hO.scalar]
  have S3 := S2.up (Ext.b1 (some (.arr 2 [[a, .nils]] false)))
  have A3 := bx10 H2 (some (.arr 2 [[a, .nils]] false))
  have X3 : Ext (two h1.length q) H1 (H2 ++ [some (.arr 2 [[a, .nils]] false)]) := X2.trans (Ext.b1 _) (fun _ _ x => x) (fun _ _ x => x.elim)
  have hO3 := Own.mono (F' := fun m => (H0.length ≤ m ∧ m < q) ∨ H1.length ≤ m ∧ m < H2.length) _ (fun m hm => by rcases hm.1 with hm' | hm'; exact .inl hm'; exact .inr ⟨hm', hm.2⟩) ((Ext.b1 (h := H2) (some (.arr 2 [[a, .nils]] false))).keep _) _ (Own.lt _ _ hO)
  have l2 := X2.1
  have l3 : H2.length + 1 = (H2 ++ [some (ABlk.arr 2 [[a, .nils]] false)]).length := by simp
  generalize H2 ++ [some (ABlk.arr 2 [[a, .nils]] false)] = H3 at *
  refine wCall_use ⟨hlv.1, hlv.2 vt hv voteC.bad _ H3 h1.length q _ S3⟩ ?_
  rintro v H4 ⟨ys, hV, hNV, S4, X4, hy⟩
  have lx := x1.1
  have A4 : H4[H2.length]? = _ := (X4.2 _ (by omega) (by simp only [two]; omega)).trans A3
  have l4 := X4.1
  have l4' : H2.length < H4.length := by omega
  have A5 : H4[h.length + 1]? = _ := (((X1.trans X3 (F'' := two h1.length q) (fun _ _ x => x.elim) (fun _ _ x => x)).trans X4 (fun _ _ x => x) (fun _ _ x => x)).2 _ (by omega) (by simp only [two]; omega)).trans A0
  have XX : Ext nof h (H4.set H2.length (some (.arr 2 [[a, v]] false))) := ((((X0.trans X1 (fun _ _ x => x) (fun _ _ x => x)).trans X3 (F'' := nof) (fun _ _ x => x) (fun m hm hm' => by simp only [two] at hm'; omega)).trans X4 (F'' := nof) (fun _ _ x => x) (fun m hm hm' => by simp only [two] at hm'; omega))).put (by omega) _
  have S5 := S4.set (n := H2.length) (by omega) (some (.arr 2 [[a, v]] false))
  have A6 : (H4.set H2.length (some (.arr 2 [[a, v]] false)))[H2.length]? = _ := List.getElem?_set_self l4'
  have A7 : (H4.set H2.length (some (.arr 2 [[a, v]] false)))[h.length + 1]? = _ := (List.getElem?_set_ne (by omega)).trans A5
  have oA : Own (dHards xs) (fun m => h.length ≤ m ∧ m ≠ h.length + 1) (H4.set H2.length (some (.arr 2 [[a, v]] false))) a := Own.mono _ (fun m hm => by omega) (fun m hm y hy => by
    rw [List.getElem?_set_ne (by omega), X4.2 m (by omega) (by simp only [two]; omega)]; exact hy) _ hO3
  have oV : Own (dVotes ys) (fun m => h.length ≤ m ∧ m ≠ h.length + 1) (H4.set H2.length (some (.arr 2 [[a, v]] false))) v := Own.mono _ (fun m hm => by omega) (fun m hm y hy => by
    rw [List.getElem?_set_ne (by omega)]; exact hy) _ hV
  have dl : imageC.dec (some l) = (⟨(rList hardC.dec (some l)).1, (rList voteC.dec (rList hardC.dec (some l)).2).1⟩, (rList voteC.dec (rList hardC.dec (some l)).2).2) := rfl
  have ne5 : (H2.length = h.length + 1) = False := eq_false (by omega)
  have h3 : h.length + 1 < H4.length := by omega
  simp only [go_sem, reduceIte, Nat.reduceEqDiff, Nat.reduceAdd, Nat.reduceLeDiff, Nat.reducePow, Nat.reduceDiv, Nat.reduceMod, decide_true, hV.scalar, cells_of hV.scalar, hO3.scalar, A4, l4', A5, ne5, h3, List.length_set]
  have ef : Rdr.if_ false (some l) = some l := rfl
  rw [ef] at hxx hy
  rw [dl] at back
  have b1 := congrArg Prod.fst back
  have b2 := congrArg Prod.snd back
  simp only at b1 b2
  have hd2 : (rList hardC.dec (some l)).2 ≠ none := fun hz => by rw [hz, show (rList voteC.dec none).2 = none from (listC voteC).bad] at b2; cases b2
  have exy : x = ⟨xs, ys⟩ := by rw [← b1, hxx hd2, hy (by rw [b2]; simp)]
  subst exy
  refine ⟨a, v, H3.length, rfl, ?_, ?_, by omega, XX.put (by omega) _⟩
  · refine Own.mono _ (fun m hm => by omega) (fun m hm y hy => ?_) _ hO3
    rw [List.getElem?_set_ne (by omega), List.getElem?_set_ne (by omega), X4.2 m (by omega) (by simp only [two]; omega)]; exact hy
  · refine Own.mono _ (fun m hm => hm) (fun m hm y hy => ?_) _ (own_votes_row hV hNV)
    rw [List.getElem?_set_ne (by omega), List.getElem?_set_ne (by omega)]; exact hy


theorem freshChange_ok {P : Program} {f pu rd ch : FuncId} (hf : Is P f (c_image_freshChange pu rd ch)) (hp : PutT P pu Change.c changeC.enc) (hr : ReadR P rd) (hc : GetT P ch Change.c changeC.dec) : FreshCOk P f := by
  refine ⟨hf.2, fun G h x as hx hok hlen => fun_sound hf.1 (Nat.le_of_ble_eq_true rfl) ?_⟩
  show vc P (c_image_freshChange pu rd ch).code ⟨[(0, .agg as)], [], h⟩ (atEnd (c_image_freshChange pu rd ch).res _)
  have ha : as.length = 17 := by rw [RdL_length hx]; rfl
  have hsc := hx.scalars
  have tk : as.take 17 = as := List.take_of_length_le (by omega)
  have CH : (AV.agg as).cells? = some as := rfl
  simp only [c_image_freshChange, go_sem, reduceIte, Nat.reduceEqDiff, Nat.reduceAdd, Nat.reduceLeDiff, Nat.reducePow, Nat.reduceDiv, Nat.reduceMod, decide_true, ha, hsc, tk]
  generalize hz : (ABlk.arr 17 [[.int .i64 0, .int .i64 0, .int .i64 0, .int .i64 0, .int .i64 0, .int .i64 0, .int .i64 0, .nils, .nils, .nils, .nils, .nils, .int .i64 0, .int .i64 0, .int .i64 0, .int .i64 0, .int .i64 0]] false) = Z
  have A0 := bx21 h (some (.arr 17 [as] false)) (some Z)
  have X0 : Ext nof h (h ++ [some (.arr 17 [as] false)] ++ [some Z]) := Ext.b2 _ _
  have l0 : h.length + 2 = (h ++ [some (ABlk.arr 17 [as] false)] ++ [some Z]).length := by simp
  have hx0 := hx.up X0
  generalize h ++ [some (ABlk.arr 17 [as] false)] ++ [some Z] = H0 at *
  refine use1 hp.1 (hp.2 nof G H0 [] .nils x as (Rd.nils 1) hx0 (by simpa using hlen)) ?_
  simp only [go_sem, reduceIte, Nat.reduceEqDiff, Nat.reduceAdd, Nat.reduceLeDiff, Nat.reducePow, Nat.reduceDiv, Nat.reduceMod, decide_true]
  have hbo : bytesOk (changeC.enc x) := changeC.bytes x hok
  have back := changeC.back x [] hok
  rw [List.append_nil] at back
  generalize hl : changeC.enc x = l at *
  have hb : Rd nof H0 (dBytes l) (abytes l) := rd_abytes _ _ _
  refine wCall_use ⟨hr.1, hr.2 nof H0 l _ hb hbo (by omega)⟩ ?_
  rintro _ h1 ⟨q, rfl, hq, r1, x1⟩
  simp only [go_sem, reduceIte, Nat.reduceEqDiff, Nat.reduceAdd, Nat.reduceLeDiff, Nat.reducePow, Nat.reduceDiv, Nat.reduceMod, decide_true]
  have S1 := src_new r1 (fun m hm => hm.2)
  have lq := r1.lt
  have X1 : Ext nof H0 (h1 ++ [some (.arr 2 [[.ptr q 2 0 0, .bool false]] false)]) := x1.tr (Ext.b1 _)
  have lb : h1.length < (h1 ++ [some (ABlk.arr 2 [[.ptr q 2 0 0, .bool false]] false)]).length := by simp
  generalize h1 ++ [some (ABlk.arr 2 [[.ptr q 2 0 0, .bool false]] false)] = H1 at *
  refine wCall_use ⟨hc.1, hc.2 _ H1 h1.length q _ ⟨false, _, S1, rfl⟩⟩ ?_
  rintro _ H2 ⟨y, bs, rfl, hO, S2, X2, hy⟩
  have lx := x1.1
  have l2 := X2.1
  have A2 : H2[h.length + 1]? = _ := ((X1.trans X2 (F'' := two h1.length q) (fun _ _ x => x.elim) (fun _ _ x => x)).2 _ (by omega) (by simp only [two]; omega)).trans A0
  have hb2 : bs.length = 17 := by rw [OwnL_length hO]; rfl
  have hs2 := hO.scalars
  have sm : ∀ z : List AV, z.length = 17 → setMany z 0 bs = bs := fun z hz => setMany_new (by omega)
  have l3 : h.length + 1 < H2.length := by omega
  subst hz
  have tk2 : bs.take 17 = bs := List.take_of_length_le (by omega)
  simp only [go_sem, reduceIte, Nat.reduceEqDiff, Nat.reduceAdd, Nat.reduceLeDiff, Nat.reducePow, Nat.reduceDiv, Nat.reduceMod, decide_true, A2, l3, hb2, hs2, sm, tk2]
  have ef : Rdr.if_ false (some l) = some l := rfl
  rw [ef, back] at hy
  rw [hy (by simp)] at hO
  exact ⟨_, rfl, OwnL.mono _ (fun m hm => by omega) (fun m hm y hy => by rw [List.getElem?_set_ne (by omega)]; exact hy) _ hO, ((((X0.trans X1 (fun _ _ x => x) (fun _ _ x => x)).trans X2 (F'' := nof) (fun _ _ x => x) (fun m hm hm' => by simp only [two] at hm'; omega)))).put (by omega) _⟩

theorem conf_len {l r : List Int} {x : Conf} (hb : bytesOk l) (h : confC.dec (some l) = (x, some r)) : 8 * x.old.length ≤ l.length ∧ 8 * x.new.length ≤ l.length ∧ 8 * x.learners.length ≤ l.length ∧ l = confC.enc x ++ r ∧ confC.ok x := by
  obtain ⟨e, ok⟩ := confC.only l x r hb h
  have h1 := nums_length x.old
  have h2 := nums_length x.new
  have h3 := nums_length x.learners
  have e2 := congrArg List.length e
  rw [confC_enc] at e2
  simp only [Conf.bytes, List.length_append] at e2
  exact ⟨by omega, by omega, by omega, e, ok⟩

theorem GetConf_ok {P : Program} {f rd co en e0 ck : FuncId} (hf : Is P f (c_image_GetConf rd co en ck)) (hr : ReadR P rd) (hc : GetT P co Conf.c confC.dec) (he : Is P en (c_image_source_end e0)) (he0 : Is P e0 c_pack_Reader_End) (hk : CheckOk P ck) : GetConfOk P f := by
  refine ⟨hf.2, fun G h l b hb hbo hlen => fun_sound hf.1 (Nat.le_of_ble_eq_true rfl) ?_⟩
  show vc P (c_image_GetConf rd co en ck).code ⟨[(0, b)], [], h⟩ (atEnd (c_image_GetConf rd co en ck).res _)
  simp only [c_image_GetConf, go_sem, reduceIte, Nat.reduceEqDiff, Nat.reduceAdd, Nat.reduceLeDiff, Nat.reducePow, Nat.reduceDiv, Nat.reduceMod, decide_true]
  have A0 := bx10 h (some (.arr 3 [[.nils, .nils, .nils]] false))
  have X0 : Ext nof h (h ++ [some (.arr 3 [[.nils, .nils, .nils]] false)]) := Ext.b1 _
  have l0 : h.length + 1 = (h ++ [some (ABlk.arr 3 [[.nils, .nils, .nils]] false)]).length := by simp
  have hb := hb.up X0
  generalize h ++ [some (ABlk.arr 3 [[.nils, .nils, .nils]] false)] = H0 at *
  refine wCall_use ⟨hr.1, hr.2 G H0 l b hb hbo (by omega)⟩ ?_
  rintro _ h1 ⟨q, rfl, hq, r1, x1⟩
  simp only [go_sem, reduceIte, Nat.reduceEqDiff, Nat.reduceAdd, Nat.reduceLeDiff, Nat.reducePow, Nat.reduceDiv, Nat.reduceMod, decide_true]
  have S1 := src_new r1 (fun m hm => hm.2)
  have lq := r1.lt
  have X1 : Ext nof H0 (h1 ++ [some (.arr 2 [[.ptr q 2 0 0, .bool false]] false)]) := x1.tr (Ext.b1 _)
  have lb : h1.length < (h1 ++ [some (ABlk.arr 2 [[.ptr q 2 0 0, .bool false]] false)]).length := by simp
  generalize h1 ++ [some (ABlk.arr 2 [[.ptr q 2 0 0, .bool false]] false)] = H1 at *
  refine wCall_use ⟨hc.1, hc.2 _ H1 h1.length q _ ⟨false, _, S1, rfl⟩⟩ ?_
  rintro _ H2 ⟨y, as, rfl, hO, S2, X2, hy⟩
  obtain ⟨o, n, e, rfl, h1o, h2o, h3o⟩ := own_confL hO
  have lx := x1.1
  have l2 := X2.1
  have A2 : H2[h.length]? = _ := ((X1.trans X2 (F'' := two h1.length q) (fun _ _ x => x.elim) (fun _ _ x => x)).2 _ (by omega) (by simp only [two]; omega)).trans A0
  have XX : Ext nof h (H2 ++ [some (.arr 3 [[o, n, e]] false)]) := ((((X0.trans X1 (fun _ _ x => x) (fun _ _ x => x)).trans X2 (F'' := nof) (fun _ _ x => x) (fun m hm hm' => by simp only [two] at hm'; omega)))).tr (Ext.b1 _)
  simp only [go_sem, reduceIte, Nat.reduceEqDiff, Nat.reduceAdd, Nat.reduceLeDiff, Nat.reducePow, Nat.reduceDiv, Nat.reduceMod, decide_true, h1o.scalar, h2o.scalar, h3o.scalar]
  have S3 := S2.up (Ext.b1 (some (.arr 3 [[o, n, e]] false)))
  have A3 := bx10 H2 (some (.arr 3 [[o, n, e]] false))
  have A4 : (H2 ++ [some (.arr 3 [[o, n, e]] false)])[h.length]? = _ := (old1 (by omega) _).trans A2
  have l3 : H2.length + 1 = (H2 ++ [some (ABlk.arr 3 [[o, n, e]] false)]).length := by simp
  have hO3 : OwnL y.c (fun m => h.length ≤ m ∧ m ≠ h.length) (H2 ++ [some (.arr 3 [[o, n, e]] false)]) [o, n, e] := OwnL.mono _ (fun m hm => by omega) ((Ext.b1 _).keep _) _ hO
  generalize H2 ++ [some (ABlk.arr 3 [[o, n, e]] false)] = H3 at *
  have ef : Rdr.if_ false (some l) = some l := rfl
  rw [ef] at hy S3
  simp only [getConf]
  have few : confC.dec (some l) = ((confC.dec (some l)).1, some []) → (confC.dec (some l)).1.few (2^38) := fun hh => by obtain ⟨n1, n2, n3, -⟩ := conf_len hbo hh; exact ⟨by omega, by omega, by omega⟩
  generalize confC.dec (some l) = R at *
  refine use1 he.2 (end_ok he he0 S3) ?_
  have l4 : h.length < H3.length := by omega
  have fin : ∀ (d w z : AV) (x : Conf), OwnL x.c (fun m => h.length ≤ m ∧ m ≠ h.length) H3 [d, w, z] → OwnL x.c (fun m => h.length ≤ m) (H3.set h.length (some (.arr 3 [[d, w, z]] false))) [d, w, z] ∧ Ext nof h (H3.set h.length (some (.arr 3 [[d, w, z]] false))) := by
    intro d w z x o1
    exact ⟨OwnL.mono _ (fun m hm => hm.1) (fun m hm y hy => by rw [List.getElem?_set_ne (by omega)]; exact hy) _ o1, XX.put (by omega) _⟩
  have none' := fin .nils .nils .nils ⟨[], [], []⟩ ⟨_, _, rfl, Own.nils _, _, _, rfl, Own.nils _, _, _, rfl, Own.nils _, rfl⟩
  simp only [go_sem, reduceIte, Nat.reduceEqDiff, Nat.reduceAdd, Nat.reduceLeDiff, Nat.reducePow, Nat.reduceDiv, Nat.reduceMod, decide_true]
  by_cases c : R.2.end_ = 0
  · have es := Rdr.end_zero c
    have ey := hy (by rw [es]; simp)
    subst ey
    have fw := few (by rw [← es])
    have R3 : RdL (fun _ => True) H3 R.1.c [o, n, e] := OwnL.rd _ (fun _ _ => trivial) _ hO3
    have c' : ¬ R.2.end_ ≠ 0 := by simpa using c
    rw [if_neg c']
    simp only [go_sem, reduceIte, Nat.reduceEqDiff, Nat.reduceAdd, Nat.reduceLeDiff, Nat.reducePow, Nat.reduceDiv, Nat.reduceMod, decide_true, c, A3]
    refine use1 hk.1 (hk.2 _ H3 R.1 _ R3 fw) ?_
    cases cr : R.1.right with
    | true =>
      simp only [go_sem, reduceIte, Nat.reduceEqDiff, Nat.reduceAdd, Nat.reduceLeDiff, Nat.reducePow, Nat.reduceDiv, Nat.reduceMod, decide_true, A3, A4, l4, h1o.scalar, h2o.scalar, h3o.scalar]
      exact ⟨_, rfl, fin o n e _ hO3⟩
    | false =>
      have n29 : decide ((29 : Int) = 0) = false := rfl
      simp only [go_sem, reduceIte, Nat.reduceEqDiff, Nat.reduceAdd, Nat.reduceLeDiff, Nat.reducePow, Nat.reduceDiv, Nat.reduceMod, decide_true, n29, A3, A4, l4]
      exact ⟨_, rfl, none'⟩
  · have c' : R.2.end_ ≠ 0 := c
    rw [if_pos c']
    simp only [go_sem, reduceIte, Nat.reduceEqDiff, Nat.reduceAdd, Nat.reduceLeDiff, Nat.reducePow, Nat.reduceDiv, Nat.reduceMod, decide_true, decide_eq_false c, decide_eq_true c', A4, l4]
    exact ⟨_, rfl, none'⟩

end Glb
