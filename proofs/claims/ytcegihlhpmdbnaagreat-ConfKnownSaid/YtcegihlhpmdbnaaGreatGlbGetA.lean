/-
  A library of its own: its parts, one behind the other.
-/
import Derived.Test.YtcegihlhpmdbnaaGreatGlbTurA
import Derived.Test.YtcegihlhpmdbnaaGreatGlbImgB
import Derived.Test.YtcegihlhpmdbnaaGreatGlbImgD
set_option linter.unusedSimpArgs false
set_option linter.unusedVariables false
/-
  The document's reader of logs, members and votes.
-/
namespace Glb
open Go
set_option maxRecDepth 10000
set_option maxHeartbeats 16000000

theorem own_upto {F : Nat → Prop} {h : AHeap} {sz : Nat} {ds : List (List D)} {a : AV} {k : Nat} (ho : Own (.sl sz ds) F h a) (hF : ∀ m, F m → m < k) : a.upto k = true := by
  simp only [Own] at ho
  rcases ho with ⟨rfl, -⟩ | ⟨t, c, rfl, -⟩ | ⟨n, off, cap, row, g, rfl, hn, -⟩
  · rfl
  · simp [AV.upto, AV.uptoLL]
  · simp only [AV.upto]; simp [hF n hn]

/-- what a call hands out stays; only the reader's box is another one -/
theorem RRS.freeze {P : Program} {f : FuncId} {avs : List AV} {F : Nat → Prop} {h : AHeap} {q : Nat} {st0 st : Rdr} {K : AV → AHeap → Prop} {K' : AV → Prop} (hr : RRS F h q st0) (hq : ¬ F q) (hF : ∀ m, F m → m < h.length)
    (hc : ACalls P f avs h K) (hk : ∀ r h', K r h' → RRS F h' q st ∧ Ext (only q) h h' ∧ ∃ r', Frz h.length h' r r' ∧ K' r') :
    ACalls P f avs h fun r h' => K' r ∧ RRS F h' q st ∧ Ext (only q) h h' ∧ h'.length = h.length := by
  refine ACalls.freezeH hc fun r h' hK => ?_
  obtain ⟨hs, hx, r', hfr, hK'⟩ := hk r h' hK
  obtain ⟨b, p, all, h1, h2, h3, h4, h5, h6⟩ := hs
  have hlt := hr.lt
  obtain ⟨b0, p0, all0, g1, -⟩ := hr
  refine ⟨r', h.set q (some (.arr 3 [[b, .int .i64 p, .bool st.isNone]] false)), ⟨hx.1, List.length_set, fun m hm => ?_⟩, hfr, hK', ⟨b, p, all, List.getElem?_set_self hlt, ?_, h3, h4, h5, h6⟩, Ext.set _ (fun _ => rfl), List.length_set⟩
  · by_cases e : m = q
    · subst e
      refine .inr ⟨_, _, _, _, _, _, _, g1, h1, List.getElem?_set_self hm, ?_, rfl, fun i j c' hc' => ⟨c', hc', Frz.upto ?_⟩⟩
      · intro e he
        simp only [List.mem_singleton] at he
        subst he
        exact ⟨rfl, by simp only [List.all_cons, List.all_nil, h2.scalar, scalar_int, scalar_bool]; rfl⟩
      · have bu := own_upto h2 hF
        cases i with
        | zero =>
          match j with
          | 0 => simp [getc] at hc'; subst hc'; exact bu
          | 1 => simp [getc] at hc'; subst hc'; rfl
          | 2 => simp [getc] at hc'; subst hc'; rfl
          | j + 3 => simp [getc] at hc'
        | succ i => simp [getc] at hc'
    · exact .inl ⟨hx.2 m hm e, List.getElem?_set_ne (fun x => e x.symm)⟩
  · refine Own.mono _ (fun _ x => x) (fun m hm y hy => ?_) _ h2
    have e : m ≠ q := fun e => hq (e ▸ hm)
    rw [List.getElem?_set_ne (fun x => e x.symm), ← hx.2 m (hF m hm) e]; exact hy

/-- readers whose results stay -/
def RP (P : Program) (f : FuncId) (K' : Rdr → AV → Prop) (nx : Rdr → Rdr) : Prop := isFn P f = true ∧ ∀ (F : Nat → Prop) (h : AHeap) (q : Nat) (st : Rdr), RRS F h q st → ¬ F q → (∀ m, F m → m < h.length) →
  ACalls P f [.ptr q 3 0 0] h fun r h' => K' st r ∧ RRS F h' q (nx st) ∧ Ext (only q) h h' ∧ h'.length = h.length
theorem IntsRR.p {P : Program} {f : FuncId} (hc : IntsRR P f) : RP P f (fun st r => r = aints (rList rInt st).1) (fun st => (rList rInt st).2) :=
  ⟨hc.1, fun F h q st hr hq hF => RRS.freeze (K' := fun r => r = aints (rList rInt st).1) hr hq hF (hc.2 F h q st hr hq) fun _ _ ⟨h1, h2, h3⟩ => ⟨h2, h3, _, Frz.d (Own.fz (dInts _) (fun _ x => x) _ h1), rfl⟩⟩
/-- of a shape: what is read, where it is not bad -/
def GetRR {T : Type} (P : Program) (f : FuncId) (c : T → List D) (dec : Rdr → T × Rdr) : Prop := RP P f (fun st r => ∃ x, r = .agg (D.avL (c x)) ∧ ((dec st).2 ≠ none → x = (dec st).1)) (fun st => (dec st).2)

theorem getConf_rr {P : Program} {f g : FuncId} (hf : Is P f (c_gleberef13_getConf g)) (hg : IntsRR P g) : GetRR P f Conf.c confC.dec := by
  refine ⟨hf.2, fun F h q st hr hq hF => ?_⟩
  have gp := hg.p
  refine RRS.freeze (K := fun r h' => r = .agg (confC.dec st).1.v ∧ RRS F h' q (confC.dec st).2 ∧ Ext (only q) h h') (K' := fun r => ∃ x, r = .agg (D.avL (Conf.c x)) ∧ ((confC.dec st).2 ≠ none → x = (confC.dec st).1)) hr hq hF (fun_sound hf.1 (Nat.le_of_ble_eq_true rfl) ?_) fun r h' ⟨h1, h2, h3⟩ => ⟨h2, h3, r, ?_, _, h1, fun _ => rfl⟩
  rotate_left
  · rw [h1]; exact Frz.aggD (fzL_self _ _ _)
  show vc P (c_gleberef13_getConf g).code ⟨[(0, .ptr q 3 0 0)], [], h⟩ (atEnd (c_gleberef13_getConf g).res _)
  have ed : confC.dec st = (⟨(rList rInt st).1, (rList rInt (rList rInt st).2).1, (rList rInt (rList rInt (rList rInt st).2).2).1⟩, (rList rInt (rList rInt (rList rInt st).2).2).2) := rfl
  rw [ed]
  have lq := hr.lt
  simp only [c_gleberef13_getConf, go_sem, reduceIte, Nat.reduceEqDiff, Nat.reduceAdd, Nat.reduceLeDiff, Nat.reducePow, Nat.reduceDiv, Nat.reduceMod, decide_true]
  have Z := Ext.b1 (h := h) (some (.arr 3 [[.nils, .nils, .nils]] false))
  have r0 := hr.up Z
  have B0 := bx10 h (some (.arr 3 [[.nils, .nils, .nils]] false))
  have hl : (h ++ [some (ABlk.arr 3 [[.nils, .nils, .nils]] false)]).length = h.length + 1 := by simp
  generalize h ++ [some (ABlk.arr 3 [[.nils, .nils, .nils]] false)] = H at *
  have hF0 : ∀ m, F m → m < H.length := fun m hm => by have := hF m hm; omega
  refine wCall_use ⟨gp.1, gp.2 F H q st r0 hq hF0⟩ ?_
  rintro _ h1 ⟨rfl, r1, x1, l1⟩
  change RRS F h1 q (rList rInt st).2 at r1
  have C0 := (x1.2 h.length (by omega) (by simp only [only]; omega)).trans B0
  have X1 : Ext (only q) h h1 := Z.trans x1 (F'' := only q) (fun _ _ x => x.elim) (fun _ _ x => x)
  generalize (rList rInt st).1 = a1 at *
  generalize (rList rInt st).2 = s1 at *
  simp only [go_sem, reduceIte, Nat.reduceEqDiff, Nat.reduceAdd, Nat.reduceLeDiff, Nat.reducePow, Nat.reduceDiv, Nat.reduceMod, decide_true, scalar_aints]
  have ZA := Ext.b1 (h := h1) (some (.arr 3 [[aints a1, .nils, .nils]] false))
  have r1 := r1.up ZA
  have C0 := ZA.get C0
  have A1 := bx10 h1 (some (.arr 3 [[aints a1, .nils, .nils]] false))
  have X1 := X1.trans ZA (F'' := only q) (fun _ _ x => x) (fun _ _ x => x.elim)
  have hl1 : (h1 ++ [some (ABlk.arr 3 [[aints a1, .nils, .nils]] false)]).length = h1.length + 1 := by simp
  have nn : h1.length = h.length + 1 := by omega
  generalize h1 ++ [some (ABlk.arr 3 [[aints a1, .nils, .nils]] false)] = H1 at *
  refine wCall_use ⟨gp.1, gp.2 F H1 q s1 r1 hq (fun m hm => by have := hF m hm; omega)⟩ ?_
  rintro _ h2 ⟨rfl, r2, x2, l2⟩
  change RRS F h2 q (rList rInt s1).2 at r2
  have C0 := (x2.2 h.length (by omega) (by simp only [only]; omega)).trans C0
  have A2 := (x2.2 h1.length (by omega) (by simp only [only]; omega)).trans A1
  have X1 := X1.trans x2 (fun _ _ x => x) (fun _ _ x => x)
  generalize (rList rInt s1).1 = a2 at *
  generalize (rList rInt s1).2 = s2 at *
  have lt2 := (List.getElem?_eq_some_iff.1 A2).1
  simp only [go_sem, reduceIte, Nat.reduceEqDiff, Nat.reduceAdd, Nat.reduceLeDiff, Nat.reducePow, Nat.reduceDiv, Nat.reduceMod, decide_true, A2, lt2, scalar_aints, cells_aints]
  have r2 := r2.keep (h' := h2.set h1.length (some (.arr 3 [[aints a1, aints a2, .nils]] false))) (List.getElem?_set_ne (by omega)) (fun m hm y hy => by have := hF m hm; rw [List.getElem?_set_ne (by omega)]; exact hy)
  have C0 := (List.getElem?_set_ne (l := h2) (i := h1.length) (a := some (.arr 3 [[aints a1, aints a2, .nils]] false)) (by omega)).trans C0
  have A2 := List.getElem?_set_self (l := h2) (a := some (ABlk.arr 3 [[aints a1, aints a2, .nils]] false)) lt2
  have X1 := X1.put (n := h1.length) (by omega) (some (.arr 3 [[aints a1, aints a2, .nils]] false))
  have hl2 : (h2.set h1.length (some (ABlk.arr 3 [[aints a1, aints a2, .nils]] false))).length = h2.length := List.length_set
  generalize h2.set h1.length (some (ABlk.arr 3 [[aints a1, aints a2, .nils]] false)) = H2 at *
  refine wCall_use ⟨gp.1, gp.2 F H2 q s2 r2 hq (fun m hm => by have := hF m hm; omega)⟩ ?_
  rintro _ h3 ⟨rfl, r3, x3, l3⟩
  change RRS F h3 q (rList rInt s2).2 at r3
  have C0 := (x3.2 h.length (by omega) (by simp only [only]; omega)).trans C0
  have A3 := (x3.2 h1.length (by omega) (by simp only [only]; omega)).trans A2
  have X1 := X1.trans x3 (fun _ _ x => x) (fun _ _ x => x)
  generalize (rList rInt s2).1 = a3 at *
  generalize (rList rInt s2).2 = s3 at *
  have lt3 := (List.getElem?_eq_some_iff.1 A3).1
  have lt0 := (List.getElem?_eq_some_iff.1 C0).1
  have n10 : (h1.length = h.length) = False := eq_false (by omega)
  simp only [go_sem, reduceIte, Nat.reduceEqDiff, Nat.reduceAdd, Nat.reduceLeDiff, Nat.reducePow, Nat.reduceDiv, Nat.reduceMod, decide_true, A3, lt3, n10, C0, lt0, List.length_set, scalar_aints, cells_aints]
  refine ⟨by rw [Conf.v_eq], ?_, (X1.put (by omega) _).put (by omega) _⟩
  exact (r3.keep (List.getElem?_set_ne (by omega)) (fun m hm y hy => by have := hF m hm; rw [List.getElem?_set_ne (by omega)]; exact hy)).keep (List.getElem?_set_ne (by omega)) (fun m hm y hy => by have := hF m hm; rw [List.getElem?_set_ne (by omega)]; exact hy)

end Glb

/-
  The document's reader of logs.
-/
namespace Glb
open Go
set_option maxRecDepth 10000
set_option maxHeartbeats 16000000

end Glb

/-
  The document's Get.
-/
namespace Glb
open Go
set_option maxRecDepth 10000
set_option maxHeartbeats 16000000

end Glb

/-
  The document's GetChanges.
-/
namespace Glb
open Go
set_option maxRecDepth 10000
set_option maxHeartbeats 16000000

end Glb

/-
  The document's GetConf.
-/
namespace Glb
open Go
set_option maxRecDepth 10000
set_option maxHeartbeats 16000000

def GetConfP (P : Program) (f : FuncId) : Prop := isFn P f = true ∧ ∀ (G : Nat → Prop) (h : AHeap) (l : List Int) (b : AV), Rd G h (dBytes l) b → bytesOk l → l.length ≤ 2^37 →
  ACalls P f [b] h fun r h' => r = .tup [.agg (getConf l).1.v, .int .i64 (getConf l).2] ∧ h' = h

theorem r_GetConf_ok {P : Program} {f rd co en e0 ck : FuncId} (hf : Is P f (c_gleberef13_GetConf rd co en ck)) (hrd : ReadRR P rd) (cp : GetRR P co Conf.c confC.dec)
    (hen : Is P en (c_gleberef02_Reader_End e0)) (he0 : LeftRR P e0) (hk : CheckOk P ck) : GetConfP P f := by
  refine ⟨hf.2, fun G h l b hb hbo hlen => ?_⟩
  refine ACalls.freeze (K := fun r h' => ∃ zs, r = .tup [.agg zs, .int .i64 (getConf l).2] ∧ FzL h.length h' (getConf l).1.c zs ∧ Ext nof h h') (fun_sound hf.1 (Nat.le_of_ble_eq_true rfl) ?_) (fun _ _ ⟨_, e, hz, hx⟩ => ⟨hx, _, e ▸ Frz.tup2 (Frz.aggD hz) (Frz.int _ _), rfl⟩)
  show vc P (c_gleberef13_GetConf rd co en ck).code ⟨[(0, b)], [], h⟩ (atEnd (c_gleberef13_GetConf rd co en ck).res _)
  simp only [c_gleberef13_GetConf, go_sem, reduceIte, Nat.reduceEqDiff, Nat.reduceAdd, Nat.reduceLeDiff, Nat.reducePow, Nat.reduceDiv, Nat.reduceMod, decide_true]
  have Z := Ext.b1 (h := h) (some (.arr 3 [[.nils, .nils, .nils]] false))
  have B0 := bx10 h (some (.arr 3 [[.nils, .nils, .nils]] false))
  have hb := hb.up Z
  have hl : (h ++ [some (ABlk.arr 3 [[.nils, .nils, .nils]] false)]).length = h.length + 1 := by simp
  generalize h ++ [some (ABlk.arr 3 [[.nils, .nils, .nils]] false)] = H at *
  refine wCall_use ⟨hrd.1, hrd.2 G H l b hb hbo (by omega)⟩ ?_
  rintro _ h1 ⟨rfl, r1, x1⟩
  have r1 := r1.under
  have C0 := x1.get B0
  have X1 := Z.tr x1
  obtain ⟨q, hqd⟩ : ∃ q, H.length = q := ⟨_, rfl⟩
  rw [hqd] at r1 ⊢
  have lq1 := r1.lt
  obtain ⟨F, hFd⟩ : ∃ F : Nat → Prop, F = fun m => q + 1 ≤ m ∧ m < h1.length := ⟨_, rfl⟩
  have hq : ¬ F q := by rw [hFd]; intro hh; have := hh.1; omega
  rw [← hFd] at r1
  have hF : ∀ m, F m → m < h1.length := fun m hm => by rw [hFd] at hm; exact hm.2
  have hF2 : ∀ m, F m → h.length + 2 ≤ m := fun m hm => by rw [hFd] at hm; have := hm.1; omega
  clear hFd
  simp only [go_sem, reduceIte, Nat.reduceEqDiff, Nat.reduceAdd, Nat.reduceLeDiff, Nat.reducePow, Nat.reduceDiv, Nat.reduceMod, decide_true]
  refine wCall_use ⟨cp.1, cp.2 F h1 q (some l) r1 hq hF⟩ ?_
  rintro _ h3 ⟨⟨t, rfl, d⟩, r3, x3, l3⟩
  change RRS F h3 q (confC.dec (some l)).2 at r3
  have C0 := (x3.2 h.length (by omega) (by simp only [only]; omega)).trans C0
  have X1 := X1.trans x3 (F'' := nof) (fun _ _ x => x) (fun m hm hm' => by simp only [only] at hm'; omega)
  have vq : D.avL (Conf.c t) = [aints t.old, aints t.new, aints t.learners] := Conf.v_eq t
  simp only [vq, go_sem, reduceIte, Nat.reduceEqDiff, Nat.reduceAdd, Nat.reduceLeDiff, Nat.reducePow, Nat.reduceDiv, Nat.reduceMod, decide_true, scalar_aints]
  have ZA := Ext.b1 (h := h3) (some (.arr 3 [[aints t.old, aints t.new, aints t.learners]] false))
  have r3 := r3.up ZA
  have C0 := ZA.get C0
  have A1 := bx10 h3 (some (.arr 3 [[aints t.old, aints t.new, aints t.learners]] false))
  have X1 := X1.tr ZA
  have hl1 : (h3 ++ [some (ABlk.arr 3 [[aints t.old, aints t.new, aints t.learners]] false)]).length = h3.length + 1 := by simp
  generalize h3 ++ [some (ABlk.arr 3 [[aints t.old, aints t.new, aints t.learners]] false)] = H1 at *
  refine wCall_use ⟨hen.2, End_rr hen he0 r3⟩ ?_
  rintro _ h9 ⟨rfl, rfl⟩
  have lt9 : h.length < h9.length := by omega
  have few : confC.dec (some l) = ((confC.dec (some l)).1, some []) → (confC.dec (some l)).1.few (2^38) := fun hh => by obtain ⟨n1, n2, n3, -⟩ := conf_len hbo hh; exact ⟨by omega, by omega, by omega⟩
  simp only [getConf, go_sem, reduceIte, Nat.reduceEqDiff, Nat.reduceAdd, Nat.reduceLeDiff, Nat.reducePow, Nat.reduceDiv, Nat.reduceMod, decide_true]
  generalize confC.dec (some l) = R at *
  by_cases c : R.2.end_ = 0
  · have es := Rdr.end_zero c
    have fw := few (by rw [← es])
    obtain rfl := d (by rw [es]; simp)
    have c' : ¬ R.2.end_ ≠ 0 := by simpa using c
    rw [if_neg c']
    simp only [go_sem, reduceIte, Nat.reduceEqDiff, Nat.reduceAdd, Nat.reduceLeDiff, Nat.reducePow, Nat.reduceDiv, Nat.reduceMod, decide_true, c, A1]
    refine wCall_use ⟨hk.1, hk.2 (fun _ => True) h9 R.1 _ (by rw [← Conf.v_eq]; exact rdL_av _ _ _) fw⟩ ?_
    rintro _ h9 ⟨rfl, rfl⟩
    cases cr : R.1.right with
    | true =>
      simp only [go_sem, reduceIte, Nat.reduceEqDiff, Nat.reduceAdd, Nat.reduceLeDiff, Nat.reducePow, Nat.reduceDiv, Nat.reduceMod, decide_true, A1, C0, lt9, scalar_aints]
      exact ⟨_, rfl, by rw [← Conf.v_eq]; exact fzL_self _ _ _, X1.put (by omega) _⟩
    | false =>
      have n29 : decide ((29 : Int) = 0) = false := rfl
      simp only [go_sem, reduceIte, Nat.reduceEqDiff, Nat.reduceAdd, Nat.reduceLeDiff, Nat.reducePow, Nat.reduceDiv, Nat.reduceMod, decide_true, n29, A1, C0, lt9]
      exact ⟨_, rfl, ⟨_, _, rfl, OwnO.fz (.inl ⟨rfl, rfl⟩) (Nat.le_refl _), _, _, rfl, OwnO.fz (.inl ⟨rfl, rfl⟩) (Nat.le_refl _), _, _, rfl, OwnO.fz (.inl ⟨rfl, rfl⟩) (Nat.le_refl _), rfl⟩, X1.put (by omega) _⟩
  · have c' : R.2.end_ ≠ 0 := c
    rw [if_pos c']
    simp only [go_sem, reduceIte, Nat.reduceEqDiff, Nat.reduceAdd, Nat.reduceLeDiff, Nat.reducePow, Nat.reduceDiv, Nat.reduceMod, decide_true, decide_eq_false c, C0, lt9]
    exact ⟨_, rfl, ⟨_, _, rfl, OwnO.fz (.inl ⟨rfl, rfl⟩) (Nat.le_refl _), _, _, rfl, OwnO.fz (.inl ⟨rfl, rfl⟩) (Nat.le_refl _), _, _, rfl, OwnO.fz (.inl ⟨rfl, rfl⟩) (Nat.le_refl _), rfl⟩, X1.put (by omega) _⟩

end Glb
