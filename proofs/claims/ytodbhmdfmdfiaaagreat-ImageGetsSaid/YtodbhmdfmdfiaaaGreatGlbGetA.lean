/-
  A library of its own: its parts, one behind the other.
-/
import Derived.Test.YtodbhmdfmdfiaaaGreatGlbTurA
import Derived.Test.YtodbhmdfmdfiaaaGreatGlbImgB
import Derived.Test.YtodbhmdfmdfiaaaGreatGlbImgD
import Derived.Test.YtodbhmdfmdfiaaaGreatGlbQuoA
import Derived.Test.YtodbhmdfmdfiaaaGreatGlbCkit2
import Derived.Test.YtodbhmdfmdfiaaaGreatGlbImgX
set_option linter.unusedSimpArgs false
set_option linter.unusedVariables false
/-
  The document's reader of logs, members and votes.
-/
namespace Glb
open Go
set_option maxRecDepth 10000
set_option maxHeartbeats 16000000

theorem own_upto {F : Nat → Prop} {h : AHeap} {sz : Nat} {ds : List (List D)} {a : AV} {k : Nat} (ho : Own (.sl sz ds) F h a) (hF : ∀ m, F m → m < k) : a.upto k = true := by
  simp only [Own] at ho
  rcases ho with ⟨rfl, -⟩ | ⟨t, c, rfl, -⟩ | ⟨n, off, cap, row, g, rfl, hn, -⟩
  · rfl
  · simp [AV.upto, AV.uptoLL]
  · simp only [AV.upto]; simp [hF n hn]

/-- what a call hands out stays; only the reader's box is another one -/
theorem RRS.freeze {P : Program} {f : FuncId} {avs : List AV} {F : Nat → Prop} {h : AHeap} {q : Nat} {st0 st : Rdr} {K : AV → AHeap → Prop} {K' : AV → Prop} (hr : RRS F h q st0) (hq : ¬ F q) (hF : ∀ m, F m → m < h.length)
    (hc : ACalls P f avs h K) (hk : ∀ r h', K r h' → RRS F h' q st ∧ Ext (only q) h h' ∧ ∃ r', Frz h.length h' r r' ∧ K' r') :
    ACalls P f avs h fun r h' => K' r ∧ RRS F h' q st ∧ Ext (only q) h h' ∧ h'.length = h.length := by
  refine ACalls.freezeH hc fun r h' hK => ?_
  obtain ⟨hs, hx, r', hfr, hK'⟩ := hk r h' hK
  obtain ⟨b, p, all, h1, h2, h3, h4, h5, h6⟩ := hs
  have hlt := hr.lt
  obtain ⟨b0, p0, all0, g1, -⟩ := hr
  refine ⟨r', h.set q (some (.arr 3 [[b, .int .i64 p, .bool st.isNone]] false)), ⟨hx.1, List.length_set, fun m hm => ?_⟩, hfr, hK', ⟨b, p, all, List.getElem?_set_self hlt, ?_, h3, h4, h5, h6⟩, Ext.set _ (fun _ => rfl), List.length_set⟩
  · by_cases e : m = q
    · subst e
      refine .inr ⟨_, _, _, _, _, _, _, g1, h1, List.getElem?_set_self hm, ?_, rfl, fun i j c' hc' => ⟨c', hc', Frz.upto ?_⟩⟩
      · intro e he
        simp only [List.mem_singleton] at he
        subst he
        exact ⟨rfl, by simp only [List.all_cons, List.all_nil, h2.scalar, scalar_int, scalar_bool]; rfl⟩
      · have bu := own_upto h2 hF
        cases i with
        | zero =>
          match j with
          | 0 => simp [getc] at hc'; subst hc'; exact bu
          | 1 => simp [getc] at hc'; subst hc'; rfl
          | 2 => simp [getc] at hc'; subst hc'; rfl
          | j + 3 => simp [getc] at hc'
        | succ i => simp [getc] at hc'
    · exact .inl ⟨hx.2 m hm e, List.getElem?_set_ne (fun x => e x.symm)⟩
  · refine Own.mono _ (fun _ x => x) (fun m hm y hy => ?_) _ h2
    have e : m ≠ q := fun e => hq (e ▸ hm)
    rw [List.getElem?_set_ne (fun x => e x.symm), ← hx.2 m (hF m hm) e]; exact hy

/-- readers whose results stay -/
def RP (P : Program) (f : FuncId) (K' : Rdr → AV → Prop) (nx : Rdr → Rdr) : Prop := isFn P f = true ∧ ∀ (F : Nat → Prop) (h : AHeap) (q : Nat) (st : Rdr), RRS F h q st → ¬ F q → (∀ m, F m → m < h.length) →
  ACalls P f [.ptr q 3 0 0] h fun r h' => K' st r ∧ RRS F h' q (nx st) ∧ Ext (only q) h h' ∧ h'.length = h.length
theorem IntRR.p {P : Program} {f : FuncId} (hc : IntRR P f) : RP P f (fun st r => r = .int .i64 (rInt st).1) (fun st => (rInt st).2) :=
  ⟨hc.1, fun F h q st hr hq hF => RRS.freeze (K' := fun r => r = .int .i64 (rInt st).1) hr hq hF (hc.2 F h q st hr hq) fun _ _ ⟨h1, h2, h3⟩ => ⟨h2, h3, .int .i64 (rInt st).1, by rw [h1]; exact Frz.int _ _, rfl⟩⟩
theorem BlobRR.p {P : Program} {f : FuncId} (hc : BlobRR P f) : RP P f (fun st r => r = abytes (rBlob st).1) (fun st => (rBlob st).2) :=
  ⟨hc.1, fun F h q st hr hq hF => RRS.freeze (K' := fun r => r = abytes (rBlob st).1) hr hq hF (hc.2 F h q st hr hq) fun _ _ ⟨h1, h2, h3⟩ => ⟨h2, h3, _, Frz.d (Own.fz (dBytes _) (fun _ x => x) _ h1), rfl⟩⟩
theorem IntsRR.p {P : Program} {f : FuncId} (hc : IntsRR P f) : RP P f (fun st r => r = aints (rList rInt st).1) (fun st => (rList rInt st).2) :=
  ⟨hc.1, fun F h q st hr hq hF => RRS.freeze (K' := fun r => r = aints (rList rInt st).1) hr hq hF (hc.2 F h q st hr hq) fun _ _ ⟨h1, h2, h3⟩ => ⟨h2, h3, _, Frz.d (Own.fz (dInts _) (fun _ x => x) _ h1), rfl⟩⟩
/-- of a shape: what is read, where it is not bad -/
def GetRR {T : Type} (P : Program) (f : FuncId) (c : T → List D) (dec : Rdr → T × Rdr) : Prop := RP P f (fun st r => ∃ x, r = .agg (D.avL (c x)) ∧ ((dec st).2 ≠ none → x = (dec st).1)) (fun st => (dec st).2)

theorem many_rr {P : Program} {f g k : FuncId} (hf : Is P f (c_gleberef13_many g k)) (hg : IntRR P g) (hk : LeftRR P k) : RP P f (fun st r => r = .int .i64 (rMany st).1) (fun st => (rMany st).2) := by
  refine ⟨hf.2, fun F h q st hr hq hF => ?_⟩
  refine RRS.freeze (K := fun r h' => r = .int .i64 (rMany st).1 ∧ RRS F h' q (rMany st).2 ∧ Ext (only q) h h') (K' := fun r => r = .int .i64 (rMany st).1) hr hq hF (fun_sound hf.1 (Nat.le_of_ble_eq_true rfl) ?_) fun _ _ ⟨h1, h2, h3⟩ => ⟨h2, h3, .int .i64 (rMany st).1, by rw [h1]; exact Frz.int _ _, rfl⟩
  show vc P (c_gleberef13_many g k).code ⟨[(0, .ptr q 3 0 0)], [], h⟩ (atEnd (c_gleberef13_many g k).res _)
  simp only [c_gleberef13_many, go_sem, reduceIte, Nat.reduceEqDiff, Nat.reduceAdd, Nat.reduceLeDiff, Nat.reducePow, Nat.reduceDiv, Nat.reduceMod, decide_true]
  have gp := hg.p
  refine wCall_use ⟨gp.1, gp.2 F h q st hr hq hF⟩ ?_
  rintro _ h1 ⟨rfl, r1, x1, l1⟩
  have hF1 : ∀ m, F m → m < h1.length := fun m hm => by rw [l1]; exact hF m hm
  change RRS F h1 q (rInt st).2 at r1
  have em : rMany st = (match rInt st with | (_, none) => ((0 : Int), (none : Rdr)) | (n, some l) => if n < 0 ∨ (l.length / 8 : Nat) < n then (0, none) else (n, some l)) := rfl
  have e0 : (rInt st).2 = none → (rInt st).1 = 0 := by
    intro e
    cases st with
    | none => rfl
    | some l => simp only [rInt] at e ⊢; split at e <;> rename_i q <;> simp [q] at e ⊢
  generalize rInt st = S at *
  obtain ⟨n, s1⟩ := S
  simp only at r1 e0 ⊢
  have bad : rMany st = (0, none) → ∀ H, RRS F H q s1 → Ext (only q) h H → ∀ (b : AV) (p : Nat) (all : List Int), H[q]? = some (some (.arr 3 [[b, .int .i64 p, .bool s1.isNone]] false)) → Own (dBytes all) F H b → p ≤ all.length → bytesOk all → all.length ≤ 2^40 →
      (AV.int .i64 0 = .int .i64 (rMany st).1 ∧ RRS F (H.set q (some (.arr 3 [[b, .int .i64 p, .bool true]] false))) q (rMany st).2 ∧ Ext (only q) h (H.set q (some (.arr 3 [[b, .int .i64 p, .bool true]] false)))) := by
    intro e H r x b p all g1 g2 g3 g5 g6
    rw [e]
    refine ⟨rfl, ⟨b, p, all, List.getElem?_set_self (List.getElem?_eq_some_iff.1 g1).1, own_off g2 hq _, g3, .inl rfl, g5, g6⟩, x.trans (Ext.set (F := only q) _ (fun _ => rfl)) (fun _ _ x => x) (fun _ _ x => x)⟩
  have r1' := r1
  obtain ⟨b, p, all, g1, g2, g3, g4, g5, g6⟩ := r1'
  have lq := (List.getElem?_eq_some_iff.1 g1).1
  by_cases c1 : n < 0
  · simp only [go_sem, reduceIte, Nat.reduceEqDiff, Nat.reduceAdd, Nat.reduceLeDiff, Nat.reducePow, Nat.reduceDiv, Nat.reduceMod, decide_true, decide_eq_true c1, g1, lq]
    refine bad ?_ h1 r1 x1 b p all g1 g2 g3 g5 g6
    rw [em]
    cases s1 with
    | none => rfl
    | some l => simp [c1]
  · simp only [go_sem, reduceIte, Nat.reduceEqDiff, Nat.reduceAdd, Nat.reduceLeDiff, Nat.reducePow, Nat.reduceDiv, Nat.reduceMod, decide_true, decide_eq_false c1]
    refine use1 hk.1 (hk.2 F h1 q s1 r1) ?_
    have hsm := r1.small.1
    have q8 : ∀ x : Int, abin .quo (.int .i64 x) (.int .i64 8) = some (.int .i64 (IntKind.i64.wrap (x.tdiv 8))) := fun _ => rfl
    have eq8 : IntKind.i64.wrap ((s1.all.length : Int).tdiv 8) = ((s1.all.length / 8 : Nat) : Int) := by
      rw [Int.tdiv_eq_ediv_of_nonneg (by omega), wrap_i64 (by omega)]; omega
    by_cases c2 : ((s1.all.length / 8 : Nat) : Int) < n
    · simp only [go_sem, reduceIte, Nat.reduceEqDiff, Nat.reduceAdd, Nat.reduceLeDiff, Nat.reducePow, Nat.reduceDiv, Nat.reduceMod, decide_true, q8, eq8, decide_eq_true c2, g1, lq]
      refine bad ?_ h1 r1 x1 b p all g1 g2 g3 g5 g6
      rw [em]
      cases s1 with
      | none => rfl
      | some l => simp only; rw [if_pos (.inr c2)]
    · simp only [go_sem, reduceIte, Nat.reduceEqDiff, Nat.reduceAdd, Nat.reduceLeDiff, Nat.reducePow, Nat.reduceDiv, Nat.reduceMod, decide_true, q8, eq8, decide_eq_false c2]
      rw [em]
      cases s1 with
      | none => have := e0 rfl; subst this; exact ⟨rfl, r1, x1⟩
      | some l => simp only; rw [if_neg (by rintro (q | q); exact c1 q; exact c2 q)]; exact ⟨rfl, r1, x1⟩

theorem getVote_rr {P : Program} {f g : FuncId} (hf : Is P f (c_gleberef13_getVote g)) (hg : IntRR P g) : GetRR P f Vote.c voteC.dec := by
  refine ⟨hf.2, fun F h q st hr hq hF => ?_⟩
  have gp := hg.p
  refine RRS.freeze (K := fun r h' => r = .agg (voteC.dec st).1.v ∧ RRS F h' q (voteC.dec st).2 ∧ Ext (only q) h h') (K' := fun r => ∃ x, r = .agg (D.avL (Vote.c x)) ∧ ((voteC.dec st).2 ≠ none → x = (voteC.dec st).1)) hr hq hF (fun_sound hf.1 (Nat.le_of_ble_eq_true rfl) ?_) fun r h' ⟨h1, h2, h3⟩ => ⟨h2, h3, r, ?_, _, h1, fun _ => rfl⟩
  rotate_left
  · rw [h1, Vote.v_eq]; exact Frz.upto (by simp [AV.upto, AV.uptoL])
  show vc P (c_gleberef13_getVote g).code ⟨[(0, .ptr q 3 0 0)], [], h⟩ (atEnd (c_gleberef13_getVote g).res _)
  have ed : voteC.dec st = (⟨(rInt st).1, (rInt (rInt st).2).1, (rInt (rInt (rInt st).2).2).1, (rInt (rInt (rInt (rInt st).2).2).2).1, (rInt (rInt (rInt (rInt (rInt st).2).2).2).2).1⟩, (rInt (rInt (rInt (rInt (rInt st).2).2).2).2).2) := rfl
  rw [ed]
  have lq := hr.lt
  simp only [c_gleberef13_getVote, go_sem, reduceIte, Nat.reduceEqDiff, Nat.reduceAdd, Nat.reduceLeDiff, Nat.reducePow, Nat.reduceDiv, Nat.reduceMod, decide_true]
  have Z := Ext.b1 (h := h) (some (.arr 5 [[.int .i64 0, .int .i64 0, .int .i64 0, .int .i64 0, .int .i64 0]] false))
  have r0 := hr.up Z
  have B0 := bx10 h (some (.arr 5 [[.int .i64 0, .int .i64 0, .int .i64 0, .int .i64 0, .int .i64 0]] false))
  have hl : (h ++ [some (ABlk.arr 5 [[.int .i64 0, .int .i64 0, .int .i64 0, .int .i64 0, .int .i64 0]] false)]).length = h.length + 1 := by simp
  generalize h ++ [some (ABlk.arr 5 [[.int .i64 0, .int .i64 0, .int .i64 0, .int .i64 0, .int .i64 0]] false)] = H at *
  have hF0 : ∀ m, F m → m < H.length := fun m hm => by have := hF m hm; omega
  refine wCall_use ⟨gp.1, gp.2 F H q st r0 hq hF0⟩ ?_
  rintro _ h1 ⟨rfl, r1, x1, l1⟩
  change RRS F h1 q (rInt st).2 at r1
  have C0 := (x1.2 h.length (by omega) (by simp only [only]; omega)).trans B0
  have X1 : Ext (only q) h h1 := Z.trans x1 (F'' := only q) (fun _ _ x => x.elim) (fun _ _ x => x)
  generalize (rInt st).1 = a1 at *
  generalize (rInt st).2 = s1 at *
  simp only [go_sem, reduceIte, Nat.reduceEqDiff, Nat.reduceAdd, Nat.reduceLeDiff, Nat.reducePow, Nat.reduceDiv, Nat.reduceMod, decide_true]
  have ZA := Ext.b1 (h := h1) (some (.arr 5 [[.int .i64 a1, .int .i64 0, .int .i64 0, .int .i64 0, .int .i64 0]] false))
  have r1 := r1.up ZA
  have C0 := ZA.get C0
  have A1 := bx10 h1 (some (.arr 5 [[.int .i64 a1, .int .i64 0, .int .i64 0, .int .i64 0, .int .i64 0]] false))
  have X1 := X1.trans ZA (F'' := only q) (fun _ _ x => x) (fun _ _ x => x.elim)
  have hl1 : (h1 ++ [some (ABlk.arr 5 [[.int .i64 a1, .int .i64 0, .int .i64 0, .int .i64 0, .int .i64 0]] false)]).length = h1.length + 1 := by simp
  have nn : h1.length = h.length + 1 := by omega
  generalize h1 ++ [some (ABlk.arr 5 [[.int .i64 a1, .int .i64 0, .int .i64 0, .int .i64 0, .int .i64 0]] false)] = H1 at *
  refine wCall_use ⟨gp.1, gp.2 F H1 q s1 r1 hq (fun m hm => by have := hF m hm; omega)⟩ ?_
  rintro _ h2 ⟨rfl, r2, x2, l2⟩
  change RRS F h2 q (rInt s1).2 at r2
  have C0 := (x2.2 h.length (by omega) (by simp only [only]; omega)).trans C0
  have A2 := (x2.2 h1.length (by omega) (by simp only [only]; omega)).trans A1
  have X1 := X1.trans x2 (fun _ _ x => x) (fun _ _ x => x)
  generalize (rInt s1).1 = a2 at *
  generalize (rInt s1).2 = s2 at *
  have lt2 := (List.getElem?_eq_some_iff.1 A2).1
  simp only [go_sem, reduceIte, Nat.reduceEqDiff, Nat.reduceAdd, Nat.reduceLeDiff, Nat.reducePow, Nat.reduceDiv, Nat.reduceMod, decide_true, A2, lt2]
  have r2 := r2.keep (h' := h2.set h1.length (some (.arr 5 [[.int .i64 a1, .int .i64 a2, .int .i64 0, .int .i64 0, .int .i64 0]] false))) (List.getElem?_set_ne (by omega)) (fun m hm y hy => by have := hF m hm; rw [List.getElem?_set_ne (by omega)]; exact hy)
  have C0 := (List.getElem?_set_ne (l := h2) (i := h1.length) (a := some (.arr 5 [[.int .i64 a1, .int .i64 a2, .int .i64 0, .int .i64 0, .int .i64 0]] false)) (by omega)).trans C0
  have A2 := List.getElem?_set_self (l := h2) (a := some (ABlk.arr 5 [[.int .i64 a1, .int .i64 a2, .int .i64 0, .int .i64 0, .int .i64 0]] false)) lt2
  have X1 := X1.put (n := h1.length) (by omega) (some (.arr 5 [[.int .i64 a1, .int .i64 a2, .int .i64 0, .int .i64 0, .int .i64 0]] false))
  have hl2 : (h2.set h1.length (some (ABlk.arr 5 [[.int .i64 a1, .int .i64 a2, .int .i64 0, .int .i64 0, .int .i64 0]] false))).length = h2.length := List.length_set
  generalize h2.set h1.length (some (ABlk.arr 5 [[.int .i64 a1, .int .i64 a2, .int .i64 0, .int .i64 0, .int .i64 0]] false)) = H2 at *
  refine wCall_use ⟨gp.1, gp.2 F H2 q s2 r2 hq (fun m hm => by have := hF m hm; omega)⟩ ?_
  rintro _ h3 ⟨rfl, r3, x3, l3⟩
  change RRS F h3 q (rInt s2).2 at r3
  have C0 := (x3.2 h.length (by omega) (by simp only [only]; omega)).trans C0
  have A3 := (x3.2 h1.length (by omega) (by simp only [only]; omega)).trans A2
  have X1 := X1.trans x3 (fun _ _ x => x) (fun _ _ x => x)
  generalize (rInt s2).1 = a3 at *
  generalize (rInt s2).2 = s3 at *
  have lt3 := (List.getElem?_eq_some_iff.1 A3).1
  simp only [go_sem, reduceIte, Nat.reduceEqDiff, Nat.reduceAdd, Nat.reduceLeDiff, Nat.reducePow, Nat.reduceDiv, Nat.reduceMod, decide_true, A3, lt3]
  have r3 := r3.keep (h' := h3.set h1.length (some (.arr 5 [[.int .i64 a1, .int .i64 a2, .int .i64 a3, .int .i64 0, .int .i64 0]] false))) (List.getElem?_set_ne (by omega)) (fun m hm y hy => by have := hF m hm; rw [List.getElem?_set_ne (by omega)]; exact hy)
  have C0 := (List.getElem?_set_ne (l := h3) (i := h1.length) (a := some (.arr 5 [[.int .i64 a1, .int .i64 a2, .int .i64 a3, .int .i64 0, .int .i64 0]] false)) (by omega)).trans C0
  have A3 := List.getElem?_set_self (l := h3) (a := some (ABlk.arr 5 [[.int .i64 a1, .int .i64 a2, .int .i64 a3, .int .i64 0, .int .i64 0]] false)) lt3
  have X1 := X1.put (n := h1.length) (by omega) (some (.arr 5 [[.int .i64 a1, .int .i64 a2, .int .i64 a3, .int .i64 0, .int .i64 0]] false))
  have hl3 : (h3.set h1.length (some (ABlk.arr 5 [[.int .i64 a1, .int .i64 a2, .int .i64 a3, .int .i64 0, .int .i64 0]] false))).length = h3.length := List.length_set
  generalize h3.set h1.length (some (ABlk.arr 5 [[.int .i64 a1, .int .i64 a2, .int .i64 a3, .int .i64 0, .int .i64 0]] false)) = H3 at *
  refine wCall_use ⟨gp.1, gp.2 F H3 q s3 r3 hq (fun m hm => by have := hF m hm; omega)⟩ ?_
  rintro _ h4 ⟨rfl, r4, x4, l4⟩
  change RRS F h4 q (rInt s3).2 at r4
  have C0 := (x4.2 h.length (by omega) (by simp only [only]; omega)).trans C0
  have A4 := (x4.2 h1.length (by omega) (by simp only [only]; omega)).trans A3
  have X1 := X1.trans x4 (fun _ _ x => x) (fun _ _ x => x)
  generalize (rInt s3).1 = a4 at *
  generalize (rInt s3).2 = s4 at *
  have lt4 := (List.getElem?_eq_some_iff.1 A4).1
  simp only [go_sem, reduceIte, Nat.reduceEqDiff, Nat.reduceAdd, Nat.reduceLeDiff, Nat.reducePow, Nat.reduceDiv, Nat.reduceMod, decide_true, A4, lt4]
  have r4 := r4.keep (h' := h4.set h1.length (some (.arr 5 [[.int .i64 a1, .int .i64 a2, .int .i64 a3, .int .i64 a4, .int .i64 0]] false))) (List.getElem?_set_ne (by omega)) (fun m hm y hy => by have := hF m hm; rw [List.getElem?_set_ne (by omega)]; exact hy)
  have C0 := (List.getElem?_set_ne (l := h4) (i := h1.length) (a := some (.arr 5 [[.int .i64 a1, .int .i64 a2, .int .i64 a3, .int .i64 a4, .int .i64 0]] false)) (by omega)).trans C0
  have A4 := List.getElem?_set_self (l := h4) (a := some (ABlk.arr 5 [[.int .i64 a1, .int .i64 a2, .int .i64 a3, .int .i64 a4, .int .i64 0]] false)) lt4
  have X1 := X1.put (n := h1.length) (by omega) (some (.arr 5 [[.int .i64 a1, .int .i64 a2, .int .i64 a3, .int .i64 a4, .int .i64 0]] false))
  have hl4 : (h4.set h1.length (some (ABlk.arr 5 [[.int .i64 a1, .int .i64 a2, .int .i64 a3, .int .i64 a4, .int .i64 0]] false))).length = h4.length := List.length_set
  generalize h4.set h1.length (some (ABlk.arr 5 [[.int .i64 a1, .int .i64 a2, .int .i64 a3, .int .i64 a4, .int .i64 0]] false)) = H4 at *
  refine wCall_use ⟨gp.1, gp.2 F H4 q s4 r4 hq (fun m hm => by have := hF m hm; omega)⟩ ?_
  rintro _ h5 ⟨rfl, r5, x5, l5⟩
  change RRS F h5 q (rInt s4).2 at r5
  have C0 := (x5.2 h.length (by omega) (by simp only [only]; omega)).trans C0
  have A5 := (x5.2 h1.length (by omega) (by simp only [only]; omega)).trans A4
  have X1 := X1.trans x5 (fun _ _ x => x) (fun _ _ x => x)
  generalize (rInt s4).1 = a5 at *
  generalize (rInt s4).2 = s5 at *
  have lt5 := (List.getElem?_eq_some_iff.1 A5).1
  have lt0 := (List.getElem?_eq_some_iff.1 C0).1
  have n10 : (h1.length = h.length) = False := eq_false (by omega)
  simp only [go_sem, reduceIte, Nat.reduceEqDiff, Nat.reduceAdd, Nat.reduceLeDiff, Nat.reducePow, Nat.reduceDiv, Nat.reduceMod, decide_true, A5, lt5, n10, C0, lt0, List.length_set]
  refine ⟨by rw [Vote.v_eq], ?_, (X1.put (by omega) _).put (by omega) _⟩
  exact (r5.keep (List.getElem?_set_ne (by omega)) (fun m hm y hy => by have := hF m hm; rw [List.getElem?_set_ne (by omega)]; exact hy)).keep (List.getElem?_set_ne (by omega)) (fun m hm y hy => by have := hF m hm; rw [List.getElem?_set_ne (by omega)]; exact hy)

theorem getConf_rr {P : Program} {f g : FuncId} (hf : Is P f (c_gleberef13_getConf g)) (hg : IntsRR P g) : GetRR P f Conf.c confC.dec := by
  refine ⟨hf.2, fun F h q st hr hq hF => ?_⟩
  have gp := hg.p
  refine RRS.freeze (K := fun r h' => r = .agg (confC.dec st).1.v ∧ RRS F h' q (confC.dec st).2 ∧ Ext (only q) h h') (K' := fun r => ∃ x, r = .agg (D.avL (Conf.c x)) ∧ ((confC.dec st).2 ≠ none → x = (confC.dec st).1)) hr hq hF (fun_sound hf.1 (Nat.le_of_ble_eq_true rfl) ?_) fun r h' ⟨h1, h2, h3⟩ => ⟨h2, h3, r, ?_, _, h1, fun _ => rfl⟩
  rotate_left
  · rw [h1]; exact Frz.aggD (fzL_self _ _ _)
  show vc P (c_gleberef13_getConf g).code ⟨[(0, .ptr q 3 0 0)], [], h⟩ (atEnd (c_gleberef13_getConf g).res _)
  have ed : confC.dec st = (⟨(rList rInt st).1, (rList rInt (rList rInt st).2).1, (rList rInt (rList rInt (rList rInt st).2).2).1⟩, (rList rInt (rList rInt (rList rInt st).2).2).2) := rfl
  rw [ed]
  have lq := hr.lt
  simp only [c_gleberef13_getConf, go_sem, reduceIte, Nat.reduceEqDiff, Nat.reduceAdd, Nat.reduceLeDiff, Nat.reducePow, Nat.reduceDiv, Nat.reduceMod, decide_true]
  have Z := Ext.b1 (h := h) (some (.arr 3 [[.nils, .nils, .nils]] false))
  have r0 := hr.up Z
  have B0 := bx10 h (some (.arr 3 [[.nils, .nils, .nils]] false))
  have hl : (h ++ [some (ABlk.arr 3 [[.nils, .nils, .nils]] false)]).length = h.length + 1 := by simp
  generalize h ++ [some (ABlk.arr 3 [[.nils, .nils, .nils]] false)] = H at *
  have hF0 : ∀ m, F m → m < H.length := fun m hm => by have := hF m hm; omega
  refine wCall_use ⟨gp.1, gp.2 F H q st r0 hq hF0⟩ ?_
  rintro _ h1 ⟨rfl, r1, x1, l1⟩
  change RRS F h1 q (rList rInt st).2 at r1
  have C0 := (x1.2 h.length (by omega) (by simp only [only]; omega)).trans B0
  have X1 : Ext (only q) h h1 := Z.trans x1 (F'' := only q) (fun _ _ x => x.elim) (fun _ _ x => x)
  generalize (rList rInt st).1 = a1 at *
  generalize (rList rInt st).2 = s1 at *
  simp only [go_sem, reduceIte, Nat.reduceEqDiff, Nat.reduceAdd, Nat.reduceLeDiff, Nat.reducePow, Nat.reduceDiv, Nat.reduceMod, decide_true, scalar_aints]
  have ZA := Ext.b1 (h := h1) (some (.arr 3 [[aints a1, .nils, .nils]] false))
  have r1 := r1.up ZA
  have C0 := ZA.get C0
  have A1 := bx10 h1 (some (.arr 3 [[aints a1, .nils, .nils]] false))
  have X1 := X1.trans ZA (F'' := only q) (fun _ _ x => x) (fun _ _ x => x.elim)
  have hl1 : (h1 ++ [some (ABlk.arr 3 [[aints a1, .nils, .nils]] false)]).length = h1.length + 1 := by simp
  have nn : h1.length = h.length + 1 := by omega
  generalize h1 ++ [some (ABlk.arr 3 [[aints a1, .nils, .nils]] false)] = H1 at *
  refine wCall_use ⟨gp.1, gp.2 F H1 q s1 r1 hq (fun m hm => by have := hF m hm; omega)⟩ ?_
  rintro _ h2 ⟨rfl, r2, x2, l2⟩
  change RRS F h2 q (rList rInt s1).2 at r2
  have C0 := (x2.2 h.length (by omega) (by simp only [only]; omega)).trans C0
  have A2 := (x2.2 h1.length (by omega) (by simp only [only]; omega)).trans A1
  have X1 := X1.trans x2 (fun _ _ x => x) (fun _ _ x => x)
  generalize (rList rInt s1).1 = a2 at *
  generalize (rList rInt s1).2 = s2 at *
  have lt2 := (List.getElem?_eq_some_iff.1 A2).1
  simp only [go_sem, reduceIte, Nat.reduceEqDiff, Nat.reduceAdd, Nat.reduceLeDiff, Nat.reducePow, Nat.reduceDiv, Nat.reduceMod, decide_true, A2, lt2, scalar_aints, cells_aints]
  have r2 := r2.keep (h' := h2.set h1.length (some (.arr 3 [[aints a1, aints a2, .nils]] false))) (List.getElem?_set_ne (by omega)) (fun m hm y hy => by have := hF m hm; rw [List.getElem?_set_ne (by omega)]; exact hy)
  have C0 := (List.getElem?_set_ne (l := h2) (i := h1.length) (a := some (.arr 3 [[aints a1, aints a2, .nils]] false)) (by omega)).trans C0
  have A2 := List.getElem?_set_self (l := h2) (a := some (ABlk.arr 3 [[aints a1, aints a2, .nils]] false)) lt2
  have X1 := X1.put (n := h1.length) (by omega) (some (.arr 3 [[aints a1, aints a2, .nils]] false))
  have hl2 : (h2.set h1.length (some (ABlk.arr 3 [[aints a1, aints a2, .nils]] false))).length = h2.length := List.length_set
  generalize h2.set h1.length (some (ABlk.arr 3 [[aints a1, aints a2, .nils]] false)) = H2 at *
  refine wCall_use ⟨gp.1, gp.2 F H2 q s2 r2 hq (fun m hm => by have := hF m hm; omega)⟩ ?_
  rintro _ h3 ⟨rfl, r3, x3, l3⟩
  change RRS F h3 q (rList rInt s2).2 at r3
  have C0 := (x3.2 h.length (by omega) (by simp only [only]; omega)).trans C0
  have A3 := (x3.2 h1.length (by omega) (by simp only [only]; omega)).trans A2
  have X1 := X1.trans x3 (fun _ _ x => x) (fun _ _ x => x)
  generalize (rList rInt s2).1 = a3 at *
  generalize (rList rInt s2).2 = s3 at *
  have lt3 := (List.getElem?_eq_some_iff.1 A3).1
  have lt0 := (List.getElem?_eq_some_iff.1 C0).1
  have n10 : (h1.length = h.length) = False := eq_false (by omega)
  simp only [go_sem, reduceIte, Nat.reduceEqDiff, Nat.reduceAdd, Nat.reduceLeDiff, Nat.reducePow, Nat.reduceDiv, Nat.reduceMod, decide_true, A3, lt3, n10, C0, lt0, List.length_set, scalar_aints, cells_aints]
  refine ⟨by rw [Conf.v_eq], ?_, (X1.put (by omega) _).put (by omega) _⟩
  exact (r3.keep (List.getElem?_set_ne (by omega)) (fun m hm y hy => by have := hF m hm; rw [List.getElem?_set_ne (by omega)]; exact hy)).keep (List.getElem?_set_ne (by omega)) (fun m hm y hy => by have := hF m hm; rw [List.getElem?_set_ne (by omega)]; exact hy)

/-- what a list's loop has read, what is to come -/
def Come {T : Type} (dec : Rdr → T × Rdr) (n : Nat) (st1 : Rdr) (i : Nat) (acc : List T) (st : Rdr) : Prop :=
  (st = none → (readN dec n st1).2 = none) ∧ ∀ l, st = some l → readN dec n st1 = (acc ++ (readN dec (n - i) (some l)).1, (readN dec (n - i) (some l)).2)
theorem Come.start {T : Type} (dec : Rdr → T × Rdr) (hn : (dec none).2 = none) (n : Nat) (st1 : Rdr) : Come dec n st1 0 [] st1 :=
  ⟨fun e => by rw [e]; exact readN_bad hn n, fun l e => by rw [e]; simp⟩

theorem Come.step {T : Type} {dec : Rdr → T × Rdr} {n : Nat} {st1 : Rdr} {i : Nat} {acc : List T} {l : List Int} (c : Come dec n st1 i acc (some l)) (hi : i < n) {x : T} (hx : (dec (some l)).2 ≠ none → x = (dec (some l)).1) : Come dec n st1 (i + 1) (acc ++ [x]) (dec (some l)).2 := by
  have e := c.2 l rfl
  have en : n - i = (n - (i + 1)) + 1 := by omega
  rw [en] at e
  refine ⟨fun h => by rw [e]; exact readN_stop h, fun l' h => ?_⟩
  rw [readN_more h] at e
  rw [e, hx (by rw [h]; simp)]
  simp
theorem Come.done {T : Type} {dec : Rdr → T × Rdr} {n : Nat} {st1 : Rdr} {i : Nat} {acc : List T} {st : Rdr} (c : Come dec n st1 i acc st) (h : i = n ∨ st = none) : st = (readN dec n st1).2 ∧ (st ≠ none → acc = (readN dec n st1).1) := by
  cases st with
  | none => exact ⟨(c.1 rfl).symm, fun h => absurd rfl h⟩
  | some l =>
    have e := c.2 l rfl
    rcases h with rfl | h
    · rw [Nat.sub_self] at e
      rw [e]; simp [readN]
    · cases h
theorem rList_many {T : Type} (dec : Rdr → T × Rdr) (st : Rdr) : rList dec st = readN dec (rMany st).1.toNat (rMany st).2 := by
  simp only [rList]
  have e0 : (rMany st).2 = none → (rMany st).1 = 0 := by
    intro e
    simp only [rMany] at e ⊢
    split
    · rfl
    · rename_i n l q
      rw [q] at e
      simp only at e
      split at e
      · rw [if_pos (by assumption)]
      · cases e
  generalize rMany st = S at *
  obtain ⟨n, s⟩ := S
  cases s with
  | none =>
    have e1 : n = 0 := by simpa using e0
    rw [e1]; rfl
  | some l => rfl
theorem rMany_n {st : Rdr} : 0 ≤ (rMany st).1 ∧ 8 * (rMany st).1 ≤ ((rMany st).2.all.length : Int) := by
  simp only [rMany]
  split
  · simp [Rdr.all]
  · split
    · simp [Rdr.all]
    · rename_i h; simp only [Rdr.all, Option.getD_some]; omega

/-- while a thing is read: its box behind what was there -/
structure Rec (F : Nat → Prop) (q : Nat) (h4 H : AHeap) (b : ABlk) (u : Rdr) : Prop where
  r : RRS F H q u
  X : Ext (only q) h4 H
  E : H[h4.length]? = some (some b)
  l : H.length = h4.length + 1
theorem Rec.new {F : Nat → Prop} {q : Nat} {h4 h5 : AHeap} {u : Rdr} (r : RRS F h5 q u) (X : Ext (only q) h4 h5) (l : h5.length = h4.length) (b : ABlk) : Rec F q h4 (h5 ++ [some b]) b u :=
  ⟨r.up (Ext.b1 _), X.trans (Ext.b1 _) (fun _ _ x => x) (fun _ _ x => x.elim), by rw [← l]; exact bx10 _ _, by simp [l]⟩
theorem Rec.call {F : Nat → Prop} {q : Nat} {h4 H H' : AHeap} {b : ABlk} {u u' : Rdr} (R : Rec F q h4 H b u) (hq : q < h4.length) (r : RRS F H' q u') (X : Ext (only q) H H') (l : H'.length = H.length) : Rec F q h4 H' b u' :=
  ⟨r, R.X.trans X (fun _ _ x => x) (fun _ _ x => x), (X.2 _ (by have := R.l; omega) (by simp only [only]; omega)).trans R.E, by rw [l, R.l]⟩
theorem Rec.put {F : Nat → Prop} {q : Nat} {h4 H : AHeap} {b : ABlk} {u : Rdr} (R : Rec F q h4 H b u) (hq : q < h4.length) (hF : ∀ m, F m → m < h4.length) (b' : ABlk) : Rec F q h4 (H.set h4.length (some b')) b' u :=
  ⟨R.r.keep (List.getElem?_set_ne (by omega)) (fun m hm y hy => by have := hF m hm; rw [List.getElem?_set_ne (by omega)]; exact hy), R.X.put (Nat.le_refl _) _, List.getElem?_set_self (by have := R.l; omega), by rw [List.length_set]; exact R.l⟩

end Glb

/-
  The document's reader of logs.
-/
namespace Glb
open Go
set_option maxRecDepth 10000
set_option maxHeartbeats 16000000

/-- where no row lies something is laid -/
theorem OwnO.setN {lo : Nat} {h : AHeap} {sz : Nat} {a : AV} {es : List (List AV)} (ho : OwnO lo h sz a es) {n : Nat} (hn : h[n]? = some none ∨ h[n]? = none) (x : Option ABlk) : OwnO lo (h.set n x) sz a es := by
  rcases ho with ho | ⟨m, off, cap, row, g, h1, h2, h3, h4⟩
  · exact .inl ho
  · exact .inr ⟨m, off, cap, row, g, h1, h2, by rw [List.getElem?_set_ne (by rintro rfl; rw [h3] at hn; rcases hn with hn | hn <;> cases hn)]; exact h3, h4⟩
theorem getLog_rr {P : Program} {f g mn bl : FuncId} (hf : Is P f (c_gleberef13_getLog g mn bl)) (hg : IntRR P g) (hmn : RP P mn (fun st r => r = .int .i64 (rMany st).1) (fun st => (rMany st).2)) (hbl : BlobRR P bl) : GetRR P f Log.c logC.dec := by
  refine ⟨hf.2, fun F h q st hr hq hF => ?_⟩
  have gp := hg.p
  have bp := hbl.p
  refine RRS.freeze (K := fun r h' => ∃ (o : AV) (xs : List Entry), r = .agg [.int .i64 (rInt st).1, .int .i64 (rInt (rInt st).2).1, o] ∧ OwnO h.length h' 3 o (D.avLL (xs.map Entry.c)) ∧ ((logC.dec st).2 ≠ none → xs = (logC.dec st).1.es) ∧ RRS F h' q (logC.dec st).2 ∧ Ext (only q) h h') (K' := fun r => ∃ x, r = .agg (D.avL (Log.c x)) ∧ ((logC.dec st).2 ≠ none → x = (logC.dec st).1)) hr hq hF (fun_sound hf.1 (Nat.le_of_ble_eq_true rfl) ?_) ?_
  rotate_left
  · rintro r h' ⟨o, xs, h1, h2, h3, h4, h5⟩
    refine ⟨h4, h5, .agg (D.avL (Log.c ⟨(rInt st).1, (rInt (rInt st).2).1, xs⟩)), ?_, _, rfl, fun hn => ?_⟩
    · rw [h1]
      exact Frz.aggD ⟨_, _, rfl, by simp only [Fz], _, _, rfl, by simp only [Fz], _, _, rfl, OwnO.fz h2 (Nat.le_refl _), rfl⟩
    · rw [h3 hn]; rfl
  show vc P (c_gleberef13_getLog g mn bl).code ⟨[(0, .ptr q 3 0 0)], [], h⟩ (atEnd (c_gleberef13_getLog g mn bl).res _)
  have ed : logC.dec st = (⟨(rInt st).1, (rInt (rInt st).2).1, (rList entryC.dec (rInt (rInt st).2).2).1⟩, (rList entryC.dec (rInt (rInt st).2).2).2) := rfl
  rw [ed, rList_many]
  have lq := hr.lt
  simp only [c_gleberef13_getLog, go_sem, reduceIte, Nat.reduceEqDiff, Nat.reduceAdd, Nat.reduceLeDiff, Nat.reducePow, Nat.reduceDiv, Nat.reduceMod, decide_true]
  have Z := Ext.b1 (h := h) (some (.arr 3 [[.int .i64 0, .int .i64 0, .nils]] false))
  have r0 := hr.up Z
  have B0 := bx10 h (some (.arr 3 [[.int .i64 0, .int .i64 0, .nils]] false))
  have hl : (h ++ [some (ABlk.arr 3 [[.int .i64 0, .int .i64 0, .nils]] false)]).length = h.length + 1 := by simp
  generalize h ++ [some (ABlk.arr 3 [[.int .i64 0, .int .i64 0, .nils]] false)] = H at *
  refine wCall_use ⟨gp.1, gp.2 F H q st r0 hq (fun m hm => by have := hF m hm; omega)⟩ ?_
  rintro _ h1 ⟨rfl, r1, x1, l1⟩
  change RRS F h1 q (rInt st).2 at r1
  have C0 := (x1.2 h.length (by omega) (by simp only [only]; omega)).trans B0
  have X1 : Ext (only q) h h1 := Z.trans x1 (F'' := only q) (fun _ _ x => x.elim) (fun _ _ x => x)
  generalize (rInt st).1 = a1 at *
  generalize (rInt st).2 = s1 at *
  simp only [go_sem, reduceIte, Nat.reduceEqDiff, Nat.reduceAdd, Nat.reduceLeDiff, Nat.reducePow, Nat.reduceDiv, Nat.reduceMod, decide_true]
  have ZA := Ext.b1 (h := h1) (some (.arr 3 [[.int .i64 a1, .int .i64 0, .nils]] false))
  have r1 := r1.up ZA
  have C0 := ZA.get C0
  have A1 := bx10 h1 (some (.arr 3 [[.int .i64 a1, .int .i64 0, .nils]] false))
  have X1 := X1.trans ZA (F'' := only q) (fun _ _ x => x) (fun _ _ x => x.elim)
  have hl1 : (h1 ++ [some (ABlk.arr 3 [[.int .i64 a1, .int .i64 0, .nils]] false)]).length = h1.length + 1 := by simp
  have nn : h1.length = h.length + 1 := by omega
  generalize h1 ++ [some (ABlk.arr 3 [[.int .i64 a1, .int .i64 0, .nils]] false)] = H1 at *
  refine wCall_use ⟨gp.1, gp.2 F H1 q s1 r1 hq (fun m hm => by have := hF m hm; omega)⟩ ?_
  rintro _ h2 ⟨rfl, r2, x2, l2⟩
  change RRS F h2 q (rInt s1).2 at r2
  have C0 := (x2.2 h.length (by omega) (by simp only [only]; omega)).trans C0
  have A2 := (x2.2 h1.length (by omega) (by simp only [only]; omega)).trans A1
  have X1 := X1.trans x2 (fun _ _ x => x) (fun _ _ x => x)
  generalize (rInt s1).1 = a2 at *
  generalize (rInt s1).2 = s2 at *
  have lt2 := (List.getElem?_eq_some_iff.1 A2).1
  simp only [go_sem, reduceIte, Nat.reduceEqDiff, Nat.reduceAdd, Nat.reduceLeDiff, Nat.reducePow, Nat.reduceDiv, Nat.reduceMod, decide_true, A2, lt2]
  have r2 := r2.keep (h' := h2.set h1.length (some (.arr 3 [[.int .i64 a1, .int .i64 a2, .nils]] false))) (List.getElem?_set_ne (by omega)) (fun m hm y hy => by have := hF m hm; rw [List.getElem?_set_ne (by omega)]; exact hy)
  have C0 := (List.getElem?_set_ne (l := h2) (i := h1.length) (a := some (.arr 3 [[.int .i64 a1, .int .i64 a2, .nils]] false)) (by omega)).trans C0
  have A2 := List.getElem?_set_self (l := h2) (a := some (ABlk.arr 3 [[.int .i64 a1, .int .i64 a2, .nils]] false)) lt2
  have X1 := X1.put (n := h1.length) (by omega) (some (.arr 3 [[.int .i64 a1, .int .i64 a2, .nils]] false))
  have hl2 : (h2.set h1.length (some (ABlk.arr 3 [[.int .i64 a1, .int .i64 a2, .nils]] false))).length = h2.length := List.length_set
  generalize h2.set h1.length (some (ABlk.arr 3 [[.int .i64 a1, .int .i64 a2, .nils]] false)) = H2 at *
  refine wCall_use ⟨hmn.1, hmn.2 F H2 q s2 r2 hq (fun m hm => by have := hF m hm; omega)⟩ ?_
  rintro _ h3 ⟨rfl, r3, x3, l3⟩
  change RRS F h3 q (rMany s2).2 at r3
  have C0 := (x3.2 h.length (by omega) (by simp only [only]; omega)).trans C0
  have A3 := (x3.2 h1.length (by omega) (by simp only [only]; omega)).trans A2
  have X1 := X1.trans x3 (fun _ _ x => x) (fun _ _ x => x)
  obtain ⟨n0, n1⟩ := @rMany_n s2
  have n2 := r3.small.1
  generalize (rMany s2).2 = s3 at *
  obtain ⟨n, hn⟩ : ∃ n : Nat, (rMany s2).1 = n := ⟨(rMany s2).1.toNat, by omega⟩
  rw [hn] at n1 ⊢
  simp only [go_sem, reduceIte, Nat.reduceEqDiff, Nat.reduceAdd, Nat.reduceLeDiff, Nat.reducePow, Nat.reduceDiv, Nat.reduceMod, decide_true, Int.toNat_natCast]
  obtain ⟨I, hI⟩ : ∃ I : Nat → Env → AHeap → Prop, ∀ m L h', I m L h' ↔ ∃ (i : Nat) (o : AV) (xs : List Entry) (st' : Rdr), lk 0 L = .ptr q 3 0 0 ∧ lk 2 L = .ptr h.length 3 0 0 ∧ lk 3 L = .ptr h1.length 3 0 0 ∧ lk 4 L = .int .i64 n ∧ lk 5 L = .int .i64 i ∧
      h'[h.length]? = some (some (.arr 3 [[.int .i64 0, .int .i64 0, .nils]] false)) ∧ h'[h1.length]? = some (some (.arr 3 [[.int .i64 a1, .int .i64 a2, o]] false)) ∧ OwnO h3.length h' 3 o (D.avLL (xs.map Entry.c)) ∧ RRS F h' q st' ∧ Ext (only q) h h' ∧ h3.length ≤ h'.length ∧
      Come entryC.dec n s3 i xs st' ∧ xs.length = i ∧ i ≤ n ∧ m = n - i := ⟨_, fun _ _ _ => Iff.rfl⟩
  refine vc_loop I n ((hI _ _ _).2 ⟨0, .nils, [], s3, by simp [lk_ins, lk_cons], by simp [lk_ins, lk_cons], by simp [lk_ins, lk_cons], by simp [lk_ins, lk_cons], by simp [lk_ins], C0, A3, .inl ⟨rfl, by simp [D.avLL]⟩, r3, X1, by omega, Come.start _ rfl _ _, rfl, by omega, by omega⟩) ?_
  clear r3 x3 C0 A3 X1
  intro m L h4 hh
  obtain ⟨i, o, xs, st', k0, k2, k3, k4, k5, C0, A, hO, r4, X1, hl4, hc, hxl, hi, rfl⟩ := (hI _ _ _).1 hh
  have r4' := r4
  obtain ⟨b, p, all, g1, g2, g3, g4, g5, g6⟩ := r4'
  have lA := (List.getElem?_eq_some_iff.1 A).1
  have lC := (List.getElem?_eq_some_iff.1 C0).1
  have n10 : (h1.length = h.length) = False := eq_false (by omega)
  have fin : (i = n ∨ st' = none) → OwnO h.length (h4.set h.length (some (.arr 3 [[.int .i64 a1, .int .i64 a2, o]] false))) 3 o (D.avLL (xs.map Entry.c)) ∧ ((readN entryC.dec n s3).2 ≠ none → xs = (readN entryC.dec n s3).1) ∧ RRS F (h4.set h.length (some (.arr 3 [[.int .i64 a1, .int .i64 a2, o]] false))) q (readN entryC.dec n s3).2 ∧ Ext (only q) h (h4.set h.length (some (.arr 3 [[.int .i64 a1, .int .i64 a2, o]] false))) := by
    intro hd
    obtain ⟨d1, d2⟩ := hc.done hd
    rw [← d1]
    exact ⟨(hO.setq (by omega) _).lo (by omega), d2, r4.keep (List.getElem?_set_ne (by omega)) (fun m hm y hy => by have := hF m hm; rw [List.getElem?_set_ne (by omega)]; exact hy), X1.put (Nat.le_refl _) _⟩
  by_cases ci : i < n
  · have ci' : decide ((i : Int) < n) = true := decide_eq_true (by omega)
    cases hst : st' with
    | none =>
      subst hst
      simp only [Option.isNone_none] at g1
      simp only [c_gleberef13_getLog_l0, go_sem, reduceIte, Nat.reduceEqDiff, Nat.reduceAdd, Nat.reduceLeDiff, Nat.reducePow, Nat.reduceDiv, Nat.reduceMod, decide_true, k0, k4, k5, ci', g1, k2, k3, A, C0, lC, hO.scalar, n10]
      exact ⟨_, _, rfl, fin (.inr rfl)⟩
    | some l =>
      subst hst
      simp only [Option.isNone_some] at g1
      simp only [c_gleberef13_getLog_l0, go_sem, reduceIte, Nat.reduceEqDiff, Nat.reduceAdd, Nat.reduceLeDiff, Nat.reducePow, Nat.reduceDiv, Nat.reduceMod, decide_true, k0, k4, k5, ci', g1]
      refine wCall_use ⟨gp.1, gp.2 F h4 q _ r4 hq (fun m hm => by have := hF m hm; omega)⟩ ?_
      rintro _ h5 ⟨rfl, r5, x5, l5⟩
      change RRS F h5 q (rInt (some l)).2 at r5
      have dd : entryC.dec (some l) = (⟨(rInt (some l)).1, (rInt (rInt (some l)).2).1, (rBlob (rInt (rInt (some l)).2).2).1⟩, (rBlob (rInt (rInt (some l)).2).2).2) := rfl
      have st := hc.step ci (x := (⟨(rInt (some l)).1, (rInt (rInt (some l)).2).1, (rBlob (rInt (rInt (some l)).2).2).1⟩ : Entry)) (fun _ => by rw [dd])
      rw [dd] at st
      have q4 : q < h4.length := by omega
      have hF4 : ∀ m, F m → m < h4.length := fun m hm => by have := hF m hm; omega
      generalize (rInt (some l)).1 = t1 at *
      generalize (rInt (some l)).2 = u1 at *
      simp only [go_sem, reduceIte, Nat.reduceEqDiff, Nat.reduceAdd, Nat.reduceLeDiff, Nat.reducePow, Nat.reduceDiv, Nat.reduceMod, decide_true]
      have R := Rec.new r5 x5 l5 (.arr 3 [[.int .i64 t1, .int .i64 0, .nils]] false)
      generalize h5 ++ [some (ABlk.arr 3 [[.int .i64 t1, .int .i64 0, .nils]] false)] = H5 at *
      have l6 := R.l
      simp only [k0, l5]
      refine wCall_use ⟨gp.1, gp.2 F H5 q u1 R.r hq (fun m hm => by have := hF m hm; omega)⟩ ?_
      rintro _ h6 ⟨rfl, r6, x6, l6⟩
      have R := R.call q4 r6 x6 l6
      change Rec F q h4 h6 _ (rInt u1).2 at R
      generalize (rInt u1).1 = t2 at *
      generalize (rInt u1).2 = u2 at *
      have E := R.E
      have l6 := R.l
      have lt : h4.length < h6.length := by omega
      simp only [go_sem, reduceIte, Nat.reduceEqDiff, Nat.reduceAdd, Nat.reduceLeDiff, Nat.reducePow, Nat.reduceDiv, Nat.reduceMod, decide_true, E, lt]
      have R := R.put q4 hF4 (.arr 3 [[.int .i64 t1, .int .i64 t2, .nils]] false)
      generalize h6.set h4.length (some (ABlk.arr 3 [[.int .i64 t1, .int .i64 t2, .nils]] false)) = H6 at *
      have l7 := R.l
      simp only [k0]
      refine wCall_use ⟨bp.1, bp.2 F H6 q u2 R.r hq (fun m hm => by have := hF m hm; omega)⟩ ?_
      rintro _ h7 ⟨rfl, r7, x7, l7⟩
      have R := R.call q4 r7 x7 l7
      change Rec F q h4 h7 _ (rBlob u2).2 at R
      generalize (rBlob u2).1 = t3 at *
      generalize (rBlob u2).2 = u3 at *
      have E := R.E
      have l8 := R.l
      have lt : h4.length < h7.length := by omega
      simp only [go_sem, reduceIte, Nat.reduceEqDiff, Nat.reduceAdd, Nat.reduceLeDiff, Nat.reducePow, Nat.reduceDiv, Nat.reduceMod, decide_true, E, lt, scalar_abytes, cells_abytes]
      have R := R.put q4 hF4 (.arr 3 [[.int .i64 t1, .int .i64 t2, abytes t3]] false)
      generalize h7.set h4.length (some (ABlk.arr 3 [[.int .i64 t1, .int .i64 t2, abytes t3]] false)) = H7 at *
      have E := R.E
      have l9 := R.l
      have A7 := (R.X.2 h1.length (by omega) (by simp only [only]; omega)).trans A
      have C7 := (R.X.2 h.length (by omega) (by simp only [only]; omega)).trans C0
      have O7 := hO.kp (h' := H7) (fun m hm hm' => R.X.2 m hm' (by simp only [only]; omega))
      have e1 : IntKind.i64.wrap (↑i + 1) = (i : Int) + 1 := wrap_i64 (by omega)
      have xe : D.avLL ((xs ++ [(⟨t1, t2, t3⟩ : Entry)]).map Entry.c) = D.avLL (xs.map Entry.c) ++ [[.int .i64 t1, .int .i64 t2, abytes t3]] := by
        simp only [avLL_map, List.map_append, List.map_cons, List.map_nil]; rfl
      obtain ⟨o2, h8, s1, s2, s3'⟩ := acc_app (bytes := 40) (h := H7 ++ [some (.arr 3 [[.int .i64 t1, .int .i64 t2, abytes t3]] false)]) (ys := [[.int .i64 t1, .int .i64 t2, abytes t3]]) O7 (Ext.b1 _) (by omega) (by simp [avLL_length]; omega)
      rw [← aappend_of (aelems_new H7 3 [[.int .i64 t1, .int .i64 t2, abytes t3]] false (some 1) (len := 1) rfl)] at s1
      have hl8 := s3'.1
      simp only [len_app1] at hl8
      have A8 := (s3'.2 h1.length (by simp; omega) (by omega)).trans ((Ext.b1 _).get A7)
      have C8 := (s3'.2 h.length (by simp; omega) (by omega)).trans ((Ext.b1 _).get C7)
      have lt8 : h1.length < h8.length := by omega
      simp only [go_sem, reduceIte, Nat.reduceEqDiff, Nat.reduceAdd, Nat.reduceLeDiff, Nat.reducePow, Nat.reduceDiv, Nat.reduceMod, decide_true, k3, k4, k5, A7, E, scalar_abytes, cells_abytes, s1, A8, lt8, s2.scalar, cells_of s2.scalar, e1]
      refine ⟨_, by omega, (hI _ _ _).2 ⟨i + 1, o2, xs ++ [⟨t1, t2, t3⟩], u3, by simp [lk_ins, k0], by simp [lk_ins, k2], by simp [lk_ins, k3], by simp [lk_ins, k4], by simp [lk_ins], ?_, List.getElem?_set_self lt8, ?_, ?_, ?_, ?_, st, by simp [hxl], by omega, rfl⟩⟩
      · rw [List.getElem?_set_ne (by omega)]; exact C8
      · rw [xe]; exact s2.setq (by omega) _
      · refine ((R.r.up (Ext.b1 _)).keep (h' := h8) (s3'.2 q (by simp; omega) (by omega)) (fun m hm y hy => by have := hF m hm; rw [s3'.2 m (by simp; omega) (by omega)]; exact hy)).keep (List.getElem?_set_ne (by omega)) (fun m hm y hy => by have := hF m hm; rw [List.getElem?_set_ne (by omega)]; exact hy)
      · exact ((((X1.trans R.X (fun _ _ x => x) (fun _ _ x => x)).trans (Ext.b1 _) (F'' := only q) (fun _ _ x => x) (fun _ _ x => x.elim))).trans s3' (F'' := only q) (fun _ _ x => x) (fun m hm hm' => by omega)).put (by omega) _
      · rw [List.length_set]; omega
  · obtain rfl : i = n := by omega
    have ci' : decide ((i : Int) < i) = false := decide_eq_false (by omega)
    simp only [c_gleberef13_getLog_l0, go_sem, reduceIte, Nat.reduceEqDiff, Nat.reduceAdd, Nat.reduceLeDiff, Nat.reducePow, Nat.reduceDiv, Nat.reduceMod, decide_true, k0, k4, k5, ci', k2, k3, A, C0, lC, hO.scalar, n10]
    exact ⟨_, _, rfl, fin (.inl rfl)⟩

end Glb

/-
  The document's Get.
-/
namespace Glb
open Go
set_option maxRecDepth 10000
set_option maxHeartbeats 16000000

def GetImgP (P : Program) (f : FuncId) : Prop := isFn P f = true ∧ ∀ (G : Nat → Prop) (h : AHeap) (l : List Int) (b : AV), Rd G h (dBytes l) b → bytesOk l → l.length ≤ 2^37 →
  ACalls P f [b] h fun r h' => r = .tup [.agg (getImage l).1.v, .int .i64 (getImage l).2] ∧ h' = h

theorem r_Get_ok {P : Program} {f rd mn g lo co bl vo en e0 od : FuncId} (hf : Is P f (c_gleberef13_Get rd mn g lo co bl vo en od)) (hrd : ReadRR P rd) (hmn : RP P mn (fun st r => r = .int .i64 (rMany st).1) (fun st => (rMany st).2)) (hg : IntRR P g) (lp : GetRR P lo Log.c logC.dec) (cp : GetRR P co Conf.c confC.dec) (hbl : BlobRR P bl) (vp : GetRR P vo Vote.c voteC.dec)
    (hen : Is P en (c_gleberef02_Reader_End e0)) (he0 : LeftRR P e0) (hod : OrdOk P od) : GetImgP P f := by
  refine ⟨hf.2, fun G h l b hb hbo hlen => ?_⟩
  have gp := hg.p
  have bp := hbl.p
  refine ACalls.freeze (K := fun r h' => ∃ zs, r = .tup [.agg zs, .int .i64 (getImage l).2] ∧ FzL h.length h' (getImage l).1.c zs ∧ Ext nof h h') (fun_sound hf.1 (Nat.le_of_ble_eq_true rfl) ?_) (fun _ _ ⟨_, e, hz, hx⟩ => ⟨hx, _, e ▸ Frz.tup2 (Frz.aggD hz) (Frz.int _ _), rfl⟩)
  show vc P (c_gleberef13_Get rd mn g lo co bl vo en od).code ⟨[(0, b)], [], h⟩ (atEnd (c_gleberef13_Get rd mn g lo co bl vo en od).res _)
  simp only [c_gleberef13_Get, go_sem, reduceIte, Nat.reduceEqDiff, Nat.reduceAdd, Nat.reduceLeDiff, Nat.reducePow, Nat.reduceDiv, Nat.reduceMod, decide_true]
  have Z := Ext.b1 (h := h) (some (.arr 2 [[.nils, .nils]] false))
  have B0 := bx10 h (some (.arr 2 [[.nils, .nils]] false))
  have hb := hb.up Z
  have hl : (h ++ [some (ABlk.arr 2 [[.nils, .nils]] false)]).length = h.length + 1 := by simp
  generalize h ++ [some (ABlk.arr 2 [[.nils, .nils]] false)] = H at *
  refine wCall_use ⟨hrd.1, hrd.2 G H l b hb hbo (by omega)⟩ ?_
  rintro _ h1 ⟨rfl, r1, x1⟩
  have r1 := r1.under
  have C0 := x1.get B0
  have X1 := Z.tr x1
  obtain ⟨q, hqd⟩ : ∃ q, H.length = q := ⟨_, rfl⟩
  rw [hqd] at r1 ⊢
  have lq1 := r1.lt
  obtain ⟨F, hFd⟩ : ∃ F : Nat → Prop, F = fun m => q + 1 ≤ m ∧ m < h1.length := ⟨_, rfl⟩
  have hq : ¬ F q := by rw [hFd]; intro hh; have := hh.1; omega
  rw [← hFd] at r1
  have hF : ∀ m, F m → m < h1.length := fun m hm => by rw [hFd] at hm; exact hm.2
  have hF2 : ∀ m, F m → h.length + 2 ≤ m := fun m hm => by rw [hFd] at hm; have := hm.1; omega
  clear hFd
  simp only [go_sem, reduceIte, Nat.reduceEqDiff, Nat.reduceAdd, Nat.reduceLeDiff, Nat.reducePow, Nat.reduceDiv, Nat.reduceMod, decide_true]
  have ZA := Ext.b1 (h := h1) (some (.arr 2 [[.nils, .nils]] false))
  have r1 := r1.up ZA
  have C0 := ZA.get C0
  have A1 := bx10 h1 (some (.arr 2 [[.nils, .nils]] false))
  have X1 := X1.tr ZA
  have hl1 : (h1 ++ [some (ABlk.arr 2 [[.nils, .nils]] false)]).length = h1.length + 1 := by simp
  generalize h1 ++ [some (ABlk.arr 2 [[.nils, .nils]] false)] = H1 at *
  refine wCall_use ⟨hmn.1, hmn.2 F H1 q (some l) r1 hq (fun m hm => by have := hF m hm; omega)⟩ ?_
  rintro _ h3 ⟨rfl, r3, x3, l3⟩
  change RRS F h3 q (rMany (some l)).2 at r3
  have C0 := (x3.2 h.length (by omega) (by simp only [only]; omega)).trans C0
  have A3 := (x3.2 h1.length (by omega) (by simp only [only]; omega)).trans A1
  have X1 := X1.trans x3 (F'' := nof) (fun _ _ x => x) (fun m hm hm' => by simp only [only] at hm'; omega)
  have dl : imageC.dec (some l) = (⟨(rList hardC.dec (some l)).1, (rList voteC.dec (rList hardC.dec (some l)).2).1⟩, (rList voteC.dec (rList hardC.dec (some l)).2).2) := rfl
  have gi : getImage l = if (imageC.dec (some l)).2.end_ ≠ 0 then (⟨[], []⟩, (imageC.dec (some l)).2.end_) else if (imageC.dec (some l)).1.ordered = true then ((imageC.dec (some l)).1, 0) else (⟨[], []⟩, 15) := rfl
  rw [dl, rList_many hardC.dec] at gi
  obtain ⟨n0, n1⟩ := @rMany_n (some l)
  have n2 := r3.small.1
  generalize (rMany (some l)).2 = s3 at *
  obtain ⟨n, hn⟩ : ∃ n : Nat, (rMany (some l)).1 = n := ⟨(rMany (some l)).1.toNat, by omega⟩
  rw [hn] at n1 gi ⊢
  simp only [go_sem, reduceIte, Nat.reduceEqDiff, Nat.reduceAdd, Nat.reduceLeDiff, Nat.reducePow, Nat.reduceDiv, Nat.reduceMod, decide_true, Int.toNat_natCast] at gi ⊢
  obtain ⟨I, hI⟩ : ∃ I : Nat → Env → AHeap → Prop, ∀ m L h', I m L h' ↔ ∃ (i : Nat) (o : AV) (xs : List Hard) (st' : Rdr), lk 2 L = .ptr h.length 2 0 0 ∧ lk 4 L = .ptr q 3 0 0 ∧ lk 5 L = .ptr h1.length 2 0 0 ∧ lk 6 L = .int .i64 n ∧ lk 7 L = .int .i64 i ∧
      h'[h.length]? = some (some (.arr 2 [[.nils, .nils]] false)) ∧ h'[h1.length]? = some (some (.arr 2 [[o, .nils]] false)) ∧ OwnO h3.length h' 10 o (D.avLL (xs.map Hard.c)) ∧ RRS F h' q st' ∧ Ext nof h h' ∧ h3.length ≤ h'.length ∧
      Come hardC.dec n s3 i xs st' ∧ xs.length = i ∧ i ≤ n ∧ m = n - i := ⟨_, fun _ _ _ => Iff.rfl⟩
  refine vc_loop I n ((hI _ _ _).2 ⟨0, .nils, [], s3, by simp [lk_ins, lk_cons], by simp [lk_ins, lk_cons], by simp [lk_ins, lk_cons], by simp [lk_ins, lk_cons], by simp [lk_ins], C0, A3, .inl ⟨rfl, by simp [D.avLL]⟩, r3, X1, by omega, Come.start _ rfl _ _, rfl, by omega, by omega⟩) ?_
  clear r3 x3 C0 A3 X1
  intro m L h4 hh
  obtain ⟨i, o, xs, st', k2, k0, k5, k6, k7, C0, A, hO, r4, X1, hl4, hc, hxl, hi, rfl⟩ := (hI _ _ _).1 hh
  have r4' := r4
  obtain ⟨b', p, all, g1, g2, g3, g4, g5, g6⟩ := r4'
  have lA := (List.getElem?_eq_some_iff.1 A).1
  have lC := (List.getElem?_eq_some_iff.1 C0).1
  by_cases cont : i < n ∧ st' ≠ none
  · obtain ⟨ci, cs⟩ := cont
    have ci' : decide ((i : Int) < n) = true := decide_eq_true (by omega)
    obtain ⟨l', rfl⟩ := Option.ne_none_iff_exists'.1 cs
    simp only [Option.isNone_some] at g1
    have dd : hardC.dec (some l') = (⟨(rInt (some l')).1, (rInt (rInt (some l')).2).1, (rInt (rInt (rInt (some l')).2).2).1, (logC.dec (rInt (rInt (rInt (some l')).2).2).2).1, (confC.dec (logC.dec (rInt (rInt (rInt (some l')).2).2).2).2).1, (rBlob (confC.dec (logC.dec (rInt (rInt (rInt (some l')).2).2).2).2).2).1⟩,
      (rBlob (confC.dec (logC.dec (rInt (rInt (rInt (some l')).2).2).2).2).2).2) := rfl
    have stp := fun x hx => hc.step ci (x := x) hx
    rw [dd] at stp
    clear g2 g3 g4 g5 g6 dd
    simp only [c_gleberef13_Get_l0, go_sem, reduceIte, Nat.reduceEqDiff, Nat.reduceAdd, Nat.reduceLeDiff, Nat.reducePow, Nat.reduceDiv, Nat.reduceMod, decide_true, k0, k6, k7, ci', g1]
    clear g1
    generalize l' = l at *
    have q4 : q < h4.length := by omega
    have hF4 : ∀ m, F m → m < h4.length := fun m hm => by have := hF m hm; omega
    refine wCall_use ⟨gp.1, gp.2 F h4 q (some l) r4 hq hF4⟩ ?_
    rintro _ g1 ⟨rfl, r11, x11, l11⟩
    change RRS F g1 q (rInt (some l)).2 at r11
    generalize e1 : (rInt (some l)).1 = t1 at *
    generalize n1 : (rInt (some l)).2 = u1 at *
    simp only [go_sem, reduceIte, Nat.reduceEqDiff, Nat.reduceAdd, Nat.reduceLeDiff, Nat.reducePow, Nat.reduceDiv, Nat.reduceMod, decide_true, scalar_aentries, cells_aentries, scalar_aints, cells_aints, scalar_abytes, cells_abytes]
    have R := Rec.new r11 x11 l11 (.arr 10 [[.int .i64 t1, .int .i64 0, .int .i64 0, .int .i64 0, .int .i64 0, .nils, .nils, .nils, .nils, .nils]] false)
    generalize g1 ++ [some (ABlk.arr 10 [[.int .i64 t1, .int .i64 0, .int .i64 0, .int .i64 0, .int .i64 0, .nils, .nils, .nils, .nils, .nils]] false)] = H1 at *
    have l6 := R.l
    simp only [l11]
    simp only [k0]
    refine wCall_use ⟨gp.1, gp.2 F H1 q u1 R.r hq (fun m hm => by have := hF4 m hm; omega)⟩ ?_
    rintro _ g2 ⟨rfl, r12, x12, l12⟩
    have R := R.call q4 r12 x12 l12
    change Rec F q h4 g2 _ (rInt u1).2 at R
    generalize e2 : (rInt u1).1 = t2 at *
    generalize n2 : (rInt u1).2 = u2 at *
    have E := R.E
    have l6 := R.l
    have lt : h4.length < g2.length := by omega
    simp only [go_sem, reduceIte, Nat.reduceEqDiff, Nat.reduceAdd, Nat.reduceLeDiff, Nat.reducePow, Nat.reduceDiv, Nat.reduceMod, decide_true, E, lt, scalar_aentries, cells_aentries, scalar_aints, cells_aints, scalar_abytes, cells_abytes]
    have R := R.put q4 hF4 (.arr 10 [[.int .i64 t1, .int .i64 t2, .int .i64 0, .int .i64 0, .int .i64 0, .nils, .nils, .nils, .nils, .nils]] false)
    generalize g2.set h4.length (some (ABlk.arr 10 [[.int .i64 t1, .int .i64 t2, .int .i64 0, .int .i64 0, .int .i64 0, .nils, .nils, .nils, .nils, .nils]] false)) = H2 at *
    have l7 := R.l
    simp only [k0]
    refine wCall_use ⟨gp.1, gp.2 F H2 q u2 R.r hq (fun m hm => by have := hF4 m hm; omega)⟩ ?_
    rintro _ g3 ⟨rfl, r13, x13, l13⟩
    have R := R.call q4 r13 x13 l13
    change Rec F q h4 g3 _ (rInt u2).2 at R
    generalize e3 : (rInt u2).1 = t3 at *
    generalize n3 : (rInt u2).2 = u3 at *
    have E := R.E
    have l6 := R.l
    have lt : h4.length < g3.length := by omega
    simp only [go_sem, reduceIte, Nat.reduceEqDiff, Nat.reduceAdd, Nat.reduceLeDiff, Nat.reducePow, Nat.reduceDiv, Nat.reduceMod, decide_true, E, lt, scalar_aentries, cells_aentries, scalar_aints, cells_aints, scalar_abytes, cells_abytes]
    have R := R.put q4 hF4 (.arr 10 [[.int .i64 t1, .int .i64 t2, .int .i64 t3, .int .i64 0, .int .i64 0, .nils, .nils, .nils, .nils, .nils]] false)
    generalize g3.set h4.length (some (ABlk.arr 10 [[.int .i64 t1, .int .i64 t2, .int .i64 t3, .int .i64 0, .int .i64 0, .nils, .nils, .nils, .nils, .nils]] false)) = H3 at *
    have l7 := R.l
    simp only [k0]
    refine wCall_use ⟨lp.1, lp.2 F H3 q u3 R.r hq (fun m hm => by have := hF4 m hm; omega)⟩ ?_
    rintro _ g4 ⟨⟨t4, rfl, d4⟩, r14, x14, l14⟩
    have R := R.call q4 r14 x14 l14
    change Rec F q h4 g4 _ (logC.dec u3).2 at R
    generalize n4 : (logC.dec u3).2 = u4 at *
    have sc := scalar_aentries t4.es
    have vq4 : D.avL (Log.c t4) = [.int .i64 t4.base, .int .i64 t4.bterm, aentries t4.es] := Log.v_eq t4
    rw [vq4]
    have E := R.E
    have l6 := R.l
    have lt : h4.length < g4.length := by omega
    simp only [go_sem, reduceIte, Nat.reduceEqDiff, Nat.reduceAdd, Nat.reduceLeDiff, Nat.reducePow, Nat.reduceDiv, Nat.reduceMod, decide_true, E, lt, scalar_aentries, cells_aentries, scalar_aints, cells_aints, scalar_abytes, cells_abytes]
    have R := R.put q4 hF4 (.arr 10 [[.int .i64 t1, .int .i64 t2, .int .i64 t3, .int .i64 t4.base, .int .i64 t4.bterm, aentries t4.es, .nils, .nils, .nils, .nils]] false)
    generalize g4.set h4.length (some (ABlk.arr 10 [[.int .i64 t1, .int .i64 t2, .int .i64 t3, .int .i64 t4.base, .int .i64 t4.bterm, aentries t4.es, .nils, .nils, .nils, .nils]] false)) = H4 at *
    have l7 := R.l
    simp only [k0]
    refine wCall_use ⟨cp.1, cp.2 F H4 q u4 R.r hq (fun m hm => by have := hF4 m hm; omega)⟩ ?_
    rintro _ g5 ⟨⟨t5, rfl, d5⟩, r15, x15, l15⟩
    have R := R.call q4 r15 x15 l15
    change Rec F q h4 g5 _ (confC.dec u4).2 at R
    generalize n5 : (confC.dec u4).2 = u5 at *
    have vq5 : D.avL (Conf.c t5) = [aints t5.old, aints t5.new, aints t5.learners] := Conf.v_eq t5
    rw [vq5]
    have E := R.E
    have l6 := R.l
    have lt : h4.length < g5.length := by omega
    simp only [go_sem, reduceIte, Nat.reduceEqDiff, Nat.reduceAdd, Nat.reduceLeDiff, Nat.reducePow, Nat.reduceDiv, Nat.reduceMod, decide_true, E, lt, scalar_aentries, cells_aentries, scalar_aints, cells_aints, scalar_abytes, cells_abytes]
    have R := R.put q4 hF4 (.arr 10 [[.int .i64 t1, .int .i64 t2, .int .i64 t3, .int .i64 t4.base, .int .i64 t4.bterm, aentries t4.es, aints t5.old, aints t5.new, aints t5.learners, .nils]] false)
    generalize g5.set h4.length (some (ABlk.arr 10 [[.int .i64 t1, .int .i64 t2, .int .i64 t3, .int .i64 t4.base, .int .i64 t4.bterm, aentries t4.es, aints t5.old, aints t5.new, aints t5.learners, .nils]] false)) = H5 at *
    have l7 := R.l
    simp only [k0]
    refine wCall_use ⟨bp.1, bp.2 F H5 q u5 R.r hq (fun m hm => by have := hF4 m hm; omega)⟩ ?_
    rintro _ g6 ⟨rfl, r16, x16, l16⟩
    have R := R.call q4 r16 x16 l16
    change Rec F q h4 g6 _ (rBlob u5).2 at R
    generalize e6 : (rBlob u5).1 = t6 at *
    generalize n6 : (rBlob u5).2 = u6 at *
    have E := R.E
    have l6 := R.l
    have lt : h4.length < g6.length := by omega
    simp only [go_sem, reduceIte, Nat.reduceEqDiff, Nat.reduceAdd, Nat.reduceLeDiff, Nat.reducePow, Nat.reduceDiv, Nat.reduceMod, decide_true, E, lt, scalar_aentries, cells_aentries, scalar_aints, cells_aints, scalar_abytes, cells_abytes]
    have R := R.put q4 hF4 (.arr 10 [[.int .i64 t1, .int .i64 t2, .int .i64 t3, .int .i64 t4.base, .int .i64 t4.bterm, aentries t4.es, aints t5.old, aints t5.new, aints t5.learners, abytes t6]] false)
    generalize g6.set h4.length (some (ABlk.arr 10 [[.int .i64 t1, .int .i64 t2, .int .i64 t3, .int .i64 t4.base, .int .i64 t4.bterm, aentries t4.es, aints t5.old, aints t5.new, aints t5.learners, abytes t6]] false)) = H6 at *
    have l7 := R.l
    have hx : u6 ≠ none → (⟨t1, t2, t3, t4, t5, t6⟩ : Hard) = ⟨t1, t2, t3, (logC.dec u3).1, (confC.dec u4).1, t6⟩ := by
      intro h6
      have h5 : u5 ≠ none := fun e => by rw [e] at n6; exact h6 n6.symm
      have h4 : u4 ≠ none := fun e => by rw [e, confC.bad] at n5; exact h5 n5.symm
      rw [d4 h4, d5 h5]
    have stp := stp _ hx
    have E := R.E
    have l9 := R.l
    have A7 := (R.X.2 h1.length (by omega) (by simp only [only]; omega)).trans A
    have C7 := (R.X.2 h.length (by omega) (by simp only [only]; omega)).trans C0
    have O7 := hO.kp (h' := H6) (fun m hm hm' => R.X.2 m hm' (by simp only [only]; omega))
    have ew : IntKind.i64.wrap (↑i + 1) = (i : Int) + 1 := wrap_i64 (by omega)
    have xe : D.avLL ((xs ++ [(⟨t1, t2, t3, t4, t5, t6⟩ : Hard)]).map Hard.c) = D.avLL (xs.map Hard.c) ++ [[.int .i64 t1, .int .i64 t2, .int .i64 t3, .int .i64 t4.base, .int .i64 t4.bterm, aentries t4.es, aints t5.old, aints t5.new, aints t5.learners, abytes t6]] := by
      simp only [avLL_map, List.map_append, List.map_cons, List.map_nil]; rfl
    obtain ⟨o2, h8, s1, s2, s3'⟩ := acc_app (bytes := 160) (h := H6 ++ [some (.arr 10 [[.int .i64 t1, .int .i64 t2, .int .i64 t3, .int .i64 t4.base, .int .i64 t4.bterm, aentries t4.es, aints t5.old, aints t5.new, aints t5.learners, abytes t6]] false)]) (ys := [[.int .i64 t1, .int .i64 t2, .int .i64 t3, .int .i64 t4.base, .int .i64 t4.bterm, aentries t4.es, aints t5.old, aints t5.new, aints t5.learners, abytes t6]]) O7 (Ext.b1 _) (by omega) (by simp [avLL_length]; omega)
    rw [← aappend_of (aelems_new H6 10 [[.int .i64 t1, .int .i64 t2, .int .i64 t3, .int .i64 t4.base, .int .i64 t4.bterm, aentries t4.es, aints t5.old, aints t5.new, aints t5.learners, abytes t6]] false (some 1) (len := 1) rfl)] at s1
    have hl8 := s3'.1
    simp only [len_app1] at hl8
    have A8 := (s3'.2 h1.length (by simp; omega) (by omega)).trans ((Ext.b1 _).get A7)
    have C8 := (s3'.2 h.length (by simp; omega) (by omega)).trans ((Ext.b1 _).get C7)
    have lt8 : h1.length < h8.length := by omega
    simp only [go_sem, reduceIte, Nat.reduceEqDiff, Nat.reduceAdd, Nat.reduceLeDiff, Nat.reducePow, Nat.reduceDiv, Nat.reduceMod, decide_true, k5, k7, A7, E, scalar_aentries, cells_aentries, scalar_aints, cells_aints, scalar_abytes, cells_abytes, s1, A8, lt8, s2.scalar, cells_of s2.scalar, ew]
    refine ⟨_, by omega, (hI _ _ _).2 ⟨i + 1, o2, xs ++ [⟨t1, t2, t3, t4, t5, t6⟩], u6, by simp [lk_ins, k2], by simp [lk_ins, k0], by simp [lk_ins, k5], by simp [lk_ins, k6], by simp [lk_ins], ?_, List.getElem?_set_self lt8, ?_, ?_, ?_, ?_, stp, by simp [hxl], by omega, rfl⟩⟩
    · rw [List.getElem?_set_ne (by omega)]; exact C8
    · rw [xe]; exact s2.setq (by omega) _
    · refine ((R.r.up (Ext.b1 _)).keep (h' := h8) (s3'.2 q (by simp; omega) (by omega)) (fun m hm y hy => by have := hF m hm; rw [s3'.2 m (by simp; omega) (by omega)]; exact hy)).keep (List.getElem?_set_ne (by omega)) (fun m hm y hy => by have := hF m hm; rw [List.getElem?_set_ne (by omega)]; exact hy)
    · exact (((X1.trans R.X (F'' := nof) (fun _ _ x => x) (fun m hm hm' => by simp only [only] at hm'; omega)).tr (Ext.b1 _)).trans s3' (F'' := nof) (fun _ _ x => x) (fun m hm hm' => by omega)).put (by omega) _
    · rw [List.length_set]; omega
  · have hd : i = n ∨ st' = none := by
      by_cases e : st' = none
      · exact .inr e
      · exact .inl (Classical.byContradiction fun h => cont ⟨by omega, e⟩)
    obtain ⟨d1, d2⟩ := hc.done hd
    have small := r4.small.1
    -- behind the loop
    have small := r4.small.1
    have hF4 : ∀ m, F m → m < h4.length := fun m hm => by have := hF m hm; omega
    have bn : st'.isNone = true ∨ decide ((i : Int) < n) = false := by
      rcases hd with e | e
      · exact .inr (decide_eq_false (by omega))
      · exact .inl (by rw [e]; rfl)
    have hO0 := hO.lo (lo' := h1.length + 1) (by omega)
    clear hO hc cont hI hd
    rw [← d1] at gi
    have gi2 : st' ≠ none → getImage l = if Rdr.end_ (rList voteC.dec st').2 ≠ 0 then (⟨[], []⟩, Rdr.end_ (rList voteC.dec st').2) else if Image.ordered ⟨xs, (rList voteC.dec st').1⟩ = true then (⟨xs, (rList voteC.dec st').1⟩, 0) else (⟨[], []⟩, 15) := by
      intro hne
      rw [gi, ← d2 hne]
    have gi3 : st' = none → getImage l = (⟨[], []⟩, 4) := by
      intro e
      rw [gi, e, show (rList voteC.dec none).2 = none from (listC voteC).bad]
      rfl
    clear gi d1 d2
    have hor : (st' = none ∧ decide ((i : Int) < n) = true) ∨ decide ((i : Int) < n) = false := by
      rcases bn with e | e
      · by_cases c : decide ((i : Int) < n) = true
        · exact .inl ⟨Option.isNone_iff_eq_none.1 e, c⟩
        · exact .inr (by simpa using c)
      · exact .inr e
    clear bn
    have gg : (st' = none ∧ decide ((i : Int) < n) = true) → h4[q]? = some (some (.arr 3 [[b', .int .i64 p, .bool true]] false)) := fun e => by rw [g1, e.1]; rfl
    rcases hor with hor | hor
    · simp only [c_gleberef13_Get_l0, go_sem, reduceIte, Nat.reduceEqDiff, Nat.reduceAdd, Nat.reduceLeDiff, Nat.reducePow, Nat.reduceDiv, Nat.reduceMod, decide_true, k0, k6, k7, hor.2, gg hor]
      refine wCall_use ⟨hmn.1, hmn.2 F h4 q st' r4 hq hF4⟩ ?_
      rintro _ h5 ⟨rfl, r5, x5, l5⟩
      change RRS F h5 q (rMany st').2 at r5
      have C5 := (x5.2 h.length (by omega) (by simp only [only]; omega)).trans C0
      have A5 := (x5.2 h1.length (by omega) (by simp only [only]; omega)).trans A
      have X5 := X1.trans x5 (F'' := nof) (fun _ _ x => x) (fun m hm hm' => by simp only [only] at hm'; omega)
      have K5 : ∀ m, h1.length + 1 ≤ m → m < h4.length → h5[m]? = h4[m]? := fun m hm hm' => x5.2 m hm' (by simp only [only]; omega)
      have lm := rList_many voteC.dec st'
      obtain ⟨n3, n4⟩ := @rMany_n st'
      have n5 := r5.small.1
      generalize (rMany st').2 = s5 at *
      obtain ⟨v, hv⟩ : ∃ v : Nat, (rMany st').1 = v := ⟨(rMany st').1.toNat, by omega⟩
      rw [hv] at n4 lm ⊢
      simp only [go_sem, reduceIte, Nat.reduceEqDiff, Nat.reduceAdd, Nat.reduceLeDiff, Nat.reducePow, Nat.reduceDiv, Nat.reduceMod, decide_true, Int.toNat_natCast] at lm ⊢
      clear r4 x5 C0 A X1
      obtain ⟨J, hJ⟩ : ∃ J : Nat → Env → AHeap → Prop, ∀ m L h', J m L h' ↔ ∃ (i : Nat) (w : AV) (ys : List Vote) (st2 : Rdr), lk 2 L = .ptr h.length 2 0 0 ∧ lk 4 L = .ptr q 3 0 0 ∧ lk 5 L = .ptr h1.length 2 0 0 ∧ lk 9 L = .int .i64 v ∧ lk 10 L = .int .i64 i ∧
          h'[h.length]? = some (some (.arr 2 [[.nils, .nils]] false)) ∧ h'[h1.length]? = some (some (.arr 2 [[o, w]] false)) ∧ OwnO h5.length h' 5 w (D.avLL (ys.map Vote.c)) ∧ (∀ m, h1.length + 1 ≤ m → m < h5.length → h'[m]? = h5[m]?) ∧ RRS F h' q st2 ∧ Ext nof h h' ∧ h5.length ≤ h'.length ∧
          Come voteC.dec v s5 i ys st2 ∧ ys.length = i ∧ i ≤ v ∧ m = v - i := ⟨_, fun _ _ _ => Iff.rfl⟩
      refine vc_loop J v ((hJ _ _ _).2 ⟨0, .nils, [], s5, by simp [lk_ins, k2], by simp [lk_ins, k0], by simp [lk_ins, k5], by simp [lk_ins], by simp [lk_ins], C5, A5, .inl ⟨rfl, by simp [D.avLL]⟩, fun _ _ _ => rfl, r5, X5, by omega, Come.start _ rfl _ _, rfl, by omega, by omega⟩) ?_
      clear k0 k2 k5 k6 k7 r5 C5 A5 X5
      intro m L h6 hh
      obtain ⟨j, w, ys, st2, k2, k0, k5, k9, k10, C0, A, hO, hK, r4, X1, hl6, hc, hxl2, hj, rfl⟩ := (hJ _ _ _).1 hh
      have r4' := r4
      obtain ⟨b2, p2, all2, f1, -⟩ := r4'
      have lA := (List.getElem?_eq_some_iff.1 A).1
      have lC := (List.getElem?_eq_some_iff.1 C0).1
      by_cases cont : j < v ∧ st2 ≠ none
      · obtain ⟨cj, cs⟩ := cont
        have cj' : decide ((j : Int) < v) = true := decide_eq_true (by omega)
        obtain ⟨l', rfl⟩ := Option.ne_none_iff_exists'.1 cs
        simp only [Option.isNone_some] at f1
        have Z0 := fun z => (old1 (h := h6) (s := h.length) (by omega) z).trans C0
        have Z1 := fun z => (old1 (h := h6) (s := h1.length) (by omega) z).trans A
        have NR : ∀ m sz i o, m < h6.length → notRes h6.length 1 (.ptr m sz i o) = true := fun m sz i o hm => notRes_lt hm
        simp only [c_gleberef13_Get_l1, go_sem, reduceIte, Nat.reduceEqDiff, Nat.reduceAdd, Nat.reduceLeDiff, Nat.reducePow, Nat.reduceDiv, Nat.reduceMod, decide_true, k0, k5, k9, k10, cj', f1, Z1, NR h1.length _ _ _ lA]
        have rz := r4.up (Ext.b1 none)
        refine wCall_use ⟨vp.1, vp.2 F (h6 ++ [none]) q (some l') rz hq (fun m hm => by have := hF m hm; simp; omega)⟩ ?_
        rintro _ h7 ⟨⟨y, rfl, dy⟩, r7, x7, l7⟩
        change RRS F h7 q (voteC.dec (some l')).2 at r7
        have stp := hc.step cj (x := y) dy
        have l7' : h7.length = h6.length + 1 := by rw [l7]; simp
        have C7 := (x7.2 h.length (by simp; omega) (by simp only [only]; omega)).trans (Z0 none)
        have A7 := (x7.2 h1.length (by simp; omega) (by simp only [only]; omega)).trans (Z1 none)
        have N7 := (x7.2 h6.length (by simp) (by simp only [only]; omega)).trans (bx10 h6 none)
        have O7 := (hO.kp (h' := h6 ++ [none]) (fun m hm hm' => List.getElem?_append_left hm')).kp (h' := h7) (fun m hm hm' => x7.2 m hm' (by simp only [only]; omega))
        have X7 := (X1.tr (Ext.b1 none)).trans x7 (F'' := nof) (fun _ _ x => x) (fun m hm hm' => by simp only [only] at hm'; omega)
        have K7 : ∀ m, h1.length + 1 ≤ m → m < h5.length → h7[m]? = h5[m]? := fun m hm hm' => by rw [x7.2 m (by simp; omega) (by simp only [only]; omega), List.getElem?_append_left (by omega)]; exact hK m hm hm'
        have ew : IntKind.i64.wrap (↑j + 1) = (j : Int) + 1 := wrap_i64 (by omega)
        have xe : D.avLL ((ys ++ [y]).map Vote.c) = D.avLL (ys.map Vote.c) ++ [y.v] := by
          simp only [avLL_map, List.map_append, List.map_cons, List.map_nil]; rfl
        have vy : D.avL (Vote.c y) = y.v := rfl
        have hv5 : y.v.length = 5 := rfl
        have hvs : y.v.all AV.scalar = true := avL_scalars _
        have O8 := O7.setN (n := h6.length) (.inl N7) (some (.arr 5 [y.v] false))
        have ye : aelems (h7.set h6.length (some (.arr 5 [y.v] false))) 5 (.ref h6.length 5 0 1 (some 1)) = some [y.v] := aelems_at (List.getElem?_set_self (by omega)) _ rfl
        obtain ⟨o2, h8, s1, s2, s3'⟩ := acc_app (bytes := 40) (h := h7.set h6.length (some (.arr 5 [y.v] false))) (ys := [y.v]) O8 (Ext.refl _ _) (by rw [List.length_set]; omega) (by simp [avLL_length]; omega)
        rw [← aappend_of ye] at s1
        have hl8 := s3'.1
        rw [List.length_set] at hl8
        have A8 := (s3'.2 h1.length (by rw [List.length_set]; omega) (by omega)).trans ((List.getElem?_set_ne (by omega)).trans A7)
        have C8 := (s3'.2 h.length (by rw [List.length_set]; omega) (by omega)).trans ((List.getElem?_set_ne (by omega)).trans C7)
        have lt8 : h1.length < h8.length := by omega
        have ne6 : (h6.length = h1.length) = False := eq_false (by omega)
        simp only [go_sem, reduceIte, Nat.reduceEqDiff, Nat.reduceAdd, Nat.reduceLeDiff, Nat.reducePow, Nat.reduceDiv, Nat.reduceMod, decide_true, vy, k5, k10, A7, ne6, N7, hv5, hvs, s1, A8, lt8, s2.scalar, cells_of s2.scalar, ew, NR h1.length _ _ _ lA]
        refine ⟨_, by omega, (hJ _ _ _).2 ⟨j + 1, o2, ys ++ [y], (voteC.dec (some l')).2, by simp [lk_ins, k2], by simp [lk_ins, k0], by simp [lk_ins, k5], by simp [lk_ins, k9], by simp [lk_ins], ?_, List.getElem?_set_self lt8, ?_, ?_, ?_, ?_, ?_, stp, by simp [hxl2], by omega, rfl⟩⟩
        · rw [List.getElem?_set_ne (by omega)]; exact C8
        · rw [xe]; exact s2.setq (by omega) _
        · intro m hm hm'
          rw [List.getElem?_set_ne (by omega), s3'.2 m (by rw [List.length_set]; omega) (by omega), List.getElem?_set_ne (by omega)]; exact K7 m hm hm'
        · refine ((r7.keep (h' := h7.set h6.length (some (.arr 5 [y.v] false))) (List.getElem?_set_ne (by omega)) (fun m hm y hy => by have := hF m hm; rw [List.getElem?_set_ne (by omega)]; exact hy)).keep (h' := h8) (s3'.2 q (by rw [List.length_set]; omega) (by omega)) (fun m hm y hy => by have := hF m hm; rw [s3'.2 m (by rw [List.length_set]; omega) (by omega)]; exact hy)).keep (List.getElem?_set_ne (by omega)) (fun m hm y hy => by have := hF m hm; rw [List.getElem?_set_ne (by omega)]; exact hy)
        · exact ((X7.put (n := h6.length) (by omega) _).trans s3' (F'' := nof) (fun _ _ x => x) (fun m hm hm' => by omega)).put (by omega) _
        · rw [List.length_set]; omega
      · have hd2 : j = v ∨ st2 = none := by
          by_cases e : st2 = none
          · exact .inr e
          · exact .inl (Classical.byContradiction fun h => cont ⟨by omega, e⟩)
        obtain ⟨d1, d2⟩ := hc.done hd2
        have bn : (st2 = none ∧ decide ((j : Int) < v) = true) ∨ decide ((j : Int) < v) = false := by
          rcases hd2 with e | e
          · exact .inr (decide_eq_false (by omega))
          · by_cases c : decide ((j : Int) < v) = true
            · exact .inl ⟨e, c⟩
            · exact .inr (by simpa using c)
        clear cont hJ hd2 hc
        have gg2 : (st2 = none ∧ decide ((j : Int) < v) = true) → h6[q]? = some (some (.arr 3 [[b2, .int .i64 p2, .bool true]] false)) := fun e => by rw [f1, e.1]; rfl
        have eG : getImage l = if st2.end_ ≠ 0 then (⟨[], []⟩, st2.end_) else if Image.ordered ⟨xs, ys⟩ = true then (⟨xs, ys⟩, 0) else (⟨[], []⟩, 15) := by
          by_cases e : st' = none
          · have e2 : st2 = none := by rw [d1, ← lm, e]; exact (listC voteC).bad
            rw [gi3 e, e2]; rfl
          · rw [gi2 e, lm, ← d1]
            by_cases e2 : st2 = none
            · rw [e2]; rfl
            · rw [← d2 e2]
        have O6 := (hO0.kp (h' := h6) (fun m hm hm' => (hK m hm (by omega)).trans (K5 m hm hm')))
        have O6' := hO.lo (lo' := h1.length + 1) (by omega)
        have yl := hxl2
        clear gi2 gi3 d1 d2 hK K5 hO hO0 lm
        rcases bn with bn | bn
        · simp only [c_gleberef13_Get_l1, go_sem, reduceIte, Nat.reduceEqDiff, Nat.reduceAdd, Nat.reduceLeDiff, Nat.reducePow, Nat.reduceDiv, Nat.reduceMod, decide_true, k0, k9, k10, bn.2, gg2 bn]
          refine wCall_use ⟨hen.2, End_rr hen he0 r4⟩ ?_
          rintro _ h9 ⟨rfl, rfl⟩
          simp only [go_sem, reduceIte, Nat.reduceEqDiff, Nat.reduceAdd, Nat.reduceLeDiff, Nat.reducePow, Nat.reduceDiv, Nat.reduceMod, decide_true]
          by_cases ee : st2.end_ = 0
          · simp only [ee, go_sem, reduceIte, Nat.reduceEqDiff, Nat.reduceAdd, Nat.reduceLeDiff, Nat.reducePow, Nat.reduceDiv, Nat.reduceMod, decide_true, k5, A]
            refine wCall_use ⟨hod.1, hod.2 (fun m => h1.length + 1 ≤ m) h9 ⟨xs, ys⟩ _ ⟨_, _, rfl, ⟨_, O6.els, rdLL_av _ _ _⟩, _, _, rfl, ⟨_, O6'.els, rdLL_av _ _ _⟩, rfl⟩ (by simp only; omega) (by simp only; omega)⟩ ?_
            rintro _ h9 ⟨rfl, rfl⟩
            rw [eG, if_neg (by simp only [ee, ne_eq, not_true_eq_false, not_false_eq_true])]
            have T2 : ∀ x : AHeap → Prop, x h9 → x h9 := fun _ x => x
            cases eo : Image.ordered ⟨xs, ys⟩
            · simp only [go_sem, reduceIte, Nat.reduceEqDiff, Nat.reduceAdd, Nat.reduceLeDiff, Nat.reducePow, Nat.reduceDiv, Nat.reduceMod, decide_true, k2, C0, lC]
              exact ⟨_, rfl, ⟨_, _, rfl, OwnO.fz (.inl ⟨rfl, rfl⟩) (Nat.le_refl _), _, _, rfl, OwnO.fz (.inl ⟨rfl, rfl⟩) (Nat.le_refl _), rfl⟩, X1.put (by omega) _⟩
            · simp only [go_sem, reduceIte, Nat.reduceEqDiff, Nat.reduceAdd, Nat.reduceLeDiff, Nat.reducePow, Nat.reduceDiv, Nat.reduceMod, decide_true, k2, k5, A, C0, lC, O6.scalar, O6'.scalar]
              exact ⟨_, rfl, ⟨_, _, rfl, OwnO.fz (O6.setq (by omega) _) (by omega), _, _, rfl, OwnO.fz (O6'.setq (by omega) _) (by omega), rfl⟩, X1.put (by omega) _⟩
          · have en : decide (st2.end_ = 0) = false := decide_eq_false ee
            rw [eG, if_pos ee]
            simp only [go_sem, reduceIte, Nat.reduceEqDiff, Nat.reduceAdd, Nat.reduceLeDiff, Nat.reducePow, Nat.reduceDiv, Nat.reduceMod, decide_true, k2, C0, lC, en]
            exact ⟨_, rfl, ⟨_, _, rfl, OwnO.fz (.inl ⟨rfl, rfl⟩) (Nat.le_refl _), _, _, rfl, OwnO.fz (.inl ⟨rfl, rfl⟩) (Nat.le_refl _), rfl⟩, X1.put (by omega) _⟩
        · simp only [c_gleberef13_Get_l1, go_sem, reduceIte, Nat.reduceEqDiff, Nat.reduceAdd, Nat.reduceLeDiff, Nat.reducePow, Nat.reduceDiv, Nat.reduceMod, decide_true, k0, k9, k10, bn]
          refine wCall_use ⟨hen.2, End_rr hen he0 r4⟩ ?_
          rintro _ h9 ⟨rfl, rfl⟩
          simp only [go_sem, reduceIte, Nat.reduceEqDiff, Nat.reduceAdd, Nat.reduceLeDiff, Nat.reducePow, Nat.reduceDiv, Nat.reduceMod, decide_true]
          by_cases ee : st2.end_ = 0
          · simp only [ee, go_sem, reduceIte, Nat.reduceEqDiff, Nat.reduceAdd, Nat.reduceLeDiff, Nat.reducePow, Nat.reduceDiv, Nat.reduceMod, decide_true, k5, A]
            refine wCall_use ⟨hod.1, hod.2 (fun m => h1.length + 1 ≤ m) h9 ⟨xs, ys⟩ _ ⟨_, _, rfl, ⟨_, O6.els, rdLL_av _ _ _⟩, _, _, rfl, ⟨_, O6'.els, rdLL_av _ _ _⟩, rfl⟩ (by simp only; omega) (by simp only; omega)⟩ ?_
            rintro _ h9 ⟨rfl, rfl⟩
            rw [eG, if_neg (by simp only [ee, ne_eq, not_true_eq_false, not_false_eq_true])]
            have T2 : ∀ x : AHeap → Prop, x h9 → x h9 := fun _ x => x
            cases eo : Image.ordered ⟨xs, ys⟩
            · simp only [go_sem, reduceIte, Nat.reduceEqDiff, Nat.reduceAdd, Nat.reduceLeDiff, Nat.reducePow, Nat.reduceDiv, Nat.reduceMod, decide_true, k2, C0, lC]
              exact ⟨_, rfl, ⟨_, _, rfl, OwnO.fz (.inl ⟨rfl, rfl⟩) (Nat.le_refl _), _, _, rfl, OwnO.fz (.inl ⟨rfl, rfl⟩) (Nat.le_refl _), rfl⟩, X1.put (by omega) _⟩
            · simp only [go_sem, reduceIte, Nat.reduceEqDiff, Nat.reduceAdd, Nat.reduceLeDiff, Nat.reducePow, Nat.reduceDiv, Nat.reduceMod, decide_true, k2, k5, A, C0, lC, O6.scalar, O6'.scalar]
              exact ⟨_, rfl, ⟨_, _, rfl, OwnO.fz (O6.setq (by omega) _) (by omega), _, _, rfl, OwnO.fz (O6'.setq (by omega) _) (by omega), rfl⟩, X1.put (by omega) _⟩
          · have en : decide (st2.end_ = 0) = false := decide_eq_false ee
            rw [eG, if_pos ee]
            simp only [go_sem, reduceIte, Nat.reduceEqDiff, Nat.reduceAdd, Nat.reduceLeDiff, Nat.reducePow, Nat.reduceDiv, Nat.reduceMod, decide_true, k2, C0, lC, en]
            exact ⟨_, rfl, ⟨_, _, rfl, OwnO.fz (.inl ⟨rfl, rfl⟩) (Nat.le_refl _), _, _, rfl, OwnO.fz (.inl ⟨rfl, rfl⟩) (Nat.le_refl _), rfl⟩, X1.put (by omega) _⟩
    · simp only [c_gleberef13_Get_l0, go_sem, reduceIte, Nat.reduceEqDiff, Nat.reduceAdd, Nat.reduceLeDiff, Nat.reducePow, Nat.reduceDiv, Nat.reduceMod, decide_true, k0, k6, k7, hor]
      refine wCall_use ⟨hmn.1, hmn.2 F h4 q st' r4 hq hF4⟩ ?_
      rintro _ h5 ⟨rfl, r5, x5, l5⟩
      change RRS F h5 q (rMany st').2 at r5
      have C5 := (x5.2 h.length (by omega) (by simp only [only]; omega)).trans C0
      have A5 := (x5.2 h1.length (by omega) (by simp only [only]; omega)).trans A
      have X5 := X1.trans x5 (F'' := nof) (fun _ _ x => x) (fun m hm hm' => by simp only [only] at hm'; omega)
      have K5 : ∀ m, h1.length + 1 ≤ m → m < h4.length → h5[m]? = h4[m]? := fun m hm hm' => x5.2 m hm' (by simp only [only]; omega)
      have lm := rList_many voteC.dec st'
      obtain ⟨n3, n4⟩ := @rMany_n st'
      have n5 := r5.small.1
      generalize (rMany st').2 = s5 at *
      obtain ⟨v, hv⟩ : ∃ v : Nat, (rMany st').1 = v := ⟨(rMany st').1.toNat, by omega⟩
      rw [hv] at n4 lm ⊢
      simp only [go_sem, reduceIte, Nat.reduceEqDiff, Nat.reduceAdd, Nat.reduceLeDiff, Nat.reducePow, Nat.reduceDiv, Nat.reduceMod, decide_true, Int.toNat_natCast] at lm ⊢
      clear r4 x5 C0 A X1
      obtain ⟨J, hJ⟩ : ∃ J : Nat → Env → AHeap → Prop, ∀ m L h', J m L h' ↔ ∃ (i : Nat) (w : AV) (ys : List Vote) (st2 : Rdr), lk 2 L = .ptr h.length 2 0 0 ∧ lk 4 L = .ptr q 3 0 0 ∧ lk 5 L = .ptr h1.length 2 0 0 ∧ lk 9 L = .int .i64 v ∧ lk 10 L = .int .i64 i ∧
          h'[h.length]? = some (some (.arr 2 [[.nils, .nils]] false)) ∧ h'[h1.length]? = some (some (.arr 2 [[o, w]] false)) ∧ OwnO h5.length h' 5 w (D.avLL (ys.map Vote.c)) ∧ (∀ m, h1.length + 1 ≤ m → m < h5.length → h'[m]? = h5[m]?) ∧ RRS F h' q st2 ∧ Ext nof h h' ∧ h5.length ≤ h'.length ∧
          Come voteC.dec v s5 i ys st2 ∧ ys.length = i ∧ i ≤ v ∧ m = v - i := ⟨_, fun _ _ _ => Iff.rfl⟩
      refine vc_loop J v ((hJ _ _ _).2 ⟨0, .nils, [], s5, by simp [lk_ins, k2], by simp [lk_ins, k0], by simp [lk_ins, k5], by simp [lk_ins], by simp [lk_ins], C5, A5, .inl ⟨rfl, by simp [D.avLL]⟩, fun _ _ _ => rfl, r5, X5, by omega, Come.start _ rfl _ _, rfl, by omega, by omega⟩) ?_
      clear k0 k2 k5 k6 k7 r5 C5 A5 X5
      intro m L h6 hh
      obtain ⟨j, w, ys, st2, k2, k0, k5, k9, k10, C0, A, hO, hK, r4, X1, hl6, hc, hxl2, hj, rfl⟩ := (hJ _ _ _).1 hh
      have r4' := r4
      obtain ⟨b2, p2, all2, f1, -⟩ := r4'
      have lA := (List.getElem?_eq_some_iff.1 A).1
      have lC := (List.getElem?_eq_some_iff.1 C0).1
      by_cases cont : j < v ∧ st2 ≠ none
      · obtain ⟨cj, cs⟩ := cont
        have cj' : decide ((j : Int) < v) = true := decide_eq_true (by omega)
        obtain ⟨l', rfl⟩ := Option.ne_none_iff_exists'.1 cs
        simp only [Option.isNone_some] at f1
        have Z0 := fun z => (old1 (h := h6) (s := h.length) (by omega) z).trans C0
        have Z1 := fun z => (old1 (h := h6) (s := h1.length) (by omega) z).trans A
        have NR : ∀ m sz i o, m < h6.length → notRes h6.length 1 (.ptr m sz i o) = true := fun m sz i o hm => notRes_lt hm
        simp only [c_gleberef13_Get_l1, go_sem, reduceIte, Nat.reduceEqDiff, Nat.reduceAdd, Nat.reduceLeDiff, Nat.reducePow, Nat.reduceDiv, Nat.reduceMod, decide_true, k0, k5, k9, k10, cj', f1, Z1, NR h1.length _ _ _ lA]
        have rz := r4.up (Ext.b1 none)
        refine wCall_use ⟨vp.1, vp.2 F (h6 ++ [none]) q (some l') rz hq (fun m hm => by have := hF m hm; simp; omega)⟩ ?_
        rintro _ h7 ⟨⟨y, rfl, dy⟩, r7, x7, l7⟩
        change RRS F h7 q (voteC.dec (some l')).2 at r7
        have stp := hc.step cj (x := y) dy
        have l7' : h7.length = h6.length + 1 := by rw [l7]; simp
        have C7 := (x7.2 h.length (by simp; omega) (by simp only [only]; omega)).trans (Z0 none)
        have A7 := (x7.2 h1.length (by simp; omega) (by simp only [only]; omega)).trans (Z1 none)
        have N7 := (x7.2 h6.length (by simp) (by simp only [only]; omega)).trans (bx10 h6 none)
        have O7 := (hO.kp (h' := h6 ++ [none]) (fun m hm hm' => List.getElem?_append_left hm')).kp (h' := h7) (fun m hm hm' => x7.2 m hm' (by simp only [only]; omega))
        have X7 := (X1.tr (Ext.b1 none)).trans x7 (F'' := nof) (fun _ _ x => x) (fun m hm hm' => by simp only [only] at hm'; omega)
        have K7 : ∀ m, h1.length + 1 ≤ m → m < h5.length → h7[m]? = h5[m]? := fun m hm hm' => by rw [x7.2 m (by simp; omega) (by simp only [only]; omega), List.getElem?_append_left (by omega)]; exact hK m hm hm'
        have ew : IntKind.i64.wrap (↑j + 1) = (j : Int) + 1 := wrap_i64 (by omega)
        have xe : D.avLL ((ys ++ [y]).map Vote.c) = D.avLL (ys.map Vote.c) ++ [y.v] := by
          simp only [avLL_map, List.map_append, List.map_cons, List.map_nil]; rfl
        have vy : D.avL (Vote.c y) = y.v := rfl
        have hv5 : y.v.length = 5 := rfl
        have hvs : y.v.all AV.scalar = true := avL_scalars _
        have O8 := O7.setN (n := h6.length) (.inl N7) (some (.arr 5 [y.v] false))
        have ye : aelems (h7.set h6.length (some (.arr 5 [y.v] false))) 5 (.ref h6.length 5 0 1 (some 1)) = some [y.v] := aelems_at (List.getElem?_set_self (by omega)) _ rfl
        obtain ⟨o2, h8, s1, s2, s3'⟩ := acc_app (bytes := 40) (h := h7.set h6.length (some (.arr 5 [y.v] false))) (ys := [y.v]) O8 (Ext.refl _ _) (by rw [List.length_set]; omega) (by simp [avLL_length]; omega)
        rw [← aappend_of ye] at s1
        have hl8 := s3'.1
        rw [List.length_set] at hl8
        have A8 := (s3'.2 h1.length (by rw [List.length_set]; omega) (by omega)).trans ((List.getElem?_set_ne (by omega)).trans A7)
        have C8 := (s3'.2 h.length (by rw [List.length_set]; omega) (by omega)).trans ((List.getElem?_set_ne (by omega)).trans C7)
        have lt8 : h1.length < h8.length := by omega
        have ne6 : (h6.length = h1.length) = False := eq_false (by omega)
        simp only [go_sem, reduceIte, Nat.reduceEqDiff, Nat.reduceAdd, Nat.reduceLeDiff, Nat.reducePow, Nat.reduceDiv, Nat.reduceMod, decide_true, vy, k5, k10, A7, ne6, N7, hv5, hvs, s1, A8, lt8, s2.scalar, cells_of s2.scalar, ew, NR h1.length _ _ _ lA]
        refine ⟨_, by omega, (hJ _ _ _).2 ⟨j + 1, o2, ys ++ [y], (voteC.dec (some l')).2, by simp [lk_ins, k2], by simp [lk_ins, k0], by simp [lk_ins, k5], by simp [lk_ins, k9], by simp [lk_ins], ?_, List.getElem?_set_self lt8, ?_, ?_, ?_, ?_, ?_, stp, by simp [hxl2], by omega, rfl⟩⟩
        · rw [List.getElem?_set_ne (by omega)]; exact C8
        · rw [xe]; exact s2.setq (by omega) _
        · intro m hm hm'
          rw [List.getElem?_set_ne (by omega), s3'.2 m (by rw [List.length_set]; omega) (by omega), List.getElem?_set_ne (by omega)]; exact K7 m hm hm'
        · refine ((r7.keep (h' := h7.set h6.length (some (.arr 5 [y.v] false))) (List.getElem?_set_ne (by omega)) (fun m hm y hy => by have := hF m hm; rw [List.getElem?_set_ne (by omega)]; exact hy)).keep (h' := h8) (s3'.2 q (by rw [List.length_set]; omega) (by omega)) (fun m hm y hy => by have := hF m hm; rw [s3'.2 m (by rw [List.length_set]; omega) (by omega)]; exact hy)).keep (List.getElem?_set_ne (by omega)) (fun m hm y hy => by have := hF m hm; rw [List.getElem?_set_ne (by omega)]; exact hy)
        · exact ((X7.put (n := h6.length) (by omega) _).trans s3' (F'' := nof) (fun _ _ x => x) (fun m hm hm' => by omega)).put (by omega) _
        · rw [List.length_set]; omega
      · have hd2 : j = v ∨ st2 = none := by
          by_cases e : st2 = none
          · exact .inr e
          · exact .inl (Classical.byContradiction fun h => cont ⟨by omega, e⟩)
        obtain ⟨d1, d2⟩ := hc.done hd2
        have bn : (st2 = none ∧ decide ((j : Int) < v) = true) ∨ decide ((j : Int) < v) = false := by
          rcases hd2 with e | e
          · exact .inr (decide_eq_false (by omega))
          · by_cases c : decide ((j : Int) < v) = true
            · exact .inl ⟨e, c⟩
            · exact .inr (by simpa using c)
        clear cont hJ hd2 hc
        have gg2 : (st2 = none ∧ decide ((j : Int) < v) = true) → h6[q]? = some (some (.arr 3 [[b2, .int .i64 p2, .bool true]] false)) := fun e => by rw [f1, e.1]; rfl
        have eG : getImage l = if st2.end_ ≠ 0 then (⟨[], []⟩, st2.end_) else if Image.ordered ⟨xs, ys⟩ = true then (⟨xs, ys⟩, 0) else (⟨[], []⟩, 15) := by
          by_cases e : st' = none
          · have e2 : st2 = none := by rw [d1, ← lm, e]; exact (listC voteC).bad
            rw [gi3 e, e2]; rfl
          · rw [gi2 e, lm, ← d1]
            by_cases e2 : st2 = none
            · rw [e2]; rfl
            · rw [← d2 e2]
        have O6 := (hO0.kp (h' := h6) (fun m hm hm' => (hK m hm (by omega)).trans (K5 m hm hm')))
        have O6' := hO.lo (lo' := h1.length + 1) (by omega)
        have yl := hxl2
        clear gi2 gi3 d1 d2 hK K5 hO hO0 lm
        rcases bn with bn | bn
        · simp only [c_gleberef13_Get_l1, go_sem, reduceIte, Nat.reduceEqDiff, Nat.reduceAdd, Nat.reduceLeDiff, Nat.reducePow, Nat.reduceDiv, Nat.reduceMod, decide_true, k0, k9, k10, bn.2, gg2 bn]
          refine wCall_use ⟨hen.2, End_rr hen he0 r4⟩ ?_
          rintro _ h9 ⟨rfl, rfl⟩
          simp only [go_sem, reduceIte, Nat.reduceEqDiff, Nat.reduceAdd, Nat.reduceLeDiff, Nat.reducePow, Nat.reduceDiv, Nat.reduceMod, decide_true]
          by_cases ee : st2.end_ = 0
          · simp only [ee, go_sem, reduceIte, Nat.reduceEqDiff, Nat.reduceAdd, Nat.reduceLeDiff, Nat.reducePow, Nat.reduceDiv, Nat.reduceMod, decide_true, k5, A]
            refine wCall_use ⟨hod.1, hod.2 (fun m => h1.length + 1 ≤ m) h9 ⟨xs, ys⟩ _ ⟨_, _, rfl, ⟨_, O6.els, rdLL_av _ _ _⟩, _, _, rfl, ⟨_, O6'.els, rdLL_av _ _ _⟩, rfl⟩ (by simp only; omega) (by simp only; omega)⟩ ?_
            rintro _ h9 ⟨rfl, rfl⟩
            rw [eG, if_neg (by simp only [ee, ne_eq, not_true_eq_false, not_false_eq_true])]
            have T2 : ∀ x : AHeap → Prop, x h9 → x h9 := fun _ x => x
            cases eo : Image.ordered ⟨xs, ys⟩
            · simp only [go_sem, reduceIte, Nat.reduceEqDiff, Nat.reduceAdd, Nat.reduceLeDiff, Nat.reducePow, Nat.reduceDiv, Nat.reduceMod, decide_true, k2, C0, lC]
              exact ⟨_, rfl, ⟨_, _, rfl, OwnO.fz (.inl ⟨rfl, rfl⟩) (Nat.le_refl _), _, _, rfl, OwnO.fz (.inl ⟨rfl, rfl⟩) (Nat.le_refl _), rfl⟩, X1.put (by omega) _⟩
            · simp only [go_sem, reduceIte, Nat.reduceEqDiff, Nat.reduceAdd, Nat.reduceLeDiff, Nat.reducePow, Nat.reduceDiv, Nat.reduceMod, decide_true, k2, k5, A, C0, lC, O6.scalar, O6'.scalar]
              exact ⟨_, rfl, ⟨_, _, rfl, OwnO.fz (O6.setq (by omega) _) (by omega), _, _, rfl, OwnO.fz (O6'.setq (by omega) _) (by omega), rfl⟩, X1.put (by omega) _⟩
          · have en : decide (st2.end_ = 0) = false := decide_eq_false ee
            rw [eG, if_pos ee]
            simp only [go_sem, reduceIte, Nat.reduceEqDiff, Nat.reduceAdd, Nat.reduceLeDiff, Nat.reducePow, Nat.reduceDiv, Nat.reduceMod, decide_true, k2, C0, lC, en]
            exact ⟨_, rfl, ⟨_, _, rfl, OwnO.fz (.inl ⟨rfl, rfl⟩) (Nat.le_refl _), _, _, rfl, OwnO.fz (.inl ⟨rfl, rfl⟩) (Nat.le_refl _), rfl⟩, X1.put (by omega) _⟩
        · simp only [c_gleberef13_Get_l1, go_sem, reduceIte, Nat.reduceEqDiff, Nat.reduceAdd, Nat.reduceLeDiff, Nat.reducePow, Nat.reduceDiv, Nat.reduceMod, decide_true, k0, k9, k10, bn]
          refine wCall_use ⟨hen.2, End_rr hen he0 r4⟩ ?_
          rintro _ h9 ⟨rfl, rfl⟩
          simp only [go_sem, reduceIte, Nat.reduceEqDiff, Nat.reduceAdd, Nat.reduceLeDiff, Nat.reducePow, Nat.reduceDiv, Nat.reduceMod, decide_true]
          by_cases ee : st2.end_ = 0
          · simp only [ee, go_sem, reduceIte, Nat.reduceEqDiff, Nat.reduceAdd, Nat.reduceLeDiff, Nat.reducePow, Nat.reduceDiv, Nat.reduceMod, decide_true, k5, A]
            refine wCall_use ⟨hod.1, hod.2 (fun m => h1.length + 1 ≤ m) h9 ⟨xs, ys⟩ _ ⟨_, _, rfl, ⟨_, O6.els, rdLL_av _ _ _⟩, _, _, rfl, ⟨_, O6'.els, rdLL_av _ _ _⟩, rfl⟩ (by simp only; omega) (by simp only; omega)⟩ ?_
            rintro _ h9 ⟨rfl, rfl⟩
            rw [eG, if_neg (by simp only [ee, ne_eq, not_true_eq_false, not_false_eq_true])]
            have T2 : ∀ x : AHeap → Prop, x h9 → x h9 := fun _ x => x
            cases eo : Image.ordered ⟨xs, ys⟩
            · simp only [go_sem, reduceIte, Nat.reduceEqDiff, Nat.reduceAdd, Nat.reduceLeDiff, Nat.reducePow, Nat.reduceDiv, Nat.reduceMod, decide_true, k2, C0, lC]
              exact ⟨_, rfl, ⟨_, _, rfl, OwnO.fz (.inl ⟨rfl, rfl⟩) (Nat.le_refl _), _, _, rfl, OwnO.fz (.inl ⟨rfl, rfl⟩) (Nat.le_refl _), rfl⟩, X1.put (by omega) _⟩
            · simp only [go_sem, reduceIte, Nat.reduceEqDiff, Nat.reduceAdd, Nat.reduceLeDiff, Nat.reducePow, Nat.reduceDiv, Nat.reduceMod, decide_true, k2, k5, A, C0, lC, O6.scalar, O6'.scalar]
              exact ⟨_, rfl, ⟨_, _, rfl, OwnO.fz (O6.setq (by omega) _) (by omega), _, _, rfl, OwnO.fz (O6'.setq (by omega) _) (by omega), rfl⟩, X1.put (by omega) _⟩
          · have en : decide (st2.end_ = 0) = false := decide_eq_false ee
            rw [eG, if_pos ee]
            simp only [go_sem, reduceIte, Nat.reduceEqDiff, Nat.reduceAdd, Nat.reduceLeDiff, Nat.reducePow, Nat.reduceDiv, Nat.reduceMod, decide_true, k2, C0, lC, en]
            exact ⟨_, rfl, ⟨_, _, rfl, OwnO.fz (.inl ⟨rfl, rfl⟩) (Nat.le_refl _), _, _, rfl, OwnO.fz (.inl ⟨rfl, rfl⟩) (Nat.le_refl _), rfl⟩, X1.put (by omega) _⟩

end Glb

/-
  The document's GetChanges.
-/
namespace Glb
open Go
set_option maxRecDepth 10000
set_option maxHeartbeats 16000000

def GetChsP (P : Program) (f : FuncId) : Prop := isFn P f = true ∧ ∀ (G : Nat → Prop) (h : AHeap) (l : List Int) (b : AV), Rd G h (dBytes l) b → bytesOk l → l.length ≤ 2^37 →
  ACalls P f [b] h fun r h' => r = .tup [(dChanges (getChanges l).1).av, .int .i64 (getChanges l).2] ∧ h' = h

theorem r_GetChanges_ok {P : Program} {f rd mn g lo co bl vo en e0 : FuncId} (hf : Is P f (c_gleberef13_GetChanges rd mn g lo co bl vo en)) (hrd : ReadRR P rd) (hmn : RP P mn (fun st r => r = .int .i64 (rMany st).1) (fun st => (rMany st).2)) (hg : IntRR P g) (lp : GetRR P lo Log.c logC.dec) (cp : GetRR P co Conf.c confC.dec) (hbl : BlobRR P bl) (vp : GetRR P vo Vote.c voteC.dec)
    (hen : Is P en (c_gleberef02_Reader_End e0)) (he0 : LeftRR P e0) : GetChsP P f := by
  refine ⟨hf.2, fun G h l b hb hbo hlen => ?_⟩
  have gp := hg.p
  have bp := hbl.p
  refine ACalls.freeze (K := fun r h' => ∃ a, r = .tup [a, .int .i64 (getChanges l).2] ∧ Fz h.length h' (dChanges (getChanges l).1) a ∧ Ext nof h h') (fun_sound hf.1 (Nat.le_of_ble_eq_true rfl) ?_) (fun _ _ ⟨_, e, hz, hx⟩ => ⟨hx, _, e ▸ Frz.tup2 (Frz.d hz) (Frz.int _ _), rfl⟩)
  show vc P (c_gleberef13_GetChanges rd mn g lo co bl vo en).code ⟨[(0, b)], [], h⟩ (atEnd (c_gleberef13_GetChanges rd mn g lo co bl vo en).res _)
  simp only [c_gleberef13_GetChanges, go_sem, reduceIte, Nat.reduceEqDiff, Nat.reduceAdd, Nat.reduceLeDiff, Nat.reducePow, Nat.reduceDiv, Nat.reduceMod, decide_true]
  refine wCall_use ⟨hrd.1, hrd.2 G h l b hb hbo (by omega)⟩ ?_
  rintro _ h1 ⟨rfl, r1, x1⟩
  have r1 := r1.under
  have X1 := x1
  obtain ⟨q, hqd⟩ : ∃ q, h.length = q := ⟨_, rfl⟩
  rw [hqd] at r1 ⊢
  have lq1 := r1.lt
  obtain ⟨F, hFd⟩ : ∃ F : Nat → Prop, F = fun m => q + 1 ≤ m ∧ m < h1.length := ⟨_, rfl⟩
  have hq : ¬ F q := by rw [hFd]; intro hh; have := hh.1; omega
  rw [← hFd] at r1
  have hF : ∀ m, F m → m < h1.length := fun m hm => by rw [hFd] at hm; exact hm.2
  have hF2 : ∀ m, F m → h.length + 1 ≤ m := fun m hm => by rw [hFd] at hm; have := hm.1; omega
  clear hFd
  simp only [go_sem, reduceIte, Nat.reduceEqDiff, Nat.reduceAdd, Nat.reduceLeDiff, Nat.reducePow, Nat.reduceDiv, Nat.reduceMod, decide_true]
  refine wCall_use ⟨hmn.1, hmn.2 F h1 q (some l) r1 hq hF⟩ ?_
  rintro _ h3 ⟨rfl, r3, x3, l3⟩
  change RRS F h3 q (rMany (some l)).2 at r3
  have X1 := X1.trans x3 (F'' := nof) (fun _ _ x => x) (fun m hm hm' => by simp only [only] at hm'; omega)
  have dl : changesC.dec (some l) = rList changeC.dec (some l) := rfl
  have gi : getChanges l = if (changesC.dec (some l)).2.end_ ≠ 0 then ([], (changesC.dec (some l)).2.end_) else ((changesC.dec (some l)).1, 0) := rfl
  rw [dl, rList_many changeC.dec] at gi
  obtain ⟨n0, n1⟩ := @rMany_n (some l)
  have n2 := r3.small.1
  generalize (rMany (some l)).2 = s3 at *
  obtain ⟨n, hn⟩ : ∃ n : Nat, (rMany (some l)).1 = n := ⟨(rMany (some l)).1.toNat, by omega⟩
  rw [hn] at n1 gi ⊢
  simp only [go_sem, reduceIte, Nat.reduceEqDiff, Nat.reduceAdd, Nat.reduceLeDiff, Nat.reducePow, Nat.reduceDiv, Nat.reduceMod, decide_true, Int.toNat_natCast] at gi ⊢
  obtain ⟨I, hI⟩ : ∃ I : Nat → Env → AHeap → Prop, ∀ m L h', I m L h' ↔ ∃ (i : Nat) (o : AV) (xs : List Change) (st' : Rdr), lk 4 L = .ptr q 3 0 0 ∧ lk 5 L = o ∧ lk 6 L = .int .i64 n ∧ lk 7 L = .int .i64 i ∧
      OwnO h3.length h' 17 o (D.avLL (xs.map Change.c)) ∧ RRS F h' q st' ∧ Ext nof h h' ∧ h3.length ≤ h'.length ∧
      Come changeC.dec n s3 i xs st' ∧ xs.length = i ∧ i ≤ n ∧ m = n - i := ⟨_, fun _ _ _ => Iff.rfl⟩
  refine vc_loop I n ((hI _ _ _).2 ⟨0, .nils, [], s3, by simp [lk_ins, lk_cons], by simp [lk_ins, lk_cons], by simp [lk_ins, lk_cons], by simp [lk_ins], .inl ⟨rfl, by simp [D.avLL]⟩, r3, X1, by omega, Come.start _ rfl _ _, rfl, by omega, by omega⟩) ?_
  clear r3 x3 X1 x1 r1
  intro m L h4 hh
  obtain ⟨i, o, xs, st', k0, k5, k6, k7, hO, r4, X1, hl4, hc, hxl, hi, rfl⟩ := (hI _ _ _).1 hh
  have r4' := r4
  obtain ⟨b', p, all, g1, g2, g3, g4, g5, g6⟩ := r4'
  by_cases cont : i < n ∧ st' ≠ none
  · obtain ⟨ci, cs⟩ := cont
    have ci' : decide ((i : Int) < n) = true := decide_eq_true (by omega)
    obtain ⟨l', rfl⟩ := Option.ne_none_iff_exists'.1 cs
    simp only [Option.isNone_some] at g1
    have dd : changeC.dec (some l') = (⟨(rInt (some l')).1, (rInt (rInt (some l')).2).1, (rInt (rInt (rInt (some l')).2).2).1, (rInt (rInt (rInt (rInt (some l')).2).2).2).1, (rInt (rInt (rInt (rInt (rInt (some l')).2).2).2).2).1, (logC.dec (rInt (rInt (rInt (rInt (rInt (some l')).2).2).2).2).2).1, (confC.dec (logC.dec (rInt (rInt (rInt (rInt (rInt (some l')).2).2).2).2).2).2).1, (rBlob (confC.dec (logC.dec (rInt (rInt (rInt (rInt (rInt (some l')).2).2).2).2).2).2).2).1, (voteC.dec (rBlob (confC.dec (logC.dec (rInt (rInt (rInt (rInt (rInt (some l')).2).2).2).2).2).2).2).2).1⟩, (voteC.dec (rBlob (confC.dec (logC.dec (rInt (rInt (rInt (rInt (rInt (some l')).2).2).2).2).2).2).2).2).2) := rfl
    have stp := fun x hx => hc.step ci (x := x) hx
    rw [dd] at stp
    clear g2 g3 g4 g5 g6 dd
    simp only [c_gleberef13_GetChanges_l0, go_sem, reduceIte, Nat.reduceEqDiff, Nat.reduceAdd, Nat.reduceLeDiff, Nat.reducePow, Nat.reduceDiv, Nat.reduceMod, decide_true, k0, k6, k7, ci', g1]
    clear g1
    generalize l' = l at *
    have q4 : q < h4.length := by omega
    have hF4 : ∀ m, F m → m < h4.length := fun m hm => by have := hF m hm; omega
    refine wCall_use ⟨gp.1, gp.2 F h4 q (some l) r4 hq hF4⟩ ?_
    rintro _ g1 ⟨rfl, r11, x11, l11⟩
    change RRS F g1 q (rInt (some l)).2 at r11
    generalize e1 : (rInt (some l)).1 = t1 at *
    generalize n1 : (rInt (some l)).2 = u1 at *
    simp only [go_sem, reduceIte, Nat.reduceEqDiff, Nat.reduceAdd, Nat.reduceLeDiff, Nat.reducePow, Nat.reduceDiv, Nat.reduceMod, decide_true, scalar_aentries, cells_aentries, scalar_aints, cells_aints, scalar_abytes, cells_abytes]
    have R := Rec.new r11 x11 l11 (.arr 17 [[.int .i64 t1, .int .i64 0, .int .i64 0, .int .i64 0, .int .i64 0, .int .i64 0, .int .i64 0, .nils, .nils, .nils, .nils, .nils, .int .i64 0, .int .i64 0, .int .i64 0, .int .i64 0, .int .i64 0]] false)
    generalize g1 ++ [some (ABlk.arr 17 [[.int .i64 t1, .int .i64 0, .int .i64 0, .int .i64 0, .int .i64 0, .int .i64 0, .int .i64 0, .nils, .nils, .nils, .nils, .nils, .int .i64 0, .int .i64 0, .int .i64 0, .int .i64 0, .int .i64 0]] false)] = H1 at *
    have l6 := R.l
    simp only [l11]
    simp only [k0]
    refine wCall_use ⟨gp.1, gp.2 F H1 q u1 R.r hq (fun m hm => by have := hF4 m hm; omega)⟩ ?_
    rintro _ g2 ⟨rfl, r12, x12, l12⟩
    have R := R.call q4 r12 x12 l12
    change Rec F q h4 g2 _ (rInt u1).2 at R
    generalize e2 : (rInt u1).1 = t2 at *
    generalize n2 : (rInt u1).2 = u2 at *
    have E := R.E
    have l6 := R.l
    have lt : h4.length < g2.length := by omega
    simp only [go_sem, reduceIte, Nat.reduceEqDiff, Nat.reduceAdd, Nat.reduceLeDiff, Nat.reducePow, Nat.reduceDiv, Nat.reduceMod, decide_true, E, lt, scalar_aentries, cells_aentries, scalar_aints, cells_aints, scalar_abytes, cells_abytes]
    have R := R.put q4 hF4 (.arr 17 [[.int .i64 t1, .int .i64 t2, .int .i64 0, .int .i64 0, .int .i64 0, .int .i64 0, .int .i64 0, .nils, .nils, .nils, .nils, .nils, .int .i64 0, .int .i64 0, .int .i64 0, .int .i64 0, .int .i64 0]] false)
    generalize g2.set h4.length (some (ABlk.arr 17 [[.int .i64 t1, .int .i64 t2, .int .i64 0, .int .i64 0, .int .i64 0, .int .i64 0, .int .i64 0, .nils, .nils, .nils, .nils, .nils, .int .i64 0, .int .i64 0, .int .i64 0, .int .i64 0, .int .i64 0]] false)) = H2 at *
    have l7 := R.l
    simp only [k0]
    refine wCall_use ⟨gp.1, gp.2 F H2 q u2 R.r hq (fun m hm => by have := hF4 m hm; omega)⟩ ?_
    rintro _ g3 ⟨rfl, r13, x13, l13⟩
    have R := R.call q4 r13 x13 l13
    change Rec F q h4 g3 _ (rInt u2).2 at R
    generalize e3 : (rInt u2).1 = t3 at *
    generalize n3 : (rInt u2).2 = u3 at *
    have E := R.E
    have l6 := R.l
    have lt : h4.length < g3.length := by omega
    simp only [go_sem, reduceIte, Nat.reduceEqDiff, Nat.reduceAdd, Nat.reduceLeDiff, Nat.reducePow, Nat.reduceDiv, Nat.reduceMod, decide_true, E, lt, scalar_aentries, cells_aentries, scalar_aints, cells_aints, scalar_abytes, cells_abytes]
    have R := R.put q4 hF4 (.arr 17 [[.int .i64 t1, .int .i64 t2, .int .i64 t3, .int .i64 0, .int .i64 0, .int .i64 0, .int .i64 0, .nils, .nils, .nils, .nils, .nils, .int .i64 0, .int .i64 0, .int .i64 0, .int .i64 0, .int .i64 0]] false)
    generalize g3.set h4.length (some (ABlk.arr 17 [[.int .i64 t1, .int .i64 t2, .int .i64 t3, .int .i64 0, .int .i64 0, .int .i64 0, .int .i64 0, .nils, .nils, .nils, .nils, .nils, .int .i64 0, .int .i64 0, .int .i64 0, .int .i64 0, .int .i64 0]] false)) = H3 at *
    have l7 := R.l
    simp only [k0]
    refine wCall_use ⟨gp.1, gp.2 F H3 q u3 R.r hq (fun m hm => by have := hF4 m hm; omega)⟩ ?_
    rintro _ g4 ⟨rfl, r14, x14, l14⟩
    have R := R.call q4 r14 x14 l14
    change Rec F q h4 g4 _ (rInt u3).2 at R
    generalize e4 : (rInt u3).1 = t4 at *
    generalize n4 : (rInt u3).2 = u4 at *
    have E := R.E
    have l6 := R.l
    have lt : h4.length < g4.length := by omega
    simp only [go_sem, reduceIte, Nat.reduceEqDiff, Nat.reduceAdd, Nat.reduceLeDiff, Nat.reducePow, Nat.reduceDiv, Nat.reduceMod, decide_true, E, lt, scalar_aentries, cells_aentries, scalar_aints, cells_aints, scalar_abytes, cells_abytes]
    have R := R.put q4 hF4 (.arr 17 [[.int .i64 t1, .int .i64 t2, .int .i64 t3, .int .i64 t4, .int .i64 0, .int .i64 0, .int .i64 0, .nils, .nils, .nils, .nils, .nils, .int .i64 0, .int .i64 0, .int .i64 0, .int .i64 0, .int .i64 0]] false)
    generalize g4.set h4.length (some (ABlk.arr 17 [[.int .i64 t1, .int .i64 t2, .int .i64 t3, .int .i64 t4, .int .i64 0, .int .i64 0, .int .i64 0, .nils, .nils, .nils, .nils, .nils, .int .i64 0, .int .i64 0, .int .i64 0, .int .i64 0, .int .i64 0]] false)) = H4 at *
    have l7 := R.l
    simp only [k0]
    refine wCall_use ⟨gp.1, gp.2 F H4 q u4 R.r hq (fun m hm => by have := hF4 m hm; omega)⟩ ?_
    rintro _ g5 ⟨rfl, r15, x15, l15⟩
    have R := R.call q4 r15 x15 l15
    change Rec F q h4 g5 _ (rInt u4).2 at R
    generalize e5 : (rInt u4).1 = t5 at *
    generalize n5 : (rInt u4).2 = u5 at *
    have E := R.E
    have l6 := R.l
    have lt : h4.length < g5.length := by omega
    simp only [go_sem, reduceIte, Nat.reduceEqDiff, Nat.reduceAdd, Nat.reduceLeDiff, Nat.reducePow, Nat.reduceDiv, Nat.reduceMod, decide_true, E, lt, scalar_aentries, cells_aentries, scalar_aints, cells_aints, scalar_abytes, cells_abytes]
    have R := R.put q4 hF4 (.arr 17 [[.int .i64 t1, .int .i64 t2, .int .i64 t3, .int .i64 t4, .int .i64 t5, .int .i64 0, .int .i64 0, .nils, .nils, .nils, .nils, .nils, .int .i64 0, .int .i64 0, .int .i64 0, .int .i64 0, .int .i64 0]] false)
    generalize g5.set h4.length (some (ABlk.arr 17 [[.int .i64 t1, .int .i64 t2, .int .i64 t3, .int .i64 t4, .int .i64 t5, .int .i64 0, .int .i64 0, .nils, .nils, .nils, .nils, .nils, .int .i64 0, .int .i64 0, .int .i64 0, .int .i64 0, .int .i64 0]] false)) = H5 at *
    have l7 := R.l
    simp only [k0]
    refine wCall_use ⟨lp.1, lp.2 F H5 q u5 R.r hq (fun m hm => by have := hF4 m hm; omega)⟩ ?_
    rintro _ g6 ⟨⟨t6, rfl, d6⟩, r16, x16, l16⟩
    have R := R.call q4 r16 x16 l16
    change Rec F q h4 g6 _ (logC.dec u5).2 at R
    generalize n6 : (logC.dec u5).2 = u6 at *
    have sc := scalar_aentries t6.es
    have vq6 : D.avL (Log.c t6) = [.int .i64 t6.base, .int .i64 t6.bterm, aentries t6.es] := Log.v_eq t6
    rw [vq6]
    have E := R.E
    have l6 := R.l
    have lt : h4.length < g6.length := by omega
    simp only [go_sem, reduceIte, Nat.reduceEqDiff, Nat.reduceAdd, Nat.reduceLeDiff, Nat.reducePow, Nat.reduceDiv, Nat.reduceMod, decide_true, E, lt, scalar_aentries, cells_aentries, scalar_aints, cells_aints, scalar_abytes, cells_abytes]
    have R := R.put q4 hF4 (.arr 17 [[.int .i64 t1, .int .i64 t2, .int .i64 t3, .int .i64 t4, .int .i64 t5, .int .i64 t6.base, .int .i64 t6.bterm, aentries t6.es, .nils, .nils, .nils, .nils, .int .i64 0, .int .i64 0, .int .i64 0, .int .i64 0, .int .i64 0]] false)
    generalize g6.set h4.length (some (ABlk.arr 17 [[.int .i64 t1, .int .i64 t2, .int .i64 t3, .int .i64 t4, .int .i64 t5, .int .i64 t6.base, .int .i64 t6.bterm, aentries t6.es, .nils, .nils, .nils, .nils, .int .i64 0, .int .i64 0, .int .i64 0, .int .i64 0, .int .i64 0]] false)) = H6 at *
    have l7 := R.l
    simp only [k0]
    refine wCall_use ⟨cp.1, cp.2 F H6 q u6 R.r hq (fun m hm => by have := hF4 m hm; omega)⟩ ?_
    rintro _ g7 ⟨⟨t7, rfl, d7⟩, r17, x17, l17⟩
    have R := R.call q4 r17 x17 l17
    change Rec F q h4 g7 _ (confC.dec u6).2 at R
    generalize n7 : (confC.dec u6).2 = u7 at *
    have vq7 : D.avL (Conf.c t7) = [aints t7.old, aints t7.new, aints t7.learners] := Conf.v_eq t7
    rw [vq7]
    have E := R.E
    have l6 := R.l
    have lt : h4.length < g7.length := by omega
    simp only [go_sem, reduceIte, Nat.reduceEqDiff, Nat.reduceAdd, Nat.reduceLeDiff, Nat.reducePow, Nat.reduceDiv, Nat.reduceMod, decide_true, E, lt, scalar_aentries, cells_aentries, scalar_aints, cells_aints, scalar_abytes, cells_abytes]
    have R := R.put q4 hF4 (.arr 17 [[.int .i64 t1, .int .i64 t2, .int .i64 t3, .int .i64 t4, .int .i64 t5, .int .i64 t6.base, .int .i64 t6.bterm, aentries t6.es, aints t7.old, aints t7.new, aints t7.learners, .nils, .int .i64 0, .int .i64 0, .int .i64 0, .int .i64 0, .int .i64 0]] false)
    generalize g7.set h4.length (some (ABlk.arr 17 [[.int .i64 t1, .int .i64 t2, .int .i64 t3, .int .i64 t4, .int .i64 t5, .int .i64 t6.base, .int .i64 t6.bterm, aentries t6.es, aints t7.old, aints t7.new, aints t7.learners, .nils, .int .i64 0, .int .i64 0, .int .i64 0, .int .i64 0, .int .i64 0]] false)) = H7 at *
    have l7 := R.l
    simp only [k0]
    refine wCall_use ⟨bp.1, bp.2 F H7 q u7 R.r hq (fun m hm => by have := hF4 m hm; omega)⟩ ?_
    rintro _ g8 ⟨rfl, r18, x18, l18⟩
    have R := R.call q4 r18 x18 l18
    change Rec F q h4 g8 _ (rBlob u7).2 at R
    generalize e8 : (rBlob u7).1 = t8 at *
    generalize n8 : (rBlob u7).2 = u8 at *
    have E := R.E
    have l6 := R.l
    have lt : h4.length < g8.length := by omega
    simp only [go_sem, reduceIte, Nat.reduceEqDiff, Nat.reduceAdd, Nat.reduceLeDiff, Nat.reducePow, Nat.reduceDiv, Nat.reduceMod, decide_true, E, lt, scalar_aentries, cells_aentries, scalar_aints, cells_aints, scalar_abytes, cells_abytes]
    have R := R.put q4 hF4 (.arr 17 [[.int .i64 t1, .int .i64 t2, .int .i64 t3, .int .i64 t4, .int .i64 t5, .int .i64 t6.base, .int .i64 t6.bterm, aentries t6.es, aints t7.old, aints t7.new, aints t7.learners, abytes t8, .int .i64 0, .int .i64 0, .int .i64 0, .int .i64 0, .int .i64 0]] false)
    generalize g8.set h4.length (some (ABlk.arr 17 [[.int .i64 t1, .int .i64 t2, .int .i64 t3, .int .i64 t4, .int .i64 t5, .int .i64 t6.base, .int .i64 t6.bterm, aentries t6.es, aints t7.old, aints t7.new, aints t7.learners, abytes t8, .int .i64 0, .int .i64 0, .int .i64 0, .int .i64 0, .int .i64 0]] false)) = H8 at *
    have l7 := R.l
    simp only [k0]
    refine wCall_use ⟨vp.1, vp.2 F H8 q u8 R.r hq (fun m hm => by have := hF4 m hm; omega)⟩ ?_
    rintro _ g9 ⟨⟨t9, rfl, d9⟩, r19, x19, l19⟩
    have R := R.call q4 r19 x19 l19
    change Rec F q h4 g9 _ (voteC.dec u8).2 at R
    generalize n9 : (voteC.dec u8).2 = u9 at *
    have vq9 : D.avL (Vote.c t9) = [.int .i64 t9.txn, .int .i64 t9.part, .int .i64 t9.promised, .int .i64 t9.ballot, .int .i64 t9.value] := Vote.v_eq t9
    rw [vq9]
    have E := R.E
    have l6 := R.l
    have lt : h4.length < g9.length := by omega
    simp only [go_sem, reduceIte, Nat.reduceEqDiff, Nat.reduceAdd, Nat.reduceLeDiff, Nat.reducePow, Nat.reduceDiv, Nat.reduceMod, decide_true, E, lt, scalar_aentries, cells_aentries, scalar_aints, cells_aints, scalar_abytes, cells_abytes]
    have R := R.put q4 hF4 (.arr 17 [[.int .i64 t1, .int .i64 t2, .int .i64 t3, .int .i64 t4, .int .i64 t5, .int .i64 t6.base, .int .i64 t6.bterm, aentries t6.es, aints t7.old, aints t7.new, aints t7.learners, abytes t8, .int .i64 t9.txn, .int .i64 t9.part, .int .i64 t9.promised, .int .i64 t9.ballot, .int .i64 t9.value]] false)
    generalize g9.set h4.length (some (ABlk.arr 17 [[.int .i64 t1, .int .i64 t2, .int .i64 t3, .int .i64 t4, .int .i64 t5, .int .i64 t6.base, .int .i64 t6.bterm, aentries t6.es, aints t7.old, aints t7.new, aints t7.learners, abytes t8, .int .i64 t9.txn, .int .i64 t9.part, .int .i64 t9.promised, .int .i64 t9.ballot, .int .i64 t9.value]] false)) = H9 at *
    have l7 := R.l
    have hx : u9 ≠ none → (⟨t1, t2, t3, t4, t5, t6, t7, t8, t9⟩ : Change) = ⟨t1, t2, t3, t4, t5, (logC.dec u5).1, (confC.dec u6).1, t8, (voteC.dec u8).1⟩ := by
      intro h9
      have h8 : u8 ≠ none := fun e => by rw [e, voteC.bad] at n9; exact h9 n9.symm
      have h7 : u7 ≠ none := fun e => by rw [e] at n8; exact h8 n8.symm
      have h6 : u6 ≠ none := fun e => by rw [e, confC.bad] at n7; exact h7 n7.symm
      rw [d6 h6, d7 h7, d9 h9]
    have stp := stp _ hx
    have E := R.E
    have l9 := R.l
    have O7 := hO.kp (h' := H9) (fun m hm hm' => R.X.2 m hm' (by simp only [only]; omega))
    have ew : IntKind.i64.wrap (↑i + 1) = (i : Int) + 1 := wrap_i64 (by omega)
    have xe : D.avLL ((xs ++ [(⟨t1, t2, t3, t4, t5, t6, t7, t8, t9⟩ : Change)]).map Change.c) = D.avLL (xs.map Change.c) ++ [[.int .i64 t1, .int .i64 t2, .int .i64 t3, .int .i64 t4, .int .i64 t5, .int .i64 t6.base, .int .i64 t6.bterm, aentries t6.es, aints t7.old, aints t7.new, aints t7.learners, abytes t8, .int .i64 t9.txn, .int .i64 t9.part, .int .i64 t9.promised, .int .i64 t9.ballot, .int .i64 t9.value]] := by
      simp only [avLL_map, List.map_append, List.map_cons, List.map_nil]; rfl
    obtain ⟨o2, h8, s1, s2, s3'⟩ := acc_app (bytes := 216) (h := H9 ++ [some (.arr 17 [[.int .i64 t1, .int .i64 t2, .int .i64 t3, .int .i64 t4, .int .i64 t5, .int .i64 t6.base, .int .i64 t6.bterm, aentries t6.es, aints t7.old, aints t7.new, aints t7.learners, abytes t8, .int .i64 t9.txn, .int .i64 t9.part, .int .i64 t9.promised, .int .i64 t9.ballot, .int .i64 t9.value]] false)]) (ys := [[.int .i64 t1, .int .i64 t2, .int .i64 t3, .int .i64 t4, .int .i64 t5, .int .i64 t6.base, .int .i64 t6.bterm, aentries t6.es, aints t7.old, aints t7.new, aints t7.learners, abytes t8, .int .i64 t9.txn, .int .i64 t9.part, .int .i64 t9.promised, .int .i64 t9.ballot, .int .i64 t9.value]]) O7 (Ext.b1 _) (by omega) (by simp [avLL_length]; omega)
    rw [← aappend_of (aelems_new H9 17 [[.int .i64 t1, .int .i64 t2, .int .i64 t3, .int .i64 t4, .int .i64 t5, .int .i64 t6.base, .int .i64 t6.bterm, aentries t6.es, aints t7.old, aints t7.new, aints t7.learners, abytes t8, .int .i64 t9.txn, .int .i64 t9.part, .int .i64 t9.promised, .int .i64 t9.ballot, .int .i64 t9.value]] false (some 1) (len := 1) rfl)] at s1
    have hl8 := s3'.1
    simp only [len_app1] at hl8
    simp only [go_sem, reduceIte, Nat.reduceEqDiff, Nat.reduceAdd, Nat.reduceLeDiff, Nat.reducePow, Nat.reduceDiv, Nat.reduceMod, decide_true, k5, k7, E, scalar_aentries, cells_aentries, scalar_aints, cells_aints, scalar_abytes, cells_abytes, s1, ew]
    refine ⟨_, by omega, (hI _ _ _).2 ⟨i + 1, o2, xs ++ [⟨t1, t2, t3, t4, t5, t6, t7, t8, t9⟩], u9, by simp [lk_ins, k0], by simp [lk_ins, lk_cons], by simp [lk_ins, k6], by simp [lk_ins], ?_, ?_, ?_, ?_, stp, by simp [hxl], by omega, rfl⟩⟩
    · rw [xe]; exact s2
    · exact (R.r.up (Ext.b1 _)).keep (h' := h8) (s3'.2 q (by simp; omega) (by omega)) (fun m hm y hy => by have := hF m hm; rw [s3'.2 m (by simp; omega) (by omega)]; exact hy)
    · exact ((X1.trans R.X (F'' := nof) (fun _ _ x => x) (fun m hm hm' => by simp only [only] at hm'; omega)).tr (Ext.b1 _)).trans s3' (F'' := nof) (fun _ _ x => x) (fun m hm hm' => by omega)
    · omega
  · have hd : i = n ∨ st' = none := by
      by_cases e : st' = none
      · exact .inr e
      · exact .inl (Classical.byContradiction fun h => cont ⟨by omega, e⟩)
    obtain ⟨d1, d2⟩ := hc.done hd
    have bn : (st' = none ∧ decide ((i : Int) < n) = true) ∨ decide ((i : Int) < n) = false := by
      rcases hd with e | e
      · exact .inr (decide_eq_false (by omega))
      · by_cases c : decide ((i : Int) < n) = true
        · exact .inl ⟨e, c⟩
        · exact .inr (by simpa using c)
    have gg : (st' = none ∧ decide ((i : Int) < n) = true) → h4[q]? = some (some (.arr 3 [[b', .int .i64 p, .bool true]] false)) := fun e => by rw [g1, e.1]; rfl
    have eG : getChanges l = if st'.end_ ≠ 0 then ([], st'.end_) else (xs, 0) := by
      rw [gi, ← d1]
      by_cases e2 : st' = none
      · rw [e2]; rfl
      · rw [← d2 e2]
    have O6 := hO.lo (lo' := h.length) (by omega)
    clear gi d1 d2 hO hI hc cont hd
    rcases bn with bn | bn
    · simp only [c_gleberef13_GetChanges_l0, go_sem, reduceIte, Nat.reduceEqDiff, Nat.reduceAdd, Nat.reduceLeDiff, Nat.reducePow, Nat.reduceDiv, Nat.reduceMod, decide_true, k0, k6, k7, bn.2, gg bn]
      refine wCall_use ⟨hen.2, End_rr hen he0 r4⟩ ?_
      rintro _ h9 ⟨rfl, rfl⟩
      simp only [go_sem, reduceIte, Nat.reduceEqDiff, Nat.reduceAdd, Nat.reduceLeDiff, Nat.reducePow, Nat.reduceDiv, Nat.reduceMod, decide_true]
      by_cases ee : st'.end_ = 0
      · rw [eG, if_neg (by simp only [ee, ne_eq, not_true_eq_false, not_false_eq_true])]
        simp only [ee, go_sem, reduceIte, Nat.reduceEqDiff, Nat.reduceAdd, Nat.reduceLeDiff, Nat.reducePow, Nat.reduceDiv, Nat.reduceMod, decide_true, k5]
        exact ⟨_, rfl, OwnO.fz O6 (by omega), X1⟩
      · have en : decide (st'.end_ = 0) = false := decide_eq_false ee
        rw [eG, if_pos ee]
        simp only [go_sem, reduceIte, Nat.reduceEqDiff, Nat.reduceAdd, Nat.reduceLeDiff, Nat.reducePow, Nat.reduceDiv, Nat.reduceMod, decide_true, en]
        exact ⟨_, rfl, OwnO.fz (.inl ⟨rfl, rfl⟩) (Nat.le_refl _), X1⟩
    · simp only [c_gleberef13_GetChanges_l0, go_sem, reduceIte, Nat.reduceEqDiff, Nat.reduceAdd, Nat.reduceLeDiff, Nat.reducePow, Nat.reduceDiv, Nat.reduceMod, decide_true, k0, k6, k7, bn]
      refine wCall_use ⟨hen.2, End_rr hen he0 r4⟩ ?_
      rintro _ h9 ⟨rfl, rfl⟩
      simp only [go_sem, reduceIte, Nat.reduceEqDiff, Nat.reduceAdd, Nat.reduceLeDiff, Nat.reducePow, Nat.reduceDiv, Nat.reduceMod, decide_true]
      by_cases ee : st'.end_ = 0
      · rw [eG, if_neg (by simp only [ee, ne_eq, not_true_eq_false, not_false_eq_true])]
        simp only [ee, go_sem, reduceIte, Nat.reduceEqDiff, Nat.reduceAdd, Nat.reduceLeDiff, Nat.reducePow, Nat.reduceDiv, Nat.reduceMod, decide_true, k5]
        exact ⟨_, rfl, OwnO.fz O6 (by omega), X1⟩
      · have en : decide (st'.end_ = 0) = false := decide_eq_false ee
        rw [eG, if_pos ee]
        simp only [go_sem, reduceIte, Nat.reduceEqDiff, Nat.reduceAdd, Nat.reduceLeDiff, Nat.reducePow, Nat.reduceDiv, Nat.reduceMod, decide_true, en]
        exact ⟨_, rfl, OwnO.fz (.inl ⟨rfl, rfl⟩) (Nat.le_refl _), X1⟩

end Glb

/-
  The document's GetConf.
-/
namespace Glb
open Go
set_option maxRecDepth 10000
set_option maxHeartbeats 16000000

def GetConfP (P : Program) (f : FuncId) : Prop := isFn P f = true ∧ ∀ (G : Nat → Prop) (h : AHeap) (l : List Int) (b : AV), Rd G h (dBytes l) b → bytesOk l → l.length ≤ 2^37 →
  ACalls P f [b] h fun r h' => r = .tup [.agg (getConf l).1.v, .int .i64 (getConf l).2] ∧ h' = h

theorem r_GetConf_ok {P : Program} {f rd co en e0 ck : FuncId} (hf : Is P f (c_gleberef13_GetConf rd co en ck)) (hrd : ReadRR P rd) (cp : GetRR P co Conf.c confC.dec)
    (hen : Is P en (c_gleberef02_Reader_End e0)) (he0 : LeftRR P e0) (hk : CheckOk P ck) : GetConfP P f := by
  refine ⟨hf.2, fun G h l b hb hbo hlen => ?_⟩
  refine ACalls.freeze (K := fun r h' => ∃ zs, r = .tup [.agg zs, .int .i64 (getConf l).2] ∧ FzL h.length h' (getConf l).1.c zs ∧ Ext nof h h') (fun_sound hf.1 (Nat.le_of_ble_eq_true rfl) ?_) (fun _ _ ⟨_, e, hz, hx⟩ => ⟨hx, _, e ▸ Frz.tup2 (Frz.aggD hz) (Frz.int _ _), rfl⟩)
  show vc P (c_gleberef13_GetConf rd co en ck).code ⟨[(0, b)], [], h⟩ (atEnd (c_gleberef13_GetConf rd co en ck).res _)
  simp only [c_gleberef13_GetConf, go_sem, reduceIte, Nat.reduceEqDiff, Nat.reduceAdd, Nat.reduceLeDiff, Nat.reducePow, Nat.reduceDiv, Nat.reduceMod, decide_true]
  have Z := Ext.b1 (h := h) (some (.arr 3 [[.nils, .nils, .nils]] false))
  have B0 := bx10 h (some (.arr 3 [[.nils, .nils, .nils]] false))
  have hb := hb.up Z
  have hl : (h ++ [some (ABlk.arr 3 [[.nils, .nils, .nils]] false)]).length = h.length + 1 := by simp
  generalize h ++ [some (ABlk.arr 3 [[.nils, .nils, .nils]] false)] = H at *
  refine wCall_use ⟨hrd.1, hrd.2 G H l b hb hbo (by omega)⟩ ?_
  rintro _ h1 ⟨rfl, r1, x1⟩
  have r1 := r1.under
  have C0 := x1.get B0
  have X1 := Z.tr x1
  obtain ⟨q, hqd⟩ : ∃ q, H.length = q := ⟨_, rfl⟩
  rw [hqd] at r1 ⊢
  have lq1 := r1.lt
  obtain ⟨F, hFd⟩ : ∃ F : Nat → Prop, F = fun m => q + 1 ≤ m ∧ m < h1.length := ⟨_, rfl⟩
  have hq : ¬ F q := by rw [hFd]; intro hh; have := hh.1; omega
  rw [← hFd] at r1
  have hF : ∀ m, F m → m < h1.length := fun m hm => by rw [hFd] at hm; exact hm.2
  have hF2 : ∀ m, F m → h.length + 2 ≤ m := fun m hm => by rw [hFd] at hm; have := hm.1; omega
  clear hFd
  simp only [go_sem, reduceIte, Nat.reduceEqDiff, Nat.reduceAdd, Nat.reduceLeDiff, Nat.reducePow, Nat.reduceDiv, Nat.reduceMod, decide_true]
  refine wCall_use ⟨cp.1, cp.2 F h1 q (some l) r1 hq hF⟩ ?_
  rintro _ h3 ⟨⟨t, rfl, d⟩, r3, x3, l3⟩
  change RRS F h3 q (confC.dec (some l)).2 at r3
  have C0 := (x3.2 h.length (by omega) (by simp only [only]; omega)).trans C0
  have X1 := X1.trans x3 (F'' := nof) (fun _ _ x => x) (fun m hm hm' => by simp only [only] at hm'; omega)
  have vq : D.avL (Conf.c t) = [aints t.old, aints t.new, aints t.learners] := Conf.v_eq t
  simp only [vq, go_sem, reduceIte, Nat.reduceEqDiff, Nat.reduceAdd, Nat.reduceLeDiff, Nat.reducePow, Nat.reduceDiv, Nat.reduceMod, decide_true, scalar_aints]
  have ZA := Ext.b1 (h := h3) (some (.arr 3 [[aints t.old, aints t.new, aints t.learners]] false))
  have r3 := r3.up ZA
  have C0 := ZA.get C0
  have A1 := bx10 h3 (some (.arr 3 [[aints t.old, aints t.new, aints t.learners]] false))
  have X1 := X1.tr ZA
  have hl1 : (h3 ++ [some (ABlk.arr 3 [[aints t.old, aints t.new, aints t.learners]] false)]).length = h3.length + 1 := by simp
  generalize h3 ++ [some (ABlk.arr 3 [[aints t.old, aints t.new, aints t.learners]] false)] = H1 at *
  refine wCall_use ⟨hen.2, End_rr hen he0 r3⟩ ?_
  rintro _ h9 ⟨rfl, rfl⟩
  have lt9 : h.length < h9.length := by omega
  have few : confC.dec (some l) = ((confC.dec (some l)).1, some []) → (confC.dec (some l)).1.few (2^38) := fun hh => by obtain ⟨n1, n2, n3, -⟩ := conf_len hbo hh; exact ⟨by omega, by omega, by omega⟩
  simp only [getConf, go_sem, reduceIte, Nat.reduceEqDiff, Nat.reduceAdd, Nat.reduceLeDiff, Nat.reducePow, Nat.reduceDiv, Nat.reduceMod, decide_true]
  generalize confC.dec (some l) = R at *
  by_cases c : R.2.end_ = 0
  · have es := Rdr.end_zero c
    have fw := few (by rw [← es])
    obtain rfl := d (by rw [es]; simp)
    have c' : ¬ R.2.end_ ≠ 0 := by simpa using c
    rw [if_neg c']
    simp only [go_sem, reduceIte, Nat.reduceEqDiff, Nat.reduceAdd, Nat.reduceLeDiff, Nat.reducePow, Nat.reduceDiv, Nat.reduceMod, decide_true, c, A1]
    refine wCall_use ⟨hk.1, hk.2 (fun _ => True) h9 R.1 _ (by rw [← Conf.v_eq]; exact rdL_av _ _ _) fw⟩ ?_
    rintro _ h9 ⟨rfl, rfl⟩
    cases cr : R.1.right with
    | true =>
      simp only [go_sem, reduceIte, Nat.reduceEqDiff, Nat.reduceAdd, Nat.reduceLeDiff, Nat.reducePow, Nat.reduceDiv, Nat.reduceMod, decide_true, A1, C0, lt9, scalar_aints]
      exact ⟨_, rfl, by rw [← Conf.v_eq]; exact fzL_self _ _ _, X1.put (by omega) _⟩
    | false =>
      have n29 : decide ((29 : Int) = 0) = false := rfl
      simp only [go_sem, reduceIte, Nat.reduceEqDiff, Nat.reduceAdd, Nat.reduceLeDiff, Nat.reducePow, Nat.reduceDiv, Nat.reduceMod, decide_true, n29, A1, C0, lt9]
      exact ⟨_, rfl, ⟨_, _, rfl, OwnO.fz (.inl ⟨rfl, rfl⟩) (Nat.le_refl _), _, _, rfl, OwnO.fz (.inl ⟨rfl, rfl⟩) (Nat.le_refl _), _, _, rfl, OwnO.fz (.inl ⟨rfl, rfl⟩) (Nat.le_refl _), rfl⟩, X1.put (by omega) _⟩
  · have c' : R.2.end_ ≠ 0 := c
    rw [if_pos c']
    simp only [go_sem, reduceIte, Nat.reduceEqDiff, Nat.reduceAdd, Nat.reduceLeDiff, Nat.reducePow, Nat.reduceDiv, Nat.reduceMod, decide_true, decide_eq_false c, C0, lt9]
    exact ⟨_, rfl, ⟨_, _, rfl, OwnO.fz (.inl ⟨rfl, rfl⟩) (Nat.le_refl _), _, _, rfl, OwnO.fz (.inl ⟨rfl, rfl⟩) (Nat.le_refl _), _, _, rfl, OwnO.fz (.inl ⟨rfl, rfl⟩) (Nat.le_refl _), rfl⟩, X1.put (by omega) _⟩

end Glb

/-
  Bytes lent, bytes kept.
-/
namespace Glb
open Go
set_option maxRecDepth 10000
set_option maxHeartbeats 16000000

def lentB (l : List Int) : List Int := l ++ List.replicate 5 165
def LentBytesP (P : Program) (f : FuncId) : Prop := isFn P f = true ∧ ∀ l : List Int, l.length ≤ 2^40 → Pure P f [abytes l] (abytes (lentB l))

theorem LentBytes_ok {P : Program} {f : FuncId} (hf : Is P f c_glebekit_LentBytes) : LentBytesP P f := by
  refine ⟨hf.2, fun l hl => pure_d (d := dBytes (lentB l)) fun h => fun_sound hf.1 (Nat.le_of_ble_eq_true rfl) ?_⟩
  show vc P c_glebekit_LentBytes.code ⟨[(0, abytes l)], [], h⟩ (atEnd c_glebekit_LentBytes.res _)
  have e1 : IntKind.i64.wrap ((l.length : Int) + 5) = ((l.length + 5 : Nat) : Int) := by rw [wrap_i64 (by omega)]; omega
  have hm := amks_int (h := h) (sz := 1) (bytes := 1) (zero := [.int .u8 0]) (k := .i64) (k' := .i64) (l := ((l.length + 5 : Nat) : Int)) (c := ((l.length + 5 : Nat) : Int)) (by omega) (by omega) (by omega)
  simp only [Int.toNat_natCast] at hm
  have hlen : (lentB l).length = l.length + 5 := by simp [lentB]
  simp only [c_glebekit_LentBytes, go_sem, reduceIte, Nat.reduceEqDiff, Nat.reduceAdd, Nat.reduceLeDiff, Nat.reducePow, Nat.reduceDiv, Nat.reduceMod, decide_true, e1, hev_mks, hm]
  refine vc_loop (fun m L h' => ∃ (i : Nat) (row : List (List AV)), lk 0 L = abytes l ∧ lk 3 L = .ref h.length 1 0 (l.length + 5) (some (l.length + 5)) ∧ lk 4 L = .int .i64 i ∧ h' = h ++ [some (.arr 1 row false)] ∧ row.length = l.length + 5 ∧
    (∀ j, j < l.length + 5 → ∃ v, row[j]? = some [.int .u8 v]) ∧ (∀ j, j < i → row[j]? = (lentB l)[j]?.map fun n => [.int .u8 n]) ∧ i ≤ l.length + 5 ∧ m = l.length + 5 - i) (l.length + 5) ?_ ?_
  · exact ⟨0, _, by simp [lk_ins, lk_cons], by simp [lk_ins, lk_cons], by simp [lk_ins], rfl, by simp, fun j hj => ⟨0, by simp [hj]⟩, fun j hj => by omega, by omega, by omega⟩
  · rintro m L h' ⟨i, row, h0, h3, h4, rfl, hr, hv, hd, hi, rfl⟩
    have la3 : alen (.ref h.length 1 0 (l.length + 5) (some (l.length + 5))) = some (.int .i64 ((l.length + 5 : Nat) : Int)) := rfl
    simp only [c_glebekit_LentBytes_l0, go_sem, reduceIte, Nat.reduceEqDiff, Nat.reduceAdd, Nat.reduceLeDiff, Nat.reducePow, Nat.reduceDiv, Nat.reduceMod, decide_true, h0, h3, h4, la3]
    refine wCond_split (fun ci => ?_) (fun ci => ?_)
    · simp at ci
      have ci' : i < l.length + 5 := by omega
      obtain ⟨v, hvi⟩ := hv i ci'
      have e2 : IntKind.i64.wrap (↑i + 1) = (i : Int) + 1 := wrap_i64 (by omega)
      have hix : aindex 1 (.ref h.length 1 0 (l.length + 5) (some (l.length + 5))) (.int .i64 i) = some (.ptr h.length 1 i 0) := by
        simp only [aindex]; rw [if_pos ⟨trivial, by omega, by omega⟩]; simp
      have st : ∀ (row : List (List AV)) (u w : Int), row[i]? = some [.int .u8 w] → astore (h ++ [some (.arr 1 row false)]) 1 (.ptr h.length 1 i 0) (.int .u8 u) = some (h ++ [some (.arr 1 (row.set i [.int .u8 u]) false)]) := fun row u w hw => by
        have := astore_elem (x := .int .u8 u) (bx10 h (some (.arr 1 row false))) hw rfl rfl rfl rfl
        rw [this, sx10]
      simp only [go_sem, reduceIte, Nat.reduceEqDiff, Nat.reduceAdd, Nat.reduceLeDiff, Nat.reducePow, Nat.reduceDiv, Nat.reduceMod, decide_true, h0, h3, h4, hix, st row 165 v hvi]
      have hset : (row.set i [.int .u8 165])[i]? = some [.int .u8 165] := List.getElem?_set_self (by omega)
      have nxt : ∀ (u : Int) (row' : List (List AV)), (∀ j, j ≠ i → row'[j]? = row[j]?) → row'[i]? = some [.int .u8 u] → (lentB l)[i]? = some u → (∀ j, j < l.length + 5 → ∃ v, row'[j]? = some [.int .u8 v]) ∧ (∀ j, j < i + 1 → row'[j]? = (lentB l)[j]?.map fun n => [.int .u8 n]) := by
        intro u row' ho hn hl
        refine ⟨fun j hj => ?_, fun j hj => ?_⟩
        · by_cases e : j = i
          · subst e; exact ⟨u, hn⟩
          · rw [ho j e]; exact hv j hj
        · by_cases e : j = i
          · subst e; rw [hn, hl]; rfl
          · rw [ho j e]; exact hd j (by omega)
      by_cases cl : (i : Int) < l.length
      · obtain ⟨p, hp, hpv⟩ := (rd_abytes nof (h ++ [some (.arr 1 (row.set i [.int .u8 165]) false)]) l).byte_at (i := i) (by omega)
        simp only [go_sem, reduceIte, Nat.reduceEqDiff, Nat.reduceAdd, Nat.reduceLeDiff, Nat.reducePow, Nat.reduceDiv, Nat.reduceMod, decide_true, h0, h3, h4, decide_eq_true cl, hix, hp, hpv, st _ (l[i]'(by omega)) 165 hset, e2]
        obtain ⟨q1, q2⟩ := nxt (l[i]'(by omega)) ((row.set i [.int .u8 165]).set i [.int .u8 (l[i]'(by omega))]) (fun j hj => by rw [List.getElem?_set_ne (fun e => hj e.symm), List.getElem?_set_ne (fun e => hj e.symm)])
          (List.getElem?_set_self (by simp; omega)) (by simp only [lentB]; rw [List.getElem?_append_left (by omega)]; simp)
        exact ⟨_, by omega, i + 1, _, by simp, rfl, by simpa using hr, q1, q2, by omega, rfl⟩
      · simp only [go_sem, reduceIte, Nat.reduceEqDiff, Nat.reduceAdd, Nat.reduceLeDiff, Nat.reducePow, Nat.reduceDiv, Nat.reduceMod, decide_true, h0, h3, h4, decide_eq_false cl, e2]
        obtain ⟨q1, q2⟩ := nxt 165 (row.set i [.int .u8 165]) (fun j hj => List.getElem?_set_ne (fun e => hj e.symm)) hset (by simp only [lentB]; rw [List.getElem?_append_right (by omega), List.getElem?_replicate, if_pos (by omega)])
        exact ⟨_, by omega, i + 1, _, by simp, rfl, by simpa using hr, q1, q2, by omega, rfl⟩
    · simp at ci
      obtain rfl : i = l.length + 5 := by omega
      have hrow : row = (lentB l).map fun n => [.int .u8 n] := by
        apply List.ext_getElem?
        intro j
        rcases Nat.lt_or_ge j (l.length + 5) with hj | hj
        · rw [hd j hj, List.getElem?_map]
        · rw [List.getElem?_eq_none (by omega), List.getElem?_eq_none (by simp [hlen]; omega)]
      subst hrow
      simp only [go_sem, reduceIte, Nat.reduceEqDiff, Nat.reduceAdd, Nat.reduceLeDiff, Nat.reducePow, Nat.reduceDiv, Nat.reduceMod, decide_true, h3]
      refine ⟨?_, Ext.b1 _⟩
      simp only [dBytes, Own, List.length_map, hlen]
      exact .inr (.inr ⟨_, 0, _, _, false, rfl, Nat.le_refl _, bx10 _ _, by simp [hlen], (fun c hc => by cases hc; omega), by rw [List.drop_zero, List.take_of_length_le (by simp [hlen])]; exact ownLL_ints .u8 _ _ (lentB l)⟩)

def KeptBOk (P : Program) (f : FuncId) : Prop :=
  isFn P f = true ∧ ∀ (F : Nat → Prop) (h : AHeap) (l : List Int) (a b : AV), Rd F h (dBytes (lentB l)) a → Rd F h (dBytes l) b → l.length ≤ 2^40 → ACalls P f [a, b] h fun r h' => r = .bool true ∧ h' = h

theorem KeptBytes_ok {P : Program} {f g : FuncId} (hf : Is P f (c_glebekit_KeptBytes g)) (hg : SameOk P g .u8) : KeptBOk P f := by
  refine ⟨hf.2, fun F h l a b ha hb hl => fun_sound hf.1 (Nat.le_of_ble_eq_true rfl) ?_⟩
  show vc P (c_glebekit_KeptBytes g).code ⟨[(0, a), (1, b)], [], h⟩ (atEnd (c_glebekit_KeptBytes g).res _)
  have hlen : (lentB l).length = l.length + 5 := by simp [lentB]
  have la := ha.bytes_len
  have lb := hb.bytes_len
  rw [hlen] at la
  have e1 : IntKind.i64.wrap ((l.length : Int) + 5) = ((l.length + 5 : Nat) : Int) := by rw [wrap_i64 (by omega)]; omega
  obtain ⟨c, hs, hc⟩ := Rd.slice ha (lo := none) (hi := some (l.length : Int)) (mx := none) (by simp) (by simp) (by simp [hlen]; omega) (by simp) (by simp [hlen]; omega) (by simp)
  have hc2 : Rd F h (dBytes l) c := by
    have : (lentB l).take l.length = l := by simp [lentB]
    simpa [dBytes, ← List.map_take, this] using hc
  simp only [c_glebekit_KeptBytes, go_sem, reduceIte, Nat.reduceEqDiff, Nat.reduceAdd, Nat.reduceLeDiff, Nat.reducePow, Nat.reduceDiv, Nat.reduceMod, decide_true, la, lb, e1, aslc, hs]
  refine use1 hg.1 (hg.2 F _ l l c b hc2 hb hl) ?_
  simp only [go_sem, reduceIte, Nat.reduceEqDiff, Nat.reduceAdd, Nat.reduceLeDiff, Nat.reducePow, Nat.reduceDiv, Nat.reduceMod, decide_true, lb]
  refine vc_loop (fun m L h' => ∃ (i : Nat), lk 0 L = a ∧ lk 5 L = .int .i64 i ∧ h' = h ∧ l.length ≤ i ∧ i ≤ l.length + 5 ∧ m = l.length + 5 - i) 5 ?_ ?_
  · exact ⟨l.length, by simp [lk_ins, lk_cons], by simp [lk_ins], rfl, by omega, by omega, by omega⟩
  · rintro m L h' ⟨i, h0, h5, rfl, hi, hi2, rfl⟩
    simp only [c_glebekit_KeptBytes_l0, go_sem, reduceIte, Nat.reduceEqDiff, Nat.reduceAdd, Nat.reduceLeDiff, Nat.reducePow, Nat.reduceDiv, Nat.reduceMod, decide_true, h0, h5, la]
    refine wCond_split (fun ci => ?_) (fun ci => ?_)
    · simp at ci
      obtain ⟨p, hp, hv⟩ := ha.byte_at (i := i) (by omega)
      have e : IntKind.i64.wrap (↑i + 1) = (i : Int) + 1 := wrap_i64 (by omega)
      have hx : (lentB l)[i]'(by omega) = 165 := by simp only [lentB]; rw [List.getElem_append_right hi]; exact List.getElem_replicate _
      simp only [go_sem, reduceIte, Nat.reduceEqDiff, Nat.reduceAdd, Nat.reduceLeDiff, Nat.reducePow, Nat.reduceDiv, Nat.reduceMod, decide_true, h0, h5, hp, hv, hx, e]
      exact ⟨_, by omega, i + 1, by simp, by omega, by omega, rfl⟩
    · simp only [go_sem, reduceIte, Nat.reduceEqDiff, Nat.reduceAdd, Nat.reduceLeDiff, Nat.reducePow, Nat.reduceDiv, Nat.reduceMod, decide_true]

theorem abytes_slice (l : List Int) (n : Nat) (hn : n ≤ l.length) : ∃ a, aslice 1 (abytes l) none (some (n : Int)) none = some a ∧ ∀ F h, Rd F h (dBytes (l.take n)) a := by
  refine ⟨.vals 0 (sliceClip none n (l.map fun n => [AV.int .u8 n]).length false) 1 ((l.map fun n => [AV.int .u8 n]).take n), ?_, fun F h => ?_⟩
  · rw [abytes_eq]; simp only [aslice, Option.getD_none, Option.getD_some]; rw [if_pos ⟨trivial, by omega, by omega, by simp; omega, by omega, by simp; omega⟩]; simp
  · simp only [dBytes, Rd]
    refine ⟨_, .inr (.inl ⟨_, _, rfl⟩), ?_⟩
    have := OwnLL.rd (F := F) (F' := F) _ (fun _ x => x) _ (ownLL_ints .u8 F h (l.take n))
    rw [← List.map_take]
    exact this

end Glb

/-
  Any bytes are the image, the changes, the members that the document says: the law ImageGets.
-/
namespace Glb
open Go
set_option maxRecDepth 10000
set_option maxHeartbeats 16000000

theorem flat_mem {T : Type} (f : T → List Int) {x : T} : ∀ {xs : List T}, x ∈ xs → (f x).length ≤ (xs.flatMap f).length
  | y :: r, h => by
    simp only [List.flatMap_cons, List.length_append]
    rcases List.mem_cons.1 h with h | h
    · rw [h]; omega
    · have := flat_mem f h; omega
theorem log_lenE (x : Log) : 8 * x.es.length ≤ (logC.enc x).length ∧ ∀ e ∈ x.es, e.data.length ≤ (logC.enc x).length := by
  rw [logC_enc]
  have h1 := flat_big entryC x.es
  simp only [List.length_append]
  refine ⟨by omega, fun e he => ?_⟩
  have h2 := flat_mem entryC.enc he
  rw [entryC_enc] at h2
  simp only [List.length_append] at h2
  omega
theorem conf_lenE (x : Conf) : x.old.length ≤ x.bytes.length ∧ x.new.length ≤ x.bytes.length ∧ x.learners.length ≤ x.bytes.length := by
  have h1 := nums_length x.old
  have h2 := nums_length x.new
  have h3 := nums_length x.learners
  simp only [Conf.bytes, List.length_append]
  exact ⟨by omega, by omega, by omega⟩
theorem hard_fewE {x : Hard} {n : Nat} (h : (hardC.enc x).length ≤ n) (hn : n ≤ 2^20) : x.few := by
  rw [hardC_enc] at h
  simp only [List.length_append] at h
  obtain ⟨h1, h2⟩ := log_lenE x.log
  obtain ⟨h3, h4, h5⟩ := conf_lenE x.conf
  exact ⟨⟨by omega, fun e he => by have := h2 e he; omega⟩, ⟨by omega, by omega, by omega⟩, by omega⟩
theorem change_fewE {x : Change} {n : Nat} (h : (changeC.enc x).length ≤ n) (hn : n ≤ 2^20) : x.few := by
  rw [changeC_enc] at h
  simp only [List.length_append] at h
  obtain ⟨h1, h2⟩ := log_lenE x.log
  obtain ⟨h3, h4, h5⟩ := conf_lenE x.conf
  exact ⟨⟨by omega, fun e he => by have := h2 e he; omega⟩, ⟨by omega, by omega, by omega⟩, by omega⟩
theorem getImage_few {l : List Int} (hb : bytesOk l) (hl : l.length ≤ 2^16) : (getImage l).1.few := by
  by_cases e : (getImage l).2 = 0
  · obtain ⟨-, e1, -, h1, h2⟩ := gImage_ok hb e
    refine ⟨by omega, by omega, fun y hy => hard_fewE (n := 2^20) ?_ (Nat.le_refl _)⟩
    have h3 := flat_mem hardC.enc hy
    have h4 := congrArg List.length e1
    rw [imageC_enc] at h4
    simp only [List.length_append] at h4
    omega
  · rw [gImage_no e]; exact ⟨by simp, by simp, fun y hy => by simp at hy⟩
theorem getChanges_few {l : List Int} (hb : bytesOk l) (hl : l.length ≤ 2^16) : (getChanges l).1.length ≤ 2^16 ∧ ∀ y ∈ (getChanges l).1, y.few := by
  by_cases e : (getChanges l).2 = 0
  · obtain ⟨e1, -⟩ := gChanges_ok hb e
    have h1 := flat_big changeC (getChanges l).1
    have h4 := congrArg List.length e1
    rw [show changesC.enc (getChanges l).1 = num (getChanges l).1.length ++ (getChanges l).1.flatMap changeC.enc from rfl] at h4
    simp only [List.length_append] at h4
    refine ⟨by omega, fun y hy => change_fewE (n := 2^20) ?_ (Nat.le_refl _)⟩
    have h3 := flat_mem changeC.enc hy
    omega
  · rw [gChanges_no e]; exact ⟨by simp, fun y hy => by simp at hy⟩
theorem getConf_few {l : List Int} (hb : bytesOk l) (hl : l.length ≤ 2^16) : (getConf l).1.few (2^38) := by
  by_cases e : (getConf l).2 = 0
  · obtain ⟨-, h1, h2, h3⟩ := gConf_ok hb e
    exact ⟨by omega, by omega, by omega⟩
  · have : (getConf l).1 = ⟨[], [], []⟩ := by
      simp only [getConf] at e ⊢
      by_cases c : (confC.dec (some l)).2.end_ = 0
      · have c' : ¬ (confC.dec (some l)).2.end_ ≠ 0 := by simpa using c
        rw [if_neg c'] at e ⊢
        by_cases o : (confC.dec (some l)).1.right = true
        · rw [if_pos o] at e; exact absurd rfl e
        · rw [if_neg o]
      · rw [if_pos c]
    rw [this]; exact ⟨by simp, by simp, by simp⟩
theorem conf_tyI {x : Conf} (h : x.few (2^40)) : HasTyL x.c confTyI := ⟨_, _, rfl, ints_ty h.1, _, _, rfl, ints_ty h.2.1, _, _, rfl, ints_ty h.2.2, rfl⟩
theorem changes_ty {l : List Change} (h : l.length ≤ 2^40) (hl : ∀ y ∈ l, y.few) : HasTy (dChanges l) (.sl 17 changeTy) := by
  refine ⟨_, rfl, by simpa using h, HasTyLL_mk fun d hd => ?_⟩
  obtain ⟨n, hn, rfl⟩ := List.mem_map.1 hd
  exact change_ty (hl n hn)

def SpoilChsP (P : Program) (f : FuncId) : Prop := isFn P f = true ∧ ∀ (F : Nat → Prop) (h : AHeap) (av : AV), OwnT (.sl 17 changeTy) F h av → (∀ m, F m → m < h.length) → ACalls P f [av] h fun _ h' => Ext F h h' ∧ PresT h h'

theorem gets_ok {P : Program} {f fw le gi gr ci cr fi fr si sc sf pi pc pf kb : FuncId} (hf : Is P f (c_glebelaw13_ImageGets fw le gi gr ci cr fi fr si sc sf pi pc pf kb)) (hw : YesOk P fw) (hle : LentBytesP P le) (hgi : GetImgOk P gi) (hgr : GetImgP P gr)
    (hci : GetChsOk P ci) (hcr : GetChsP P cr) (hfi : GetConfOk P fi) (hfr : GetConfP P fr) (hsi : SameImageOk P si) (hsc : SameChangesOk P sc) (hsf : SameConfOk P sf) (hpi : SpoilLT P pi imageTy) (hpc : SpoilChsP P pc) (hpf : SpoilLT P pf confTyI) (hkb : KeptBOk P kb)
    (l : List Int) (hbo : bytesOk l) (h : AHeap) : ACalls P f [abytes l] h fun r _ => r = .bool true := by
  refine fun_sound hf.1 (Nat.le_of_ble_eq_true rfl) ?_
  show vc P (c_glebelaw13_ImageGets fw le gi gr ci cr fi fr si sc sf pi pc pf kb).code ⟨[(0, abytes l)], [], h⟩ (atEnd (c_glebelaw13_ImageGets fw le gi gr ci cr fi fr si sc sf pi pc pf kb).res _)
  have yes : ∀ {h : AHeap} {K : AV → AHeap → Prop}, K (.bool true) h → wCall P fw [] h K := fun hK => wCall_use ⟨hw.1, hw.2 _⟩ (by rintro _ _ ⟨rfl, rfl⟩; exact hK)
  have lb0 := len_abytes l
  simp only [c_glebelaw13_ImageGets, go_sem, reduceIte, Nat.reduceEqDiff, Nat.reduceAdd, Nat.reduceLeDiff, Nat.reducePow, Nat.reduceDiv, Nat.reduceMod, decide_true, lb0]
  by_cases c1 : (65536 : Int) < l.length
  · simp only [go_sem, reduceIte, Nat.reduceEqDiff, Nat.reduceAdd, Nat.reduceLeDiff, Nat.reducePow, Nat.reduceDiv, Nat.reduceMod, decide_true, decide_eq_true c1]
    exact yes (by simp only [go_sem, reduceIte, Nat.reduceEqDiff, Nat.reduceAdd, Nat.reduceLeDiff, Nat.reducePow, Nat.reduceDiv, Nat.reduceMod, decide_true])
  simp only [go_sem, reduceIte, Nat.reduceEqDiff, Nat.reduceAdd, Nat.reduceLeDiff, Nat.reducePow, Nat.reduceDiv, Nat.reduceMod, decide_true, decide_eq_false c1]
  have hl : l.length ≤ 2^16 := by omega
  refine (hle.2 l (by omega)).use hle.1 ?_
  obtain ⟨b, hb1, hb2⟩ := abytes_slice (lentB l) l.length (by simp [lentB])
  have t1 : (lentB l).take l.length = l := by simp [lentB]
  rw [t1] at hb2
  simp only [go_sem, reduceIte, Nat.reduceEqDiff, Nat.reduceAdd, Nat.reduceLeDiff, Nat.reducePow, Nat.reduceDiv, Nat.reduceMod, decide_true, lb0, aslc, hb1]
  have imf := getImage_few hbo hl
  have chf := getChanges_few hbo hl
  have cof := getConf_few hbo hl
  -- the images
  refine wCall_use ⟨hgi.1, hgi.2 (fun _ => True) h l b (hb2 _ _) hbo (by omega)⟩ ?_
  rintro _ h1 ⟨as, rfl, oA, X1⟩
  obtain ⟨d, v, rfl, oD, oV⟩ := own_imageL oA
  have l1 := X1.1
  have oA := OwnL.mono (F' := fun m => h.length ≤ m ∧ m < h1.length) _ (fun _ x => x) ((Ext.b1 (some (.arr 2 [[d, v]] false))).keep _) _ (OwnL.lt _ _ oA)
  have A1 := bx10 h1 (some (.arr 2 [[d, v]] false))
  simp only [go_sem, reduceIte, Nat.reduceEqDiff, Nat.reduceAdd, Nat.reduceLeDiff, Nat.reducePow, Nat.reduceDiv, Nat.reduceMod, decide_true, oD.scalar, oV.scalar]
  have l2 : (h1 ++ [some (ABlk.arr 2 [[d, v]] false)]).length = h1.length + 1 := by simp
  generalize h1 ++ [some (ABlk.arr 2 [[d, v]] false)] = h2 at *
  refine use1 hgr.1 (hgr.2 (fun _ => True) h2 l _ (rd_abytes _ _ _) hbo (by omega)) ?_
  simp only [go_sem, reduceIte, Nat.reduceEqDiff, Nat.reduceAdd, Nat.reduceLeDiff, Nat.reducePow, Nat.reduceDiv, Nat.reduceMod, decide_true, Image.v_eq, scalar_ahards, scalar_avotes, cells_ahards, cells_avotes]
  have rI : ∀ h, RdL (fun _ => True) h (getImage l).1.c [ahards (getImage l).1.hards, avotes (getImage l).1.votes] := fun h => by simpa only [Image.v_eq] using rd_imagev (fun _ => True) h (getImage l).1
  generalize getImage l = gI at *
  have A1 := (Ext.b1 (some (.arr 2 [[ahards gI.1.hards, avotes gI.1.votes]] false))).get A1
  have A2 := bx10 h2 (some (.arr 2 [[ahards gI.1.hards, avotes gI.1.votes]] false))
  have oA := OwnL.mono (F' := fun m => h.length ≤ m ∧ m < h1.length) _ (fun _ x => x) ((Ext.b1 (some (.arr 2 [[ahards gI.1.hards, avotes gI.1.votes]] false))).keep _) _ oA
  have l3 : (h2 ++ [some (ABlk.arr 2 [[ahards gI.1.hards, avotes gI.1.votes]] false)]).length = h2.length + 1 := by simp
  generalize h2 ++ [some (ABlk.arr 2 [[ahards gI.1.hards, avotes gI.1.votes]] false)] = h3 at *
  -- the changes
  refine wCall_use ⟨hci.1, hci.2 (fun _ => True) h3 l b (hb2 _ _) hbo (by omega)⟩ ?_
  rintro _ h4 ⟨a, rfl, oC, X4⟩
  have l4 := X4.1
  have oC := Own.lt _ _ oC
  have A1 := X4.get A1
  have A2 := X4.get A2
  have oA := OwnL.mono (F' := fun m => h.length ≤ m ∧ m < h1.length) _ (fun _ x => x) (X4.keep _) _ oA
  simp only [go_sem, reduceIte, Nat.reduceEqDiff, Nat.reduceAdd, Nat.reduceLeDiff, Nat.reducePow, Nat.reduceDiv, Nat.reduceMod, decide_true]
  refine use1 hcr.1 (hcr.2 (fun _ => True) h4 l _ (rd_abytes _ _ _) hbo (by omega)) ?_
  simp only [go_sem, reduceIte, Nat.reduceEqDiff, Nat.reduceAdd, Nat.reduceLeDiff, Nat.reducePow, Nat.reduceDiv, Nat.reduceMod, decide_true]
  have rC : ∀ h, Rd (fun _ => True) h (dChanges (getChanges l).1) (dChanges (getChanges l).1).av := fun h => rd_achanges _ _ _
  generalize getChanges l = gC at *
  -- the members
  refine wCall_use ⟨hfi.1, hfi.2 (fun _ => True) h4 l b (hb2 _ _) hbo (by omega)⟩ ?_
  rintro _ h5 ⟨bs, rfl, oF, X5⟩
  obtain ⟨o, n, e, rfl, o1, o2, o3⟩ := own_confL oF
  have l5 := X5.1
  have A1 := X5.get A1
  have A2 := X5.get A2
  have oA := OwnL.mono (F' := fun m => h.length ≤ m ∧ m < h1.length) _ (fun _ x => x) (X5.keep _) _ oA
  have oC := Own.mono (F' := fun m => h3.length ≤ m ∧ m < h4.length) _ (fun _ x => x) (X5.keep _) _ oC
  have oF := OwnL.lt _ _ oF
  simp only [go_sem, reduceIte, Nat.reduceEqDiff, Nat.reduceAdd, Nat.reduceLeDiff, Nat.reducePow, Nat.reduceDiv, Nat.reduceMod, decide_true, o1.scalar, o2.scalar, o3.scalar]
  have Z := Ext.b1 (h := h5) (some (.arr 3 [[o, n, e]] false))
  have A1 := Z.get A1
  have A2 := Z.get A2
  have A3 := bx10 h5 (some (.arr 3 [[o, n, e]] false))
  have oA := OwnL.mono (F' := fun m => h.length ≤ m ∧ m < h1.length) _ (fun _ x => x) (Z.keep _) _ oA
  have oC := Own.mono (F' := fun m => h3.length ≤ m ∧ m < h4.length) _ (fun _ x => x) (Z.keep _) _ oC
  have oF := OwnL.mono (F' := fun m => h4.length ≤ m ∧ m < h5.length) _ (fun _ x => x) (Z.keep _) _ oF
  have l6 : (h5 ++ [some (ABlk.arr 3 [[o, n, e]] false)]).length = h5.length + 1 := by simp
  clear Z
  generalize h5 ++ [some (ABlk.arr 3 [[o, n, e]] false)] = h6 at *
  refine use1 hfr.1 (hfr.2 (fun _ => True) h6 l _ (rd_abytes _ _ _) hbo (by omega)) ?_
  simp only [go_sem, reduceIte, Nat.reduceEqDiff, Nat.reduceAdd, Nat.reduceLeDiff, Nat.reducePow, Nat.reduceDiv, Nat.reduceMod, decide_true, Conf.v_eq, scalar_aints, cells_aints]
  have rF : ∀ h, RdL (fun _ => True) h (getConf l).1.c [aints (getConf l).1.old, aints (getConf l).1.new, aints (getConf l).1.learners] := fun h => by rw [← Conf.v_eq]; exact rdL_av _ _ _
  generalize getConf l = gF at *
  have Z := Ext.b1 (h := h6) (some (.arr 3 [[aints gF.1.old, aints gF.1.new, aints gF.1.learners]] false))
  have A1 := Z.get A1
  have A2 := Z.get A2
  have A3 := Z.get A3
  have A4 := bx10 h6 (some (.arr 3 [[aints gF.1.old, aints gF.1.new, aints gF.1.learners]] false))
  have oA := OwnL.mono (F' := fun m => h.length ≤ m ∧ m < h1.length) _ (fun _ x => x) (Z.keep _) _ oA
  have oC := Own.mono (F' := fun m => h3.length ≤ m ∧ m < h4.length) _ (fun _ x => x) (Z.keep _) _ oC
  have oF := OwnL.mono (F' := fun m => h4.length ≤ m ∧ m < h5.length) _ (fun _ x => x) (Z.keep _) _ oF
  have l7 : (h6 ++ [some (ABlk.arr 3 [[aints gF.1.old, aints gF.1.new, aints gF.1.learners]] false)]).length = h6.length + 1 := by simp
  clear Z
  generalize h6 ++ [some (ABlk.arr 3 [[aints gF.1.old, aints gF.1.new, aints gF.1.learners]] false)] = h7 at *
  simp only [go_sem, reduceIte, Nat.reduceEqDiff, Nat.reduceAdd, Nat.reduceLeDiff, Nat.reducePow, Nat.reduceDiv, Nat.reduceMod, decide_true, A1, A2, A3, A4]
  refine use1 hsi.1 (hsi.2 (fun _ => True) (fun _ => True) h7 gI.1 gI.1 _ _ (OwnL.rd _ (fun _ _ => trivial) _ oA) (rI h7) imf) ?_
  simp only [go_sem, reduceIte, Nat.reduceEqDiff, Nat.reduceAdd, Nat.reduceLeDiff, Nat.reducePow, Nat.reduceDiv, Nat.reduceMod, decide_true, A1, A2, A3, A4]
  refine use1 hsc.1 (hsc.2 (fun _ => True) (fun _ => True) h7 gC.1 gC.1 _ _ (Own.rd _ (fun _ _ => trivial) _ oC) (rC h7) (by omega) chf.2) ?_
  simp only [go_sem, reduceIte, Nat.reduceEqDiff, Nat.reduceAdd, Nat.reduceLeDiff, Nat.reducePow, Nat.reduceDiv, Nat.reduceMod, decide_true, A1, A2, A3, A4]
  refine use1 hsf.1 (hsf.2 (fun _ => True) (fun _ => True) h7 gF.1 gF.1 _ _ (OwnL.rd _ (fun _ _ => trivial) _ oF) (rF h7) ⟨by have := cof.1; omega, by have := cof.2.1; omega, by have := cof.2.2; omega⟩) ?_
  simp only [go_sem, reduceIte, Nat.reduceEqDiff, Nat.reduceAdd, Nat.reduceLeDiff, Nat.reducePow, Nat.reduceDiv, Nat.reduceMod, decide_true, A1, A2, A3, A4]
  refine wCall_use ⟨hpi.1, hpi.2 (fun m => h.length ≤ m ∧ m < h1.length) h7 [d, v] (OwnL.ty _ _ _ (image_ty imf) oA) (fun m hm => by omega)⟩ ?_
  rintro _ h8 ⟨X8, -⟩
  have l8 := X8.1
  have A3 := (X8.2 h5.length (by omega) (by omega)).trans A3
  have oC := Own.mono (F' := fun m => h3.length ≤ m ∧ m < h4.length) _ (fun _ x => x) (fun m hm y hy => by rw [X8.2 m (by omega) (by omega)]; exact hy) _ oC
  have oF := OwnL.mono (F' := fun m => h4.length ≤ m ∧ m < h5.length) _ (fun _ x => x) (fun m hm y hy => by rw [X8.2 m (by omega) (by omega)]; exact hy) _ oF
  simp only [go_sem, reduceIte, Nat.reduceEqDiff, Nat.reduceAdd, Nat.reduceLeDiff, Nat.reducePow, Nat.reduceDiv, Nat.reduceMod, decide_true, A3]
  refine wCall_use ⟨hpc.1, hpc.2 (fun m => h3.length ≤ m ∧ m < h4.length) h8 a (Own.ty _ _ _ (changes_ty (by omega) chf.2) oC) (fun m hm => by omega)⟩ ?_
  rintro _ h9 ⟨X9, -⟩
  have l9 := X9.1
  have A3 := (X9.2 h5.length (by omega) (by omega)).trans A3
  have oF := OwnL.mono (F' := fun m => h4.length ≤ m ∧ m < h5.length) _ (fun _ x => x) (fun m hm y hy => by rw [X9.2 m (by omega) (by omega)]; exact hy) _ oF
  simp only [go_sem, reduceIte, Nat.reduceEqDiff, Nat.reduceAdd, Nat.reduceLeDiff, Nat.reducePow, Nat.reduceDiv, Nat.reduceMod, decide_true, A3]
  refine wCall_use ⟨hpf.1, hpf.2 (fun m => h4.length ≤ m ∧ m < h5.length) h9 [o, n, e] (OwnL.ty _ _ _ (conf_tyI ⟨by have := cof.1; omega, by have := cof.2.1; omega, by have := cof.2.2; omega⟩) oF) (fun m hm => by omega)⟩ ?_
  rintro _ h10 -
  simp only [go_sem, reduceIte, Nat.reduceEqDiff, Nat.reduceAdd, Nat.reduceLeDiff, Nat.reducePow, Nat.reduceDiv, Nat.reduceMod, decide_true]
  refine use1 hkb.1 (hkb.2 (fun _ => True) h10 l _ _ (rd_abytes _ _ _) (rd_abytes _ _ _) (by omega)) ?_
  simp only [go_sem, reduceIte, Nat.reduceEqDiff, Nat.reduceAdd, Nat.reduceLeDiff, Nat.reducePow, Nat.reduceDiv, Nat.reduceMod, decide_true]

end Glb
