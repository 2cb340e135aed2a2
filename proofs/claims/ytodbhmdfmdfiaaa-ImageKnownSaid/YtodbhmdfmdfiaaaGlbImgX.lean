/-
  A library of its own: its parts, one behind the other.
-/
import Derived.Test.YtodbhmdfmdfiaaaGlbImgD
import Derived.Test.YtodbhmdfmdfiaaaGlbLibD
import Derived.Test.YtodbhmdfmdfiaaaGlbCglebelaw13
import Derived.Test.YtodbhmdfmdfiaaaGlbImgE
import Derived.Test.YtodbhmdfmdfiaaaGlbImgK
import Derived.Test.YtodbhmdfmdfiaaaGlbLibE
set_option linter.unusedSimpArgs false
set_option linter.unusedVariables false
/-
  The statements' own order.
-/
namespace Glb
open Go
set_option maxRecDepth 10000
set_option maxHeartbeats 8000000

end Glb

/-
  The example of layer 13.
-/
namespace Glb
open Go
set_option maxRecDepth 10000
set_option maxHeartbeats 16000000

def first13 : Image := ⟨[⟨1, 3, 2, ⟨4, 2, [⟨2, 0, [1]⟩, ⟨3, 0, []⟩, ⟨3, 0, [2, 3]⟩]⟩, ⟨[1, 2, 3], [], []⟩, [9]⟩], []⟩
theorem own_row {F : Nat → Prop} {H : AHeap} {sz n len : Nat} {rows : List (List AV)} {g : Bool} {ds : List (List D)} (b : H[n]? = some (some (.arr sz rows g))) (hl : rows.length = len) (hd : ds.length = len) (hF : F n) (ho : OwnLL ds (fun m => F m ∧ m ≠ n) H rows) : Own (.sl sz ds) F H (.ref n sz 0 len (some len)) := by
  simp only [Own]
  refine .inr (.inr ⟨n, 0, some len, rows, g, by rw [hd], hF, b, by omega, (fun c hc => by cases hc; omega), ?_⟩)
  rw [List.drop_zero, List.take_of_length_le (by omega)]
  exact ho
theorem own_u8 (F : Nat → Prop) (h : AHeap) (n : Int) : Own (.int .u8 n) F h (.int .u8 n) := by simp only [Own]
def FirstOk (P : Program) (f : FuncId) : Prop := isFn P f = true ∧ ∀ h, ACalls P f [] h fun r h' => r = .agg first13.v ∧ h' = h

theorem first_ok {P : Program} {f : FuncId} (hf : Is P f c_glebelaw13_first) : FirstOk P f := by
  refine ⟨hf.2, fun h => ?_⟩
  have run : ACalls P f [] h fun r h' => ∃ as, r = .agg as ∧ OwnL first13.c (fun m => h.length ≤ m) h' as ∧ Ext nof h h' := by
    refine fun_sound hf.1 (Nat.le_of_ble_eq_true rfl) ?_
    show vc P c_glebelaw13_first.code ⟨[], [], h⟩ (atEnd c_glebelaw13_first.res _)
    simp only [c_glebelaw13_first, go_sem, reduceIte, Nat.reduceEqDiff, Nat.reduceAdd, Nat.reduceLeDiff, Nat.reducePow, Nat.reduceDiv, Nat.reduceMod, decide_true]
    refine ⟨_, rfl, ⟨_, _, rfl, ?_, _, _, rfl, Own.nils 5, rfl⟩, ((Ext.b4 _ _ _ _).tr (Ext.b4 _ _ _ _))⟩
    refine own_row (bx87 h _ _ _ _ _ _ _ _) rfl rfl (by omega) ⟨_, _, rfl, ⟨_, _, rfl, own_i64 _ _ 1, _, _, rfl, own_i64 _ _ 3, _, _, rfl, own_i64 _ _ 2, _, _, rfl, own_i64 _ _ 4, _, _, rfl, own_i64 _ _ 2, _, _, rfl, ?_, _, _, rfl, ?_, _, _, rfl, Own.nils 1, _, _, rfl, Own.nils 1, _, _, rfl, ?_, rfl⟩, rfl⟩
    · refine own_row (bx83 h _ _ _ _ _ _ _ _) rfl rfl (by omega) ⟨_, _, rfl, ⟨_, _, rfl, own_i64 _ _ 2, _, _, rfl, own_i64 _ _ 0, _, _, rfl, ?_, rfl⟩, _, _, rfl, ⟨_, _, rfl, own_i64 _ _ 3, _, _, rfl, own_i64 _ _ 0, _, _, rfl, Own.nils 1, rfl⟩, _, _, rfl, ⟨_, _, rfl, own_i64 _ _ 3, _, _, rfl, own_i64 _ _ 0, _, _, rfl, ?_, rfl⟩, rfl⟩
      · exact own_row (bx81 h _ _ _ _ _ _ _ _) rfl rfl (by omega) ⟨_, _, rfl, ⟨_, _, rfl, own_u8 _ _ 1, rfl⟩, rfl⟩
      · exact own_row (bx82 h _ _ _ _ _ _ _ _) rfl rfl (by omega) ⟨_, _, rfl, ⟨_, _, rfl, own_u8 _ _ 2, rfl⟩, _, _, rfl, ⟨_, _, rfl, own_u8 _ _ 3, rfl⟩, rfl⟩
    · exact own_row (bx85 h _ _ _ _ _ _ _ _) rfl rfl (by omega) ⟨_, _, rfl, ⟨_, _, rfl, own_i64 _ _ 1, rfl⟩, _, _, rfl, ⟨_, _, rfl, own_i64 _ _ 2, rfl⟩, _, _, rfl, ⟨_, _, rfl, own_i64 _ _ 3, rfl⟩, rfl⟩
    · exact own_row (bx86 h _ _ _ _ _ _ _ _) rfl rfl (by omega) ⟨_, _, rfl, ⟨_, _, rfl, own_u8 _ _ 9, rfl⟩, rfl⟩
  exact run.freeze fun _ _ ⟨_, e, ho, hx⟩ => ⟨hx, _, e ▸ Frz.aggD (OwnL.fz first13.c (fun _ x => x) _ ho), rfl⟩

def chg13 : Change := ⟨1, 1, 8, 3, 0, ⟨0, 0, []⟩, ⟨[], [], []⟩, [], ⟨0, 0, 0, 0, 0⟩⟩
theorem first13_ok : imageC.ok first13 := by
  simp [imageC, first13, isoC, pairC, listC, hardC, voteC, logC, confC, entryC, intsC, intC, blobC, i64ok, blobOk, bytesOk]
theorem chg13_ok : changeC.ok chg13 := by
  simp [changeC, chg13, isoC, pairC, listC, voteC, logC, confC, entryC, intsC, intC, blobC, i64ok, blobOk, bytesOk]
theorem first13_len : (imageC.enc first13).length ≤ 2^10 := by
  simp [imageC_enc, hardC_enc, logC_enc, entryC_enc, voteC_enc, Conf.bytes, nums_length, num_length, first13]
theorem first13_get : getImage (imageC.enc first13) = (first13, 0) := by
  have h := imageC.back first13 [] first13_ok
  rw [List.append_nil] at h
  simp only [getImage, h]
  rfl

def hard13 : Hard := ⟨1, 8, 3, ⟨4, 2, [⟨2, 0, [1]⟩, ⟨3, 0, []⟩, ⟨3, 0, [2, 3]⟩]⟩, ⟨[1, 2, 3], [], []⟩, [9]⟩
theorem first13_applied : first13.applied chg13 = (⟨[hard13], []⟩, 0) := rfl
theorem first13_few : first13.few := by
  simp [Image.few, first13, Hard.few, Conf.few, SmallEntries]
theorem chg13_rd (F : Nat → Prop) (h : AHeap) : RdL F h chg13.c [.int .i64 1, .int .i64 1, .int .i64 8, .int .i64 3, .int .i64 0, .int .i64 0, .int .i64 0, .nils, .nils, .nils, .nils, .nils, .int .i64 0, .int .i64 0, .int .i64 0, .int .i64 0, .int .i64 0] := by
  refine OwnL.rd _ (F := F) (fun _ x => x) _ ⟨_, _, rfl, own_i64 _ _ 1, _, _, rfl, own_i64 _ _ 1, _, _, rfl, own_i64 _ _ 8, _, _, rfl, own_i64 _ _ 3, _, _, rfl, own_i64 _ _ 0, _, _, rfl, own_i64 _ _ 0, _, _, rfl, own_i64 _ _ 0, _, _, rfl, Own.nils 3, _, _, rfl, Own.nils 1, _, _, rfl, Own.nils 1, _, _, rfl, Own.nils 1, _, _, rfl, Own.nils 1, _, _, rfl, own_i64 _ _ 0, _, _, rfl, own_i64 _ _ 0, _, _, rfl, own_i64 _ _ 0, _, _, rfl, own_i64 _ _ 0, _, _, rfl, own_i64 _ _ 0, rfl⟩

theorem known13_ok {P : Program} {f fi pu ge ap sa : FuncId} (hf : Is P f (c_glebelaw13_known fi pu ge ap sa)) (hfi : FirstOk P fi) (hpu : PutImgP P pu) (hge : GetImgOk P ge) (hap : ApplyOk P ap) (hsa : SameImageOk P sa) : YesOk P f := by
  refine ⟨hf.2, fun h => obs rfl (fun_sound hf.1 (Nat.le_of_ble_eq_true rfl) ?_)⟩
  show vc P (c_glebelaw13_known fi pu ge ap sa).code ⟨[], [], h⟩ (atEnd (c_glebelaw13_known fi pu ge ap sa).res _)
  have len := first13_len
  simp only [c_glebelaw13_known, go_sem, reduceIte, Nat.reduceEqDiff, Nat.reduceAdd, Nat.reduceLeDiff, Nat.reducePow, Nat.reduceDiv, Nat.reduceMod, decide_true]
  refine use1 hfi.1 (hfi.2 h) ?_
  simp only [go_sem, reduceIte, Nat.reduceEqDiff, Nat.reduceAdd, Nat.reduceLeDiff, Nat.reducePow, Nat.reduceDiv, Nat.reduceMod, decide_true]
  refine use1 hpu.1 (hpu.2 nof h first13 _ (rd_imagev _ _ _) (by omega)) ?_
  simp only [go_sem, reduceIte, Nat.reduceEqDiff, Nat.reduceAdd, Nat.reduceLeDiff, Nat.reducePow, Nat.reduceDiv, Nat.reduceMod, decide_true]
  refine wCall_use ⟨hge.1, hge.2 nof h _ _ (rd_abytes _ _ _) (imageC.bytes _ first13_ok) (by omega)⟩ ?_
  rw [first13_get]
  rintro _ H1 ⟨as, rfl, oA, X1⟩
  obtain ⟨d, v, rfl, oD, oV⟩ := own_imageL oA
  simp only [go_sem, reduceIte, Nat.reduceEqDiff, Nat.reduceAdd, Nat.reduceLeDiff, Nat.reducePow, Nat.reduceDiv, Nat.reduceMod, decide_true, oD.scalar, oV.scalar]
  have E1 := X1.tr (Ext.b1 (some (.arr 2 [[d, v]] false)))
  have A1 := bx10 H1 (some (.arr 2 [[d, v]] false))
  have oA2 := OwnL.mono (F' := fun m => h.length ≤ m) _ (fun _ x => x) ((Ext.b1 (h := H1) (some (.arr 2 [[d, v]] false))).keep _) _ oA
  generalize H1 ++ [some (ABlk.arr 2 [[d, v]] false)] = H2 at *
  refine wCall_use ⟨hap.1, hap.2 (fun _ => True) H2 first13 chg13 _ _ (OwnL.rd _ (fun _ _ => trivial) _ oA2) (chg13_rd _ _) first13_ok chg13_ok (by omega) (by decide) ?_ (by decide) (by decide) (by decide)⟩ ?_
  · intro y hy
    simp only [first13, List.mem_singleton] at hy
    subst hy
    exact ⟨by decide, by decide, by decide, by simp⟩
  rw [first13_applied]
  rintro _ H3 ⟨bs, rfl, oB, X3⟩
  obtain ⟨d', v', rfl, oD', oV'⟩ := own_imageL oB
  simp only [go_sem, reduceIte, Nat.reduceEqDiff, Nat.reduceAdd, Nat.reduceLeDiff, Nat.reducePow, Nat.reduceDiv, Nat.reduceMod, decide_true, oD'.scalar, oV'.scalar]
  have A3 := (Ext.b1 (h := H3) (some (.arr 2 [[d', v']] false))).get (X3.get A1)
  have B3 := bx10 H3 (some (.arr 2 [[d', v']] false))
  have E3 := (E1.tr X3).tr (Ext.b1 (some (.arr 2 [[d', v']] false)))
  have oA3 := OwnL.mono (F' := fun m => h.length ≤ m) _ (fun _ x => x) ((X3.tr (Ext.b1 (h := H3) (some (.arr 2 [[d', v']] false)))).keep _) _ oA2
  have oD3 := Own.mono (F' := fun m => H2.length ≤ m) _ (fun _ x => x) ((Ext.b1 (h := H3) (some (.arr 2 [[d', v']] false))).keep _) _ oD'
  generalize H3 ++ [some (ABlk.arr 2 [[d', v']] false)] = H4 at *
  simp only [go_sem, reduceIte, Nat.reduceEqDiff, Nat.reduceAdd, Nat.reduceLeDiff, Nat.reducePow, Nat.reduceDiv, Nat.reduceMod, decide_true, A3]
  refine use1 hfi.1 (hfi.2 H4) ?_
  simp only [go_sem, reduceIte, Nat.reduceEqDiff, Nat.reduceAdd, Nat.reduceLeDiff, Nat.reducePow, Nat.reduceDiv, Nat.reduceMod, decide_true, A3]
  refine use1 hsa.1 (hsa.2 (fun _ => True) nof H4 first13 first13 _ _ (OwnL.rd _ (fun _ _ => trivial) _ oA3) (rd_imagev _ _ _) first13_few) ?_
  have ld : alen d' = some (.int .i64 1) := by simpa using (Own.rd _ (F' := fun _ => True) (fun _ _ => trivial) _ oD3).len
  obtain ⟨p, cs, hp1, hp2, hcs⟩ := (Own.rd _ (F' := fun _ => True) (fun _ _ => trivial) _ oD3).index .i64 (i := 0) (d := hard13.c) (by omega) (by simp)
  obtain ⟨te, to, tn, tl, ts, rfl, re, -⟩ := rd_hard hcs
  have le : alen te = some (.int .i64 3) := by simpa [hard13] using re.len
  have h8 : decide (hard13.term = 8) = true := rfl
  have h3 : decide (hard13.vote = 3) = true := rfl
  simp only [go_sem, reduceIte, Nat.reduceEqDiff, Nat.reduceAdd, Nat.reduceLeDiff, Nat.reducePow, Nat.reduceDiv, Nat.reduceMod, decide_true, A3, B3, ld, hp1, afield_p hp2, aload_off hp2, Hard.cells, le, h8, h3, afield_p (pcells_off hp2 3), aload_off (pcells_off hp2 3)]
  exact E3

end Glb

/-
  What is read of any bytes has just these bytes: the law ImageOnly.
-/
namespace Glb
open Go
set_option maxRecDepth 10000
set_option maxHeartbeats 16000000

end Glb
