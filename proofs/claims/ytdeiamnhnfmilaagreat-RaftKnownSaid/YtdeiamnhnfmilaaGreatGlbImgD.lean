/-
  A library of its own: its parts, one behind the other.
-/
import Derived.Test.YtdeiamnhnfmilaaGreatGlbImgC
import Derived.Test.YtdeiamnhnfmilaaGreatGlbLibB
import Derived.Test.YtdeiamnhnfmilaaGreatGlbQuoB
set_option linter.unusedSimpArgs false
set_option linter.unusedVariables false
namespace Glb
open Go
open Nat (reduceAdd reduceEqDiff reduceLeDiff)
set_option maxRecDepth 10000
set_option maxHeartbeats 8000000
theorem end_ok {P : Program} {f g : FuncId} (hf : Is P f (c_image_source_end g)) (hg : Is P g c_pack_Reader_End) {F : Nat -> Prop} {h : AHeap} {s q : Nat} {st : Rdr} (hs : SrcS F h s q st) :
  ACalls P f [.ptr s 2 0 0] h fun r h' => r = .int .i64 st.end_ /\ h' = h := by
 refine fun_sound hf.1 (Nat.le_of_ble_eq_true rfl) ?_
 show vc P (c_image_source_end g).code ⟨[(0, .ptr s 2 0 0)], [], h⟩ (atEnd (c_image_source_end g).res _)
 obtain ⟨b, st', hs, rfl⟩ := hs
 have B := hs.1
 simp only [c_image_source_end, go_sem, reduceEqDiff, reduceAdd, B]
 cases b with
 | true =>
  simp only [go_sem, reduceEqDiff]
  exact rfl
 | false =>
  simp only [go_sem, reduceEqDiff, B]
  refine use1 hg.2 (pack_End_r hg hs.2.1) ?_
  simp only [go_sem, reduceEqDiff]
  exact rfl
end Glb
namespace Glb
open Go
open Nat (reduceAdd reduceEqDiff reduceLeDiff)
set_option maxRecDepth 10000
set_option maxHeartbeats 8000000
def getConf (l : List Int) : Conf × Int :=
 if (confC.dec (some l)).2.end_ ≠ 0 then (⟨[], [], []⟩, (confC.dec (some l)).2.end_) else if (confC.dec (some l)).1.right = true then ((confC.dec (some l)).1, 0) else (⟨[], [], []⟩, 29)
theorem SrcS.up {F : Nat -> Prop} {h h' : AHeap} {s q : Nat} {st : Rdr} (hs : SrcS F h s q st) (e : Ext nof h h') : SrcS F h' s q st := by
 obtain ⟨b', s', S', e'⟩ := hs; exact ⟨b', s', S'.up e, e'⟩
theorem src_new {F : Nat -> Prop} {h : AHeap} {q : Nat} {st : Rdr} (hr : RdrS F h q st) (hF : ∀ m, F m -> m < q) : SrcB F (h ++ [some (.arr 2 [[.ptr q 2 0 0, .bool false]] false)]) h.length q false st :=
 ⟨bx10 _ _, hr.up (Ext.b1 _), hF, hr.lt⟩
theorem Rdr.end_zero {st : Rdr} (h : st.end_ = 0) : st = some [] := by
 cases st with
 | none => cases h
 | some l => cases l with
  | nil => rfl
  | cons a l => simp [Rdr.end_] at h
end Glb
namespace Glb
open Go
open Nat (reduceAdd reduceEqDiff reduceLeDiff)
set_option maxRecDepth 10000
set_option maxHeartbeats 8000000
def GetConfOk (P : Program) (f : FuncId) : Prop := isFn P f = true /\ ∀ (G : Nat -> Prop) (h : AHeap) (l : List Int) (b : AV), Rd G h (dBytes l) b -> bytesOk l -> l.length <= 2^37 ->
 ACalls P f [b] h fun r h' => ∃ as, r = .tup [.agg as, .int .i64 (getConf l).2] /\ OwnL (getConf l).1.c (fun m => h.length <= m) h' as /\ Ext nof h h'
theorem conf_len {l r : List Int} {x : Conf} (hb : bytesOk l) (h : confC.dec (some l) = (x, some r)) : 8 * x.old.length <= l.length /\ 8 * x.new.length <= l.length /\ 8 * x.learners.length <= l.length /\ l = confC.enc x ++ r /\ confC.ok x := by
 obtain ⟨e, ok⟩ := confC.only l x r hb h
 have h1 := nums_length x.old
 have h2 := nums_length x.new
 have h3 := nums_length x.learners
 have e2 := congrArg List.length e
 rw [confC_enc] at e2
 simp only [Conf.bytes, List.length_append] at e2
 exact ⟨by omega, by omega, by omega, e, ok⟩
theorem GetConf_ok {P : Program} {f rd co en e0 ck : FuncId} (hf : Is P f (c_image_GetConf rd co en ck)) (hr : ReadR P rd) (hc : GetT P co Conf.c confC.dec) (he : Is P en (c_image_source_end e0)) (he0 : Is P e0 c_pack_Reader_End) (hk : CheckOk P ck) : GetConfOk P f := by
 refine ⟨hf.2, fun G h l b hb hbo hlen => fun_sound hf.1 (Nat.le_of_ble_eq_true rfl) ?_⟩
 show vc P (c_image_GetConf rd co en ck).code ⟨[(0, b)], [], h⟩ (atEnd (c_image_GetConf rd co en ck).res _)
 simp only [c_image_GetConf, go_sem, reduceEqDiff, reduceAdd]
 have A0 := bx10 h (some (.arr 3 [[.nils, .nils, .nils]] false))
 have X0 : Ext nof h (h ++ [some (.arr 3 [[.nils, .nils, .nils]] false)]) := Ext.b1 _
 have l0 : h.length + 1 = (h ++ [some (ABlk.arr 3 [[.nils, .nils, .nils]] false)]).length := by simp
 have hb := hb.up X0
 generalize h ++ [some (ABlk.arr 3 [[.nils, .nils, .nils]] false)] = H0 at *
 refine wCall_use ⟨hr.1, hr.2 G H0 l b hb hbo (by omega)⟩ ?_
 rintro _ h1 ⟨q, rfl, hq, r1, x1⟩
 simp only [go_sem, reduceEqDiff, reduceAdd, reduceLeDiff]
 have S1 := src_new r1 (fun m hm => hm.2)
 have lq := r1.lt
 have X1 : Ext nof H0 (h1 ++ [some (.arr 2 [[.ptr q 2 0 0, .bool false]] false)]) := x1.tr (Ext.b1 _)
 have lb : h1.length < (h1 ++ [some (ABlk.arr 2 [[.ptr q 2 0 0, .bool false]] false)]).length := by simp
 generalize h1 ++ [some (ABlk.arr 2 [[.ptr q 2 0 0, .bool false]] false)] = H1 at *
 refine wCall_use ⟨hc.1, hc.2 _ H1 h1.length q _ ⟨false, _, S1, rfl⟩⟩ ?_
 rintro _ H2 ⟨y, as, rfl, hO, S2, X2, hy⟩
 obtain ⟨o, n, e, rfl, h1o, h2o, h3o⟩ := own_confL hO
 have lx := x1.1
 have l2 := X2.1
 have A2 : H2[h.length]? = _ := ((X1.trans X2 (F'' := two h1.length q) (fun _ _ x => x.elim) (fun _ _ x => x)).2 _ (by omega) (by simp only [two]; omega)).trans A0
 have XX : Ext nof h (H2 ++ [some (.arr 3 [[o, n, e]] false)]) := ((((X0.trans X1 (fun _ _ x => x) (fun _ _ x => x)).trans X2 (F'' := nof) (fun _ _ x => x) (fun m hm hm' => by simp only [two] at hm'; omega)))).tr (Ext.b1 _)
 simp only [go_sem, reduceEqDiff, reduceAdd, reduceLeDiff, h1o.scalar, h2o.scalar, h3o.scalar]
 have S3 := S2.up (Ext.b1 (some (.arr 3 [[o, n, e]] false)))
 have A3 := bx10 H2 (some (.arr 3 [[o, n, e]] false))
 have A4 : (H2 ++ [some (.arr 3 [[o, n, e]] false)])[h.length]? = _ := (old1 (by omega) _).trans A2
 have l3 : H2.length + 1 = (H2 ++ [some (ABlk.arr 3 [[o, n, e]] false)]).length := by simp
 have hO3 : OwnL y.c (fun m => h.length <= m /\ m ≠ h.length) (H2 ++ [some (.arr 3 [[o, n, e]] false)]) [o, n, e] := OwnL.mono _ (fun m hm => by omega) ((Ext.b1 _).keep _) _ hO
 generalize H2 ++ [some (ABlk.arr 3 [[o, n, e]] false)] = H3 at *
 have ef : Rdr.if_ false (some l) = some l := rfl
 rw [ef] at hy S3
 simp only [getConf]
 have few : confC.dec (some l) = ((confC.dec (some l)).1, some []) -> (confC.dec (some l)).1.few (2^38) := fun hh => by obtain ⟨n1, n2, n3, -⟩ := conf_len hbo hh; exact ⟨by omega, by omega, by omega⟩
 generalize confC.dec (some l) = R at *
 refine use1 he.2 (end_ok he he0 S3) ?_
 have l4 : h.length < H3.length := by omega
 have fin : ∀ (d w z : AV) (x : Conf), OwnL x.c (fun m => h.length <= m /\ m ≠ h.length) H3 [d, w, z] -> OwnL x.c (fun m => h.length <= m) (H3.set h.length (some (.arr 3 [[d, w, z]] false))) [d, w, z] /\ Ext nof h (H3.set h.length (some (.arr 3 [[d, w, z]] false))) := by
  intro d w z x o1
  exact ⟨OwnL.mono _ (fun m hm => hm.1) (fun m hm y hy => by rw [List.getElem?_set_ne (by omega)]; exact hy) _ o1, XX.put (by omega) _⟩
 have none' := fin .nils .nils .nils ⟨[], [], []⟩ ⟨_, _, rfl, Own.nils _, _, _, rfl, Own.nils _, _, _, rfl, Own.nils _, rfl⟩
 simp only [go_sem, reduceEqDiff]
 by_cases c : R.2.end_ = 0
 ·have es := Rdr.end_zero c
  have ey := hy (by rw [es]; simp)
  subst ey
  have fw := few (by rw [<- es])
  have R3 : RdL (fun _ => True) H3 R.1.c [o, n, e] := OwnL.rd _ (fun _ _ => trivial) _ hO3
  have c' : ¬ R.2.end_ ≠ 0 := by simpa using c
  rw [if_neg c']
  simp only [go_sem, reduceEqDiff, reduceAdd, reduceLeDiff, decide_true, c, A3]
  refine use1 hk.1 (hk.2 _ H3 R.1 _ R3 fw) ?_
  cases cr : R.1.right with
  | true =>
   simp only [go_sem, reduceEqDiff, reduceAdd, reduceLeDiff, decide_true, A3, A4, l4, h1o.scalar, h2o.scalar, h3o.scalar]
   exact ⟨_, rfl, fin o n e _ hO3⟩
  | false =>
   have n29 : decide ((29 : Int) = 0) = false := rfl
   simp only [go_sem, reduceEqDiff, reduceAdd, reduceLeDiff, n29, A4, l4]
   exact ⟨_, rfl, none'⟩
 ·have c' : R.2.end_ ≠ 0 := c
  rw [if_pos c']
  simp only [go_sem, reduceEqDiff, reduceAdd, reduceLeDiff, decide_eq_false c, A4, l4]
  exact ⟨_, rfl, none'⟩
end Glb
