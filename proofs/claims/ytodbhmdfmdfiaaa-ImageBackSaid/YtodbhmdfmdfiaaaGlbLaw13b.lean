/-
  Images and changes are read from their bytes as they were: the law ImageBack.
-/
import Derived.Test.YtodbhmdfmdfiaaaGlbLaw13c
import Derived.Test.YtodbhmdfmdfiaaaGlbImgX
import Derived.Test.YtodbhmdfmdfiaaaGlbQuoA
set_option linter.unusedSimpArgs false
set_option linter.unusedVariables false
namespace Glb
open Go
set_option maxRecDepth 10000
set_option maxHeartbeats 16000000

theorem getImage_back {x : Image} (h : imageC.ok x) : getImage (imageC.enc x) = if x.ordered = true then (x, 0) else (⟨[], []⟩, 15) := by
  have e := imageC.back x [] h
  rw [List.append_nil] at e
  simp only [getImage, e]
  rfl
theorem getImage_cut {x : Image} (h : imageC.ok x) {k : Nat} (hk : k < (imageC.enc x).length) : getImage ((imageC.enc x).take k) = (⟨[], []⟩, 4) := by
  have e := imageC.begin h (p := (imageC.enc x).take k) (t := (imageC.enc x).drop k) (List.take_append_drop _ _).symm (fun e => by have := List.drop_eq_nil_iff.1 e; omega)
  simp only [getImage, e]
  rfl
theorem getChanges_back {l : List Change} (h : changesC.ok l) : getChanges (changesC.enc l) = (l, 0) := by
  have e := changesC.back l [] h
  rw [List.append_nil] at e
  simp only [getChanges, e]
  rfl
theorem getChanges_cut {l : List Change} (h : changesC.ok l) {k : Nat} (hk : k < (changesC.enc l).length) : getChanges ((changesC.enc l).take k) = ([], 4) := by
  have e := changesC.begin h (p := (changesC.enc l).take k) (t := (changesC.enc l).drop k) (List.take_append_drop _ _).symm (fun e => by have := List.drop_eq_nil_iff.1 e; omega)
  simp only [getChanges, e]
  rfl
theorem getChanges_long {l : List Change} (h : changesC.ok l) : getChanges (changesC.enc l ++ [0]) = ([], 2) := by
  have e := changesC.back l [0] h
  simp only [getChanges, e]
  rfl

/-! what is read, as it stands -/
theorem GetImgOk.p {P : Program} {f : FuncId} (hc : GetImgOk P f) {G : Nat → Prop} {h : AHeap} {l : List Int} {b : AV} (hb : Rd G h (dBytes l) b) (hbo : bytesOk l) (hl : l.length ≤ 2^37) :
    ACalls P f [b] h fun r h' => r = .tup [.agg (getImage l).1.v, .int .i64 (getImage l).2] ∧ h' = h :=
  (hc.2 G h l b hb hbo hl).freeze fun _ _ ⟨_, h1, h2, h3⟩ => ⟨h3, _, h1 ▸ Frz.tup2 (Frz.aggD (OwnL.fz _ (fun _ x => x) _ h2)) (Frz.int _ _), rfl⟩
theorem GetChsOk.p {P : Program} {f : FuncId} (hc : GetChsOk P f) {G : Nat → Prop} {h : AHeap} {l : List Int} {b : AV} (hb : Rd G h (dBytes l) b) (hbo : bytesOk l) (hl : l.length ≤ 2^37) :
    ACalls P f [b] h fun r h' => r = .tup [achanges (getChanges l).1, .int .i64 (getChanges l).2] ∧ h' = h :=
  (hc.2 G h l b hb hbo hl).freeze fun _ _ ⟨_, h1, h2, h3⟩ => ⟨h3, _, h1 ▸ Frz.tup2 (Frz.d (Own.fz (dChanges _) (fun _ x => x) _ h2)) (Frz.int _ _), rfl⟩

theorem back_ok {P : Program} {f fw fk fe fp fg fo fi pc gc cb si sc : FuncId} (hf : Is P f (c_glebelaw13_ImageBack fw fk fe fp fg fo fi pc gc cb si sc)) (hw : FewOk P fw) (hk : YesOk P fk) (he : ChFewOk P fe) (hp : PutImgP P fp) (hg : GetImgOk P fg) (ho : OrdOk P fo) (hpk : PickOk P fi)
    (hpc : PutChsP P pc) (hgc : GetChsOk P gc) (hcb : CopyOk P cb .u8) (hsi : SameImageOk P si) (hsc : SameChangesOk P sc) (x : Image) (l : List Change) (cut : Int) (hx : x.R) (hl : ∀ y ∈ l, y.R) (h : AHeap) : ACalls P f [.agg x.v, achanges l, .int .i64 cut] h fun r _ => r = .bool true := by
  refine fun_sound hf.1 (Nat.le_of_ble_eq_true rfl) ?_
  show vc P (c_glebelaw13_ImageBack fw fk fe fp fg fo fi pc gc cb si sc).code ⟨[(0, .agg x.v), (1, achanges l), (2, .int .i64 cut)], [], h⟩ (atEnd (c_glebelaw13_ImageBack fw fk fe fp fg fo fi pc gc cb si sc).res _)
  have yes : ∀ {h : AHeap} {K : AV → AHeap → Prop}, K (.bool true) h → wCall P fk [] h K := fun hK => wCall_use ⟨hk.1, hk.2 _⟩ (by rintro _ _ ⟨rfl, rfl⟩; exact hK)
  have rx : ∀ h, RdL (fun _ => True) h x.c [ahards x.hards, avotes x.votes] := fun h => by simpa only [Image.v_eq] using rd_imagev (fun _ => True) h x
  have rl : ∀ h, Rd (fun _ => True) h (dChanges l) (achanges l) := fun h => rd_achanges _ _ _
  have ll : alen (achanges l) = some (.int .i64 l.length) := by simpa using (rl h).len
  simp only [c_glebelaw13_ImageBack, Image.v_eq, go_sem, reduceIte, Nat.reduceEqDiff, Nat.reduceAdd, Nat.reduceLeDiff, Nat.reducePow, Nat.reduceDiv, Nat.reduceMod, decide_true]
  have B0 := bx10 h (some (.arr 2 [[ahards x.hards, avotes x.votes]] false))
  generalize h ++ [some (ABlk.arr 2 [[ahards x.hards, avotes x.votes]] false)] = H0 at *
  refine wCall_use ⟨hw.1, hw.2 _ H0 x _ (rx H0)⟩ ?_
  rintro _ H1 ⟨b, rfl, e, hfit⟩
  subst e
  cases b with
  | false =>
    simp only [go_sem, reduceIte, Nat.reduceEqDiff, Nat.reduceAdd, Nat.reduceLeDiff, Nat.reducePow, Nat.reduceDiv, Nat.reduceMod, decide_true]
    exact yes (by simp only [go_sem, reduceIte, Nat.reduceEqDiff, Nat.reduceAdd, Nat.reduceLeDiff, Nat.reducePow, Nat.reduceDiv, Nat.reduceMod, decide_true])
  | true =>
  have hfit := hfit rfl
  simp only [go_sem, reduceIte, Nat.reduceEqDiff, Nat.reduceAdd, Nat.reduceLeDiff, Nat.reducePow, Nat.reduceDiv, Nat.reduceMod, decide_true, ll]
  by_cases c1 : (20 : Int) < l.length
  · simp only [go_sem, reduceIte, Nat.reduceEqDiff, Nat.reduceAdd, Nat.reduceLeDiff, Nat.reducePow, Nat.reduceDiv, Nat.reduceMod, decide_true, decide_eq_true c1]
    exact yes (by simp only [go_sem, reduceIte, Nat.reduceEqDiff, Nat.reduceAdd, Nat.reduceLeDiff, Nat.reducePow, Nat.reduceDiv, Nat.reduceMod, decide_true])
  simp only [go_sem, reduceIte, Nat.reduceEqDiff, Nat.reduceAdd, Nat.reduceLeDiff, Nat.reducePow, Nat.reduceDiv, Nat.reduceMod, decide_true, decide_eq_false c1]
  have B1 := B0
  refine vc_loop (fun m L h' => ∃ i : Nat, lk 1 L = achanges l ∧ lk 2 L = .int .i64 cut ∧ lk 3 L = .ptr h.length 2 0 0 ∧ lk 7 L = .int .i64 i ∧ H1 = h' ∧ (∀ y ∈ l.take i, y.small) ∧ i ≤ l.length ∧ m = l.length - i) l.length ?_ ?_
  · exact ⟨0, by simp [lk_ins, lk_cons], by simp [lk_ins, lk_cons], by simp [lk_ins, lk_cons], by simp [lk_ins], rfl, by simp, by omega, by omega⟩
  · rintro m L _ ⟨i, k1, k2, k3, k7, rfl, hs, hi, rfl⟩
    simp only [c_glebelaw13_ImageBack_l0, go_sem, reduceIte, Nat.reduceEqDiff, Nat.reduceAdd, Nat.reduceLeDiff, Nat.reducePow, Nat.reduceDiv, Nat.reduceMod, decide_true, k1, k2, k3, k7, ll]
    refine wCond_split (fun ci => ?_) (fun ci => ?_)
    · simp at ci
      obtain ⟨p, cs, hp1, hp2, hcs⟩ := (rl H1).index .i64 (i := i) (d := l[i].c) (by omega) (by simp [ci])
      have hcl : cs.length = 17 := by rw [RdL_length hcs]; rfl
      have tk : cs.take 17 = cs := List.take_of_length_le (by omega)
      have e1 : IntKind.i64.wrap (↑i + 1) = (i : Int) + 1 := wrap_i64 (by omega)
      simp only [go_sem, reduceIte, Nat.reduceEqDiff, Nat.reduceAdd, Nat.reduceLeDiff, Nat.reducePow, Nat.reduceDiv, Nat.reduceMod, decide_true, k1, k2, k3, k7, hp1, aload_p hp2, hcl, tk]
      refine wCall_use ⟨he.1, he.2 _ H1 l[i] cs hcs⟩ ?_
      rintro _ H2 ⟨b, rfl, e, hb⟩
      subst e
      cases b
      · simp only [go_sem, reduceIte, Nat.reduceEqDiff, Nat.reduceAdd, Nat.reduceLeDiff, Nat.reducePow, Nat.reduceDiv, Nat.reduceMod, decide_true]
        exact yes (by simp only [go_sem, reduceIte, Nat.reduceEqDiff, Nat.reduceAdd, Nat.reduceLeDiff, Nat.reducePow, Nat.reduceDiv, Nat.reduceMod, decide_true])
      · simp only [go_sem, reduceIte, Nat.reduceEqDiff, Nat.reduceAdd, Nat.reduceLeDiff, Nat.reducePow, Nat.reduceDiv, Nat.reduceMod, decide_true, k1, k2, k3, k7, e1]
        refine ⟨_, by omega, i + 1, by simp, fun y hy => ?_, ci, rfl⟩
        rw [List.take_succ_eq_append_getElem ci] at hy
        rcases List.mem_append.1 hy with h3 | h3
        · exact hs y h3
        · simp at h3; rw [h3]; exact hb rfl
    · simp at ci
      obtain rfl : i = l.length := by omega
      rw [List.take_length] at hs
      have xok := image_okR hx hfit.few
      have xb := image_bound hfit
      have lok := changes_okR hl (fun y hy => (hs y hy).few) (by omega)
      have lb := changes_bound (by omega) hs
      simp only [go_sem, reduceIte, Nat.reduceEqDiff, Nat.reduceAdd, Nat.reduceLeDiff, Nat.reducePow, Nat.reduceDiv, Nat.reduceMod, decide_true, k1, k2, k3, k7, B1]
      refine use1 hp.1 (hp.2 _ H1 x _ (rx H1) (by omega)) ?_
      simp only [go_sem, reduceIte, Nat.reduceEqDiff, Nat.reduceAdd, Nat.reduceLeDiff, Nat.reducePow, Nat.reduceDiv, Nat.reduceMod, decide_true]
      refine use1 hg.1 (hg.p (rd_abytes (fun _ => True) _ _) (imageC.bytes _ xok) (by omega)) ?_
      rw [getImage_back xok]
      have Y := fun (z : Image) => bx10 H1 (some (ABlk.arr 2 [[ahards z.hards, avotes z.votes]] false))
      have B2 := fun (z : Image) => (Ext.b1 (h := H1) (some (ABlk.arr 2 [[ahards z.hards, avotes z.votes]] false))).get B1
      have ne : (abytes (imageC.enc x)).scalar = true := scalar_abytes _
      have lb0 := len_abytes (imageC.enc x)
      cases co : x.ordered with
      | false =>
        have B2 := B2 ⟨[], []⟩
        have Y := Y ⟨[], []⟩
        have l0 : alen (ahards []) = some (.int .i64 0) := rfl
        have l1 : alen (avotes []) = some (.int .i64 0) := rfl
        have w0 : IntKind.i64.wrap (0 + 0) = 0 := rfl
        have n00 : ((0 : Int) = 0) = True := eq_true rfl
        simp only at Y B2
        simp only [go_sem, reduceIte, Nat.reduceEqDiff, Nat.reduceAdd, Nat.reduceLeDiff, Nat.reducePow, Nat.reduceDiv, Nat.reduceMod, decide_true, Image.v_eq, scalar_ahards, scalar_avotes, cells_ahards, cells_avotes, k3, B2]
        refine use1 ho.1 (ho.2 _ _ x _ (rx _) (by have := hfit.1; omega) (by have := hfit.2.1; omega)) ?_
        simp only [go_sem, reduceIte, Nat.reduceEqDiff, Nat.reduceAdd, Nat.reduceLeDiff, Nat.reducePow, Nat.reduceDiv, Nat.reduceMod, decide_true, co, Y, l0, l1, w0, n00]
        exact yes (by simp only [go_sem, reduceIte, Nat.reduceEqDiff, Nat.reduceAdd, Nat.reduceLeDiff, Nat.reducePow, Nat.reduceDiv, Nat.reduceMod, decide_true])
      | true =>
        have B2 := B2 x
        have Y := Y x
        simp only [go_sem, reduceIte, Nat.reduceEqDiff, Nat.reduceAdd, Nat.reduceLeDiff, Nat.reducePow, Nat.reduceDiv, Nat.reduceMod, decide_true, Image.v_eq, scalar_ahards, scalar_avotes, cells_ahards, cells_avotes, k3, B2]
        refine use1 ho.1 (ho.2 _ _ x _ (rx _) (by have := hfit.1; omega) (by have := hfit.2.1; omega)) ?_
        have le16 : 16 ≤ (imageC.enc x).length := by rw [imageC_enc]; simp only [List.length_append, num_length]; omega
        have c8 : 8 ≤ (changesC.enc l).length := by rw [show changesC.enc l = num l.length ++ l.flatMap changeC.enc from rfl]; simp only [List.length_append, num_length]; omega
        obtain ⟨p1, p2⟩ := pick_lt (k := cut) (n := (imageC.enc x).length) (by omega)
        obtain ⟨q1, q2⟩ := pick_lt (k := cut) (n := (changesC.enc l).length) (by omega)
        simp only [go_sem, reduceIte, Nat.reduceEqDiff, Nat.reduceAdd, Nat.reduceLeDiff, Nat.reducePow, Nat.reduceDiv, Nat.reduceMod, decide_true, co, k2, lb0]
        refine use1 hpk.1 (hpk.2 _ _ (by omega) _) ?_
        generalize H1 ++ [some (ABlk.arr 2 [[ahards x.hards, avotes x.votes]] false)] = H2 at *
        obtain ⟨a1, s1, s2⟩ := Rd.slice (rd_abytes (fun _ => True) H2 (imageC.enc x)) (lo := none) (hi := some (pick cut (imageC.enc x).length)) (mx := none) (by simp) (by simpa using p1) (by simp; omega) (by simp) (by simp; omega) (by simp)
        simp only [Option.getD_some, Option.getD_none, Int.toNat_zero, List.drop_zero, ← List.map_take] at s2
        simp only [go_sem, reduceIte, Nat.reduceEqDiff, Nat.reduceAdd, Nat.reduceLeDiff, Nat.reducePow, Nat.reduceDiv, Nat.reduceMod, decide_true, aslc, s1]
        refine use1 hg.1 (hg.p s2 ((imageC.bytes _ xok).take _) (by simp; omega)) ?_
        rw [getImage_cut xok (by omega)]
        have ol : alen (achanges l) = some (.int .i64 l.length) := ll
        have B3 := (Ext.b1 (h := H2) (some (ABlk.arr 2 [[ahards [], avotes []]] false))).get B2
        have Y3 := (Ext.b1 (h := H2) (some (ABlk.arr 2 [[ahards [], avotes []]] false))).get Y
        simp only [go_sem, reduceIte, Nat.reduceEqDiff, Nat.reduceAdd, Nat.reduceLeDiff, Nat.reducePow, Nat.reduceDiv, Nat.reduceMod, decide_true, Image.v_eq, scalar_ahards, scalar_avotes, cells_ahards, cells_avotes, k1]
        generalize H2 ++ [some (ABlk.arr 2 [[ahards [], avotes []]] false)] = H3 at *
        have lc0 := len_abytes (changesC.enc l)
        refine use1 hpc.1 (hpc.2 _ H3 l _ (rl H3) (by omega)) ?_
        simp only [go_sem, reduceIte, Nat.reduceEqDiff, Nat.reduceAdd, Nat.reduceLeDiff, Nat.reducePow, Nat.reduceDiv, Nat.reduceMod, decide_true]
        refine use1 hgc.1 (hgc.p (rd_abytes (fun _ => True) _ _) (changesC.bytes _ lok) (by omega)) ?_
        rw [getChanges_back lok]
        simp only [go_sem, reduceIte, Nat.reduceEqDiff, Nat.reduceAdd, Nat.reduceLeDiff, Nat.reducePow, Nat.reduceDiv, Nat.reduceMod, decide_true, k2, lc0]
        refine use1 hpk.1 (hpk.2 _ _ (by omega) _) ?_
        obtain ⟨a2, u1, u2⟩ := Rd.slice (rd_abytes (fun _ => True) H3 (changesC.enc l)) (lo := none) (hi := some (pick cut (changesC.enc l).length)) (mx := none) (by simp) (by simpa using q1) (by simp; omega) (by simp) (by simp; omega) (by simp)
        simp only [Option.getD_some, Option.getD_none, Int.toNat_zero, List.drop_zero, ← List.map_take] at u2
        simp only [go_sem, reduceIte, Nat.reduceEqDiff, Nat.reduceAdd, Nat.reduceLeDiff, Nat.reducePow, Nat.reduceDiv, Nat.reduceMod, decide_true, aslc, u1]
        refine use1 hgc.1 (hgc.p u2 ((changesC.bytes _ lok).take _) (by simp; omega)) ?_
        rw [getChanges_cut lok (by omega)]
        simp only [go_sem, reduceIte, Nat.reduceEqDiff, Nat.reduceAdd, Nat.reduceLeDiff, Nat.reducePow, Nat.reduceDiv, Nat.reduceMod, decide_true]
        refine wCall_use ⟨hcb.1, hcb.2 (fun _ => True) H3 (changesC.enc l) _ (rd_abytes _ _ _) (by omega)⟩ ?_
        rintro b H4 ⟨ob, cb, X4⟩
        have B4 := (X4.tr (Ext.b1 (some (ABlk.arr 1 [[.int .u8 0]] false)))).get B3
        have Y4 := (X4.tr (Ext.b1 (some (ABlk.arr 1 [[.int .u8 0]] false)))).get Y3
        have ye : aelems (H4 ++ [some (ABlk.arr 1 [[.int .u8 0]] false)]) 1 (.ref H4.length 1 0 1 (some 1)) = some [[.int .u8 0]] := aelems_at (bx10 _ _) _ rfl
        obtain ⟨o5, H5, t1, t2, t3, t4⟩ := own_app (lo := H3.length) (bytes := 1) (es := [[.int .u8 0]]) (ys := [[.int .u8 0]]) ob cb (Ext.b1 (some (ABlk.arr 1 [[.int .u8 0]] false))) ⟨_, _, rfl, ⟨_, _, rfl, own_u8 _ _ _, rfl⟩, rfl⟩ X4.1 (by simp only [List.length_map, List.length_cons, List.length_nil]; omega)
        rw [← aappend_of ye] at t1
        simp only [go_sem, reduceIte, Nat.reduceEqDiff, Nat.reduceAdd, Nat.reduceLeDiff, Nat.reducePow, Nat.reduceDiv, Nat.reduceMod, decide_true, t1]
        have h3 := (List.getElem?_eq_some_iff.1 B3).1
        have h3' := (List.getElem?_eq_some_iff.1 Y3).1
        have l4 := X4.1
        have B5 := (t4.2 _ (by simp; omega) (by omega)).trans B4
        have Y5 := (t4.2 _ (by simp; omega) (by omega)).trans Y4
        have t2' : Rd (fun _ => True) H5 (dBytes (changesC.enc l ++ [0])) o5 := by
          have := Own.rd _ (F' := fun _ => True) (fun _ _ => trivial) _ t2
          simpa only [dBytes, List.map_append, List.map_cons, List.map_nil] using this
        refine use1 hgc.1 (hgc.p t2' (bytesOk.app (changesC.bytes _ lok) (by intro z hz; simp at hz; omega)) (by simp; omega)) ?_
        rw [getChanges_long lok]
        have n00 : ((0 : Int) = 0) = True := eq_true rfl
        simp only [go_sem, reduceIte, Nat.reduceEqDiff, Nat.reduceAdd, Nat.reduceLeDiff, Nat.reducePow, Nat.reduceDiv, Nat.reduceMod, decide_true, n00, k3, B5, Y5]
        refine use1 hsi.1 (hsi.2 _ _ H5 x x _ _ (rx _) (rx _) hfit.few) ?_
        simp only [go_sem, reduceIte, Nat.reduceEqDiff, Nat.reduceAdd, Nat.reduceLeDiff, Nat.reducePow, Nat.reduceDiv, Nat.reduceMod, decide_true, n00, k1]
        refine use1 hsc.1 (hsc.2 _ _ H5 l l _ _ (rl _) (rl _) (by omega) (fun y hy => (hs y hy).few)) ?_
        simp only [go_sem, reduceIte, Nat.reduceEqDiff, Nat.reduceAdd, Nat.reduceLeDiff, Nat.reducePow, Nat.reduceDiv, Nat.reduceMod, decide_true]
        exact yes (by simp only [go_sem, reduceIte, Nat.reduceEqDiff, Nat.reduceAdd, Nat.reduceLeDiff, Nat.reducePow, Nat.reduceDiv, Nat.reduceMod, decide_true])

end Glb
