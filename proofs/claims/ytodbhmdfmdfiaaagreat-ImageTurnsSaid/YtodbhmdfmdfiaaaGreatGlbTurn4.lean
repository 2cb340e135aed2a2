/-
  An image behind any changes: the law ImageTurns.
-/
import Derived.Test.YtodbhmdfmdfiaaaGreatGlbTurn3
set_option linter.unusedSimpArgs false
set_option linter.unusedVariables false
namespace Glb
open Go
set_option maxRecDepth 10000
set_option maxHeartbeats 16000000

theorem ints_ty {l : List Int} (hl : l.length ≤ 2^40) : HasTy (dInts l) intsTy := by
  refine ⟨_, rfl, by simpa using hl, HasTyLL_mk fun d hd => ?_⟩
  obtain ⟨n, -, rfl⟩ := List.mem_map.1 hd
  exact ⟨_, _, rfl, rfl, rfl⟩
theorem hard_ty {x : Hard} (h : x.few) : HasTyL x.c hardTyI :=
  ⟨_, _, rfl, rfl, _, _, rfl, rfl, _, _, rfl, rfl, _, _, rfl, rfl, _, _, rfl, rfl, _, _, rfl, entries_ty h.1, _, _, rfl, ints_ty h.2.1.1, _, _, rfl, ints_ty h.2.1.2.1, _, _, rfl, ints_ty h.2.1.2.2, _, _, rfl, bytes_ty h.2.2, rfl⟩
theorem vote_ty (v : Vote) : HasTyL v.c voteTy := ⟨_, _, rfl, rfl, _, _, rfl, rfl, _, _, rfl, rfl, _, _, rfl, rfl, _, _, rfl, rfl, rfl⟩
theorem image_ty {x : Image} (h : x.few) : HasTyL x.c imageTy := by
  refine ⟨_, _, rfl, ⟨_, rfl, by have := h.1; simp; omega, HasTyLL_mk fun d hd => ?_⟩, _, _, rfl, ⟨_, rfl, by have := h.2.1; simp; omega, HasTyLL_mk fun d hd => ?_⟩, rfl⟩
  · obtain ⟨n, hn, rfl⟩ := List.mem_map.1 hd
    exact hard_ty (h.2.2 n hn)
  · obtain ⟨n, hn, rfl⟩ := List.mem_map.1 hd
    exact vote_ty n
theorem ApplyOk.o {P : Program} {f : FuncId} (hc : ApplyOk P f) {h : AHeap} {x : Image} {c : Change} {G : Nat → Prop} {as cs : List AV} (ha : RdL G h x.c as) (hcc : RdL G h c.c cs) {k : Nat} (hx : x.gd k) (hk : k ≤ 20) (hb : x.bases) (hs : c.small) (hR : c.R) :
    ACalls P f [.agg as, .agg cs] h fun r h' => ∃ bs, r = .tup [.agg bs, .int .i64 (x.applied c).2] ∧ OwnL (x.applied c).1.c (fun m => h.length ≤ m) h' bs ∧ Ext nof h h' := by
  have hcb := change_bound hs
  have hxb := gd_bound hx hk
  exact hc.2 G h x c as cs ha hcc (hx.ok hk) (change_okR hR hs.few) (by omega) (by omega) (hx.logs hk hb) (by have := hs.1.1; omega) (by have := hx.1; omega) (by have := hx.2.1; omega)

theorem turns_ok {P : Program} {f fw ro fk ci fe fb cc fa ra si sc sp cl pc rp sb : FuncId} (hf : Is P f (c_glebelaw13_ImageTurns fw ro fk ci fe fb cc fa ra si sc sp cl pc rp sb)) (hw : FewOk P fw) (hro : OrdOk P ro) (hk : YesOk P fk) (hci : CopyImageP P ci) (he : ChFewOk P fe) (hb : BasesOk P fb) (hcc : CopyChangeP P cc)
    (ha : ApplyOk P fa) (hra : RefApplyP P ra) (hsi : SameImageOk P si) (hsc : SameChangeOk P sc) (hsp : SpoilLT P sp imageTy) (hcl : CopyChangesP P cl) (hpc : PutChsP P pc) (hrp : PutChsP P rp) (hsb : SameOk P sb .u8)
    (x : Image) (l : List Change) (xR : x.R) (lR : ∀ y ∈ l, y.R) (h : AHeap) : ACalls P f [.agg x.v, achanges l] h fun r _ => r = .bool true := by
  refine fun_sound hf.1 (Nat.le_of_ble_eq_true rfl) ?_
  show vc P (c_glebelaw13_ImageTurns fw ro fk ci fe fb cc fa ra si sc sp cl pc rp sb).code ⟨[(0, .agg x.v), (1, achanges l)], [], h⟩ (atEnd (c_glebelaw13_ImageTurns fw ro fk ci fe fb cc fa ra si sc sp cl pc rp sb).res _)
  have yes : ∀ {h : AHeap} {K : AV → AHeap → Prop}, K (.bool true) h → wCall P fk [] h K := fun hK => wCall_use ⟨hk.1, hk.2 _⟩ (by rintro _ _ ⟨rfl, rfl⟩; exact hK)
  have rx : ∀ h (x : Image), RdL (fun _ => True) h x.c [ahards x.hards, avotes x.votes] := fun h x => by simpa only [Image.v_eq] using rd_imagev (fun _ => True) h x
  have rl : ∀ h, Rd (fun _ => True) h (dChanges l) (achanges l) := fun h => rd_achanges _ _ _
  have ll : alen (achanges l) = some (.int .i64 l.length) := by simpa using (rl h).len
  simp only [c_glebelaw13_ImageTurns, Image.v_eq, go_sem, reduceIte, Nat.reduceEqDiff, Nat.reduceAdd, Nat.reduceLeDiff, Nat.reducePow, Nat.reduceDiv, Nat.reduceMod, decide_true, scalar_ahards, scalar_avotes]
  have B0 := bx10 h (some (.arr 2 [[ahards x.hards, avotes x.votes]] false))
  generalize h ++ [some (ABlk.arr 2 [[ahards x.hards, avotes x.votes]] false)] = H0 at *
  refine wCall_use ⟨hw.1, hw.2 _ H0 x _ (rx H0 x)⟩ ?_
  rintro _ H1 ⟨b, rfl, e, hfit⟩
  subst e
  cases b with
  | false => simp only [go_sem, reduceIte, Nat.reduceEqDiff, Nat.reduceAdd, Nat.reduceLeDiff, Nat.reducePow, Nat.reduceDiv, Nat.reduceMod, decide_true]; exact yes (by simp only [go_sem, reduceIte, Nat.reduceEqDiff, Nat.reduceAdd, Nat.reduceLeDiff, Nat.reducePow, Nat.reduceDiv, Nat.reduceMod, decide_true])
  | true =>
  have hg := (hfit rfl).gd xR
  simp only [go_sem, reduceIte, Nat.reduceEqDiff, Nat.reduceAdd, Nat.reduceLeDiff, Nat.reducePow, Nat.reduceDiv, Nat.reduceMod, decide_true, B0]
  refine use1 hro.1 (hro.2 _ H1 x _ (rx H1 x) (by have := hg.1; omega) (by have := hg.2.1; omega)) ?_
  cases co : x.ordered with
  | false => simp only [go_sem, reduceIte, Nat.reduceEqDiff, Nat.reduceAdd, Nat.reduceLeDiff, Nat.reducePow, Nat.reduceDiv, Nat.reduceMod, decide_true]; exact yes (by simp only [go_sem, reduceIte, Nat.reduceEqDiff, Nat.reduceAdd, Nat.reduceLeDiff, Nat.reducePow, Nat.reduceDiv, Nat.reduceMod, decide_true])
  | true =>
  simp only [go_sem, reduceIte, Nat.reduceEqDiff, Nat.reduceAdd, Nat.reduceLeDiff, Nat.reducePow, Nat.reduceDiv, Nat.reduceMod, decide_true, ll]
  by_cases c1 : (20 : Int) < l.length
  · simp only [go_sem, reduceIte, Nat.reduceEqDiff, Nat.reduceAdd, Nat.reduceLeDiff, Nat.reducePow, Nat.reduceDiv, Nat.reduceMod, decide_true, decide_eq_true c1]; exact yes (by simp only [go_sem, reduceIte, Nat.reduceEqDiff, Nat.reduceAdd, Nat.reduceLeDiff, Nat.reducePow, Nat.reduceDiv, Nat.reduceMod, decide_true])
  simp only [go_sem, reduceIte, Nat.reduceEqDiff, Nat.reduceAdd, Nat.reduceLeDiff, Nat.reducePow, Nat.reduceDiv, Nat.reduceMod, decide_true, decide_eq_false c1, B0]
  refine use1 hci.1 (hci.2 _ H1 x _ (rx H1 x) (hg.few (by omega))) ?_
  simp only [go_sem, reduceIte, Nat.reduceEqDiff, Nat.reduceAdd, Nat.reduceLeDiff, Nat.reducePow, Nat.reduceDiv, Nat.reduceMod, decide_true, Image.v_eq, scalar_ahards, scalar_avotes, cells_ahards, cells_avotes]
  have N0 := fun (z : Image) => bx10 H1 (some (.arr 2 [[ahards z.hards, avotes z.votes]] false))
  have hlen1 : ∀ z : Image, (H1 ++ [some (ABlk.arr 2 [[ahards z.hards, avotes z.votes]] false)]).length = H1.length + 1 := fun z => by simp
  obtain ⟨I, hI⟩ : ∃ I : Nat → Env → AHeap → Prop, ∀ m L h', I m L h' ↔ ∃ (i : Nat) (z : Image), lk 1 L = achanges l ∧ lk 5 L = .ptr H1.length 2 0 0 ∧ lk 6 L = .int .i64 i ∧ h'[H1.length]? = some (some (.arr 2 [[ahards z.hards, avotes z.votes]] false)) ∧
      z.gd i ∧ z.ordered = true ∧ (∀ y ∈ l.take i, y.small) ∧ i ≤ l.length ∧ m = l.length - i := ⟨_, fun _ _ _ => Iff.rfl⟩
  refine vc_loop I l.length ((hI _ _ _).2 ⟨0, x, by simp [lk_ins, lk_cons], by simp [lk_ins, lk_cons], by simp [lk_ins], N0 x, hg, co, by simp, by omega, by omega⟩) ?_
  intro m L h2 hh
  obtain ⟨i, z, k1, k5, k6, Bz, zg, zo, hs, hi, rfl⟩ := (hI _ _ _).1 hh
  simp only [c_glebelaw13_ImageTurns_l0, go_sem, reduceIte, Nat.reduceEqDiff, Nat.reduceAdd, Nat.reduceLeDiff, Nat.reducePow, Nat.reduceDiv, Nat.reduceMod, decide_true, k1, k5, k6, ll]
  refine wCond_split (fun ci => ?_) (fun ci => ?_)
  · simp at ci
    obtain ⟨p, hp1, hp2⟩ := index_av 17 Change.c l .i64 (i := i) (by omega)
    change aindex 17 (achanges l) _ = some p at hp1
    change ∀ h, pcells h p = some l[i].v at hp2
    have hv17 : l[i].v.length = 17 := rfl
    have hvs : l[i].v.all AV.scalar = true := Change.v_sc _
    have tk : l[i].v.take 17 = l[i].v := List.take_of_length_le (by omega)
    have ld2 : ∀ h, aload h true 17 p = some (.agg l[i].v) := fun h => by rw [aload_p (hp2 h), take_agg, hv17, if_pos (Nat.le_refl _), tk]
    have e1 : IntKind.i64.wrap (↑i + 1) = (i : Int) + 1 := wrap_i64 (by omega)
    have rc : ∀ h, RdL (fun _ => True) h l[i].c l[i].v := fun h => rd_changev _ h _
    have lz := (List.getElem?_eq_some_iff.1 Bz).1
    simp only [go_sem, reduceIte, Nat.reduceEqDiff, Nat.reduceAdd, Nat.reduceLeDiff, Nat.reducePow, Nat.reduceDiv, Nat.reduceMod, decide_true, k1, k5, k6, hp1, ld2]
    refine wCall_use ⟨he.1, he.2 _ h2 l[i] _ (rc h2)⟩ ?_
    rintro _ h3 ⟨b, rfl, e, hsm⟩
    subst e
    cases b with
    | false => simp only [go_sem, reduceIte, Nat.reduceEqDiff, Nat.reduceAdd, Nat.reduceLeDiff, Nat.reducePow, Nat.reduceDiv, Nat.reduceMod, decide_true]; exact yes (by simp only [go_sem, reduceIte, Nat.reduceEqDiff, Nat.reduceAdd, Nat.reduceLeDiff, Nat.reducePow, Nat.reduceDiv, Nat.reduceMod, decide_true])
    | true =>
    have hsm := hsm rfl
    simp only [go_sem, reduceIte, Nat.reduceEqDiff, Nat.reduceAdd, Nat.reduceLeDiff, Nat.reducePow, Nat.reduceDiv, Nat.reduceMod, decide_true, k5, Bz]
    refine wCall_use ⟨hb.1, hb.2 _ h3 z _ (rx h3 z) (by have := zg.1; omega)⟩ ?_
    rintro _ h4 ⟨b, rfl, e, hbs⟩
    subst e
    cases b with
    | false => simp only [go_sem, reduceIte, Nat.reduceEqDiff, Nat.reduceAdd, Nat.reduceLeDiff, Nat.reducePow, Nat.reduceDiv, Nat.reduceMod, decide_true]; exact yes (by simp only [go_sem, reduceIte, Nat.reduceEqDiff, Nat.reduceAdd, Nat.reduceLeDiff, Nat.reducePow, Nat.reduceDiv, Nat.reduceMod, decide_true])
    | true =>
    have hbs := hbs rfl
    simp only [go_sem, reduceIte, Nat.reduceEqDiff, Nat.reduceAdd, Nat.reduceLeDiff, Nat.reducePow, Nat.reduceDiv, Nat.reduceMod, decide_true, k5, Bz]
    refine use1 hci.1 (hci.2 _ h4 z _ (rx h4 z) (zg.few (by omega))) ?_
    have E0 := (Ext.b1 (h := h4) (some (.arr 2 [[ahards z.hards, avotes z.votes]] false))).get Bz
    have E1 := bx10 h4 (some (.arr 2 [[ahards z.hards, avotes z.votes]] false))
    simp only [go_sem, reduceIte, Nat.reduceEqDiff, Nat.reduceAdd, Nat.reduceLeDiff, Nat.reducePow, Nat.reduceDiv, Nat.reduceMod, decide_true, Image.v_eq, scalar_ahards, scalar_avotes, cells_ahards, cells_avotes, k1, k6, hp1, ld2]
    have hl5 : (h4 ++ [some (ABlk.arr 2 [[ahards z.hards, avotes z.votes]] false)]).length = h4.length + 1 := by simp
    generalize h4 ++ [some (ABlk.arr 2 [[ahards z.hards, avotes z.votes]] false)] = h5 at *
    refine use1 hcc.1 (hcc.2 _ h5 l[i] _ (rc h5) hsm.few) ?_
    have sm : setMany [AV.int IntKind.i64 0, AV.int IntKind.i64 0, AV.int IntKind.i64 0, AV.int IntKind.i64 0, AV.int IntKind.i64 0, AV.int IntKind.i64 0, AV.int IntKind.i64 0, AV.nils, AV.nils, AV.nils, AV.nils, AV.nils, AV.int IntKind.i64 0, AV.int IntKind.i64 0, AV.int IntKind.i64 0, AV.int IntKind.i64 0, AV.int IntKind.i64 0] 0 l[i].v = l[i].v := setMany_new rfl
    have cv : (AV.agg l[i].v).cells? = some l[i].v := rfl
    have F0 := (Ext.b1 (h := h5) (some (.arr 17 [l[i].v] false))).get E0
    have F1 := (Ext.b1 (h := h5) (some (.arr 17 [l[i].v] false))).get E1
    have F2 := bx10 h5 (some (.arr 17 [l[i].v] false))
    simp only [go_sem, reduceIte, Nat.reduceEqDiff, Nat.reduceAdd, Nat.reduceLeDiff, Nat.reducePow, Nat.reduceDiv, Nat.reduceMod, decide_true, cv, hv17, hvs, sm, tk, F1]
    have hl6 : (h5 ++ [some (ABlk.arr 17 [l[i].v] false)]).length = h5.length + 1 := by simp
    generalize h5 ++ [some (ABlk.arr 17 [l[i].v] false)] = h6 at *
    refine wCall_use ⟨ha.1, ha.o (rx h6 z) (rc h6) zg (by omega) hbs hsm (lR _ (List.getElem_mem _))⟩ ?_
    rintro _ h7 ⟨bs, rfl, oA, X7⟩
    obtain ⟨d, v, rfl, oD, oV⟩ := own_imageL oA
    have l7 := X7.1
    have G0 := (X7.tr (Ext.b1 (some (.arr 2 [[d, v]] false)))).get F0
    have G1 := (X7.tr (Ext.b1 (some (.arr 2 [[d, v]] false)))).get F1
    have G2 := (X7.tr (Ext.b1 (some (.arr 2 [[d, v]] false)))).get F2
    have G3 := bx10 h7 (some (.arr 2 [[d, v]] false))
    have oA8 := OwnL.mono (F' := fun m => h6.length ≤ m ∧ m < h7.length) _ (fun _ x => x) ((Ext.b1 (some (.arr 2 [[d, v]] false))).keep _) _ (OwnL.lt _ _ oA)
    simp only [go_sem, reduceIte, Nat.reduceEqDiff, Nat.reduceAdd, Nat.reduceLeDiff, Nat.reducePow, Nat.reduceDiv, Nat.reduceMod, decide_true, oD.scalar, oV.scalar]
    have hl8 : (h7 ++ [some (ABlk.arr 2 [[d, v]] false)]).length = h7.length + 1 := by simp
    generalize h7 ++ [some (ABlk.arr 2 [[d, v]] false)] = h8 at *
    rw [← hl8]
    have Z0 := fun q => (Ext.b1 (h := h8) q).get G0
    have Z1 := fun q => (Ext.b1 (h := h8) q).get G1
    have Z2 := fun q => (Ext.b1 (h := h8) q).get G2
    have Z3 := fun q => (Ext.b1 (h := h8) q).get G3
    have NR : ∀ m sz i o, m < h8.length → notRes h8.length 1 (.ptr m sz i o) = true := fun m sz i o hm => notRes_lt hm
    have nrp := notRes_of0 (hp2 h8) 1
    simp only [go_sem, reduceIte, Nat.reduceEqDiff, Nat.reduceAdd, Nat.reduceLeDiff, Nat.reducePow, Nat.reduceDiv, Nat.reduceMod, decide_true, k1, k5, k6, Z0, hp1, ld2, NR H1.length _ _ _ (by omega), nrp]
    refine use1 hra.1 (hra.2 (fun _ => True) _ z l[i] _ _ (rx _ z) (rc _) (zg.few (by omega)) hsm.few (zg.logs (by omega) hbs) zo) ?_
    have Z8 := fun q => bx10 h8 q
    have ne80 : (h8.length = H1.length) = False := eq_false (by omega)
    have ne84 : (h8.length = h4.length) = False := eq_false (by omega)
    have ne85 : (h8.length = h5.length) = False := eq_false (by omega)
    have ne87 : (h8.length = h7.length) = False := eq_false (by omega)
    simp only [go_sem, reduceIte, Nat.reduceEqDiff, Nat.reduceAdd, Nat.reduceLeDiff, Nat.reducePow, Nat.reduceDiv, Nat.reduceMod, decide_true, Image.v_eq, scalar_ahards, scalar_avotes, cells_ahards, cells_avotes, k1, k5, k6, Z0, Z1, Z2, Z3, hp1, ld2, NR H1.length _ _ _ (by omega), nrp]
    have yd : ((z.applied l[i]).2 ≠ 0 ∧ (z.applied l[i]).1 = ⟨[], []⟩) ∨ ((z.applied l[i]).2 = 0 ∧ (z.applied l[i]).1.gd (i + 1) ∧ (z.applied l[i]).1.ordered = true) := by
      by_cases ce : (z.applied l[i]).2 = 0
      · exact .inr ⟨ce, applied_gd zg hsm (lR _ (List.getElem_mem _)) zo ce, (applied_apart z l[i] zo ce).2.2.1⟩
      · exact .inl ⟨ce, applied_no ce⟩
    have yf : (z.applied l[i]).1.few := by
      rcases yd with ⟨-, e⟩ | ⟨-, e, -⟩
      · rw [e]; exact ⟨by simp, by simp, fun y hy => by simp at hy⟩
      · exact e.few (by omega)
    generalize z.applied l[i] = Y at *
    obtain ⟨y, en⟩ := Y
    simp only at yd yf oA oD oV oA8 ⊢
    have K0 := Z0 (some (.arr 2 [[ahards y.hards, avotes y.votes]] false))
    have K1 := Z1 (some (.arr 2 [[ahards y.hards, avotes y.votes]] false))
    have K2 := Z2 (some (.arr 2 [[ahards y.hards, avotes y.votes]] false))
    have K3 := Z3 (some (.arr 2 [[ahards y.hards, avotes y.votes]] false))
    have K4 := Z8 (some (.arr 2 [[ahards y.hards, avotes y.votes]] false))
    have oA9 := OwnL.mono (F' := fun m => h6.length ≤ m ∧ m < h7.length) _ (fun _ x => x) ((Ext.b1 (some (.arr 2 [[ahards y.hards, avotes y.votes]] false))).keep _) _ oA8
    have hl9 : (h8 ++ [some (ABlk.arr 2 [[ahards y.hards, avotes y.votes]] false)]).length = h8.length + 1 := by simp
    generalize h8 ++ [some (ABlk.arr 2 [[ahards y.hards, avotes y.votes]] false)] = h9 at *
    refine use1 hsi.1 (hsi.2 (fun _ => True) (fun _ => True) h9 y y _ _ (OwnL.rd _ (fun _ _ => trivial) _ oA9) (rx h9 y) yf) ?_
    simp only [go_sem, reduceIte, Nat.reduceEqDiff, Nat.reduceAdd, Nat.reduceLeDiff, Nat.reducePow, Nat.reduceDiv, Nat.reduceMod, decide_true, k1, k5, k6, K0, K1, K2, K3, K4, hp1, ld2]
    refine use1 hsi.1 (hsi.2 (fun _ => True) (fun _ => True) h9 z z _ _ (rx h9 z) (rx h9 z) (zg.few (by omega))) ?_
    simp only [go_sem, reduceIte, Nat.reduceEqDiff, Nat.reduceAdd, Nat.reduceLeDiff, Nat.reducePow, Nat.reduceDiv, Nat.reduceMod, decide_true, k1, k5, k6, K0, K1, K2, K3, K4, hp1, ld2, hv17, tk]
    refine use1 hsc.1 (hsc.2 (fun _ => True) (fun _ => True) h9 l[i] l[i] _ _ (rc h9) (rc h9) hsm.few) ?_
    simp only [go_sem, reduceIte, Nat.reduceEqDiff, Nat.reduceAdd, Nat.reduceLeDiff, Nat.reducePow, Nat.reduceDiv, Nat.reduceMod, decide_true, k1, k5, k6, K0, K1, K2, K3, K4, hp1, ld2, hv17, tk]
    refine wCall_use ⟨hsp.1, hsp.2 (fun m => h6.length ≤ m ∧ m < h7.length) h9 [d, v] (OwnL.ty _ _ _ (image_ty yf) oA9) (fun m hm => by omega)⟩ ?_
    rintro _ h10 ⟨X10, -⟩
    have l10 := X10.1
    have M0 := (X10.2 H1.length (by omega) (by omega)).trans K0
    have M1 := (X10.2 h4.length (by omega) (by omega)).trans K1
    have M2 := (X10.2 h5.length (by omega) (by omega)).trans K2
    have M4 := (X10.2 h8.length (by omega) (by omega)).trans K4
    simp only [go_sem, reduceIte, Nat.reduceEqDiff, Nat.reduceAdd, Nat.reduceLeDiff, Nat.reducePow, Nat.reduceDiv, Nat.reduceMod, decide_true, k1, k5, k6, M0, M1, M2, M4]
    refine use1 hsi.1 (hsi.2 (fun _ => True) (fun _ => True) h10 z z _ _ (rx h10 z) (rx h10 z) (zg.few (by omega))) ?_
    simp only [go_sem, reduceIte, Nat.reduceEqDiff, Nat.reduceAdd, Nat.reduceLeDiff, Nat.reducePow, Nat.reduceDiv, Nat.reduceMod, decide_true, k1, k5, k6, M0, M1, M2, M4, hp1, ld2, hv17, tk]
    refine use1 hsc.1 (hsc.2 (fun _ => True) (fun _ => True) h10 l[i] l[i] _ _ (rc h10) (rc h10) hsm.few) ?_
    have tks : ∀ y' ∈ l.take (i + 1), y'.small := fun y' hy => by
      rw [List.take_succ_eq_append_getElem ci] at hy
      rcases List.mem_append.1 hy with h3 | h3
      · exact hs y' h3
      · simp at h3; rw [h3]; exact hsm
    rcases yd with ⟨ce, -⟩ | ⟨ce, yg, yo⟩
    · simp only [go_sem, reduceIte, Nat.reduceEqDiff, Nat.reduceAdd, Nat.reduceLeDiff, Nat.reducePow, Nat.reduceDiv, Nat.reduceMod, decide_true, k1, k5, k6, M0, M1, M2, M4, hp1, ld2, hv17, tk, decide_eq_false ce, e1]
      exact ⟨_, by omega, (hI _ _ _).2 ⟨i + 1, z, by simp [lk_ins, k1], by simp [lk_ins, k5], by simp [lk_ins], M0, ⟨zg.1, by have := zg.2.1; omega, fun y hy => (zg.2.2.1 y hy).up, zg.2.2.2⟩, zo, tks, ci, rfl⟩⟩
    · have lM0 := (List.getElem?_eq_some_iff.1 M0).1
      simp only [go_sem, reduceIte, Nat.reduceEqDiff, Nat.reduceAdd, Nat.reduceLeDiff, Nat.reducePow, Nat.reduceDiv, Nat.reduceMod, decide_true, k1, k5, k6, M0, M1, M2, M4, hp1, ld2, hv17, tk, decide_eq_true ce, e1, scalar_ahards, scalar_avotes, cells_ahards, cells_avotes]
      exact ⟨_, by omega, (hI _ _ _).2 ⟨i + 1, y, by simp [lk_ins, k1], by simp [lk_ins, k5], by simp [lk_ins], List.getElem?_set_self lM0, yg, yo, tks, ci, rfl⟩⟩
  · simp at ci
    obtain rfl : i = l.length := by omega
    rw [List.take_length] at hs
    have lf : ∀ y ∈ l, y.few := fun y hy => (hs y hy).few
    have lb := changes_bound (by omega) hs
    simp only [go_sem, reduceIte, Nat.reduceEqDiff, Nat.reduceAdd, Nat.reduceLeDiff, Nat.reducePow, Nat.reduceDiv, Nat.reduceMod, decide_true, k1, k5, k6]
    refine use1 hcl.1 (hcl.2 _ h2 l _ (rl h2) (by omega) lf) ?_
    simp only [go_sem, reduceIte, Nat.reduceEqDiff, Nat.reduceAdd, Nat.reduceLeDiff, Nat.reducePow, Nat.reduceDiv, Nat.reduceMod, decide_true]
    refine use1 hpc.1 (hpc.2 _ h2 l _ (rl h2) (by omega)) ?_
    simp only [go_sem, reduceIte, Nat.reduceEqDiff, Nat.reduceAdd, Nat.reduceLeDiff, Nat.reducePow, Nat.reduceDiv, Nat.reduceMod, decide_true, k1]
    refine use1 hrp.1 (hrp.2 _ h2 l _ (rl h2) (by omega)) ?_
    simp only [go_sem, reduceIte, Nat.reduceEqDiff, Nat.reduceAdd, Nat.reduceLeDiff, Nat.reducePow, Nat.reduceDiv, Nat.reduceMod, decide_true]
    refine use1 hsb.1 (hsb.2 (fun _ => True) h2 (changesC.enc l) (changesC.enc l) _ _ (rd_abytes _ _ _) (rd_abytes _ _ _) (by omega)) ?_
    simp only [go_sem, reduceIte, Nat.reduceEqDiff, Nat.reduceAdd, Nat.reduceLeDiff, Nat.reducePow, Nat.reduceDiv, Nat.reduceMod, decide_true]

end Glb
