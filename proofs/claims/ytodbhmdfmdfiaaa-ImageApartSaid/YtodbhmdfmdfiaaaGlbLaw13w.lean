/-
  An image without what a change is about; whether the logs of an image may be.
-/
import Derived.Test.YtodbhmdfmdfiaaaGlbLaw13a
import Derived.Test.YtodbhmdfmdfiaaaGlbLaw13b
set_option linter.unusedSimpArgs false
set_option linter.unusedVariables false
namespace Glb
open Go
set_option maxRecDepth 10000
set_option maxHeartbeats 16000000

theorem OwnO.kp {lo : Nat} {h h' : AHeap} {sz : Nat} {a : AV} {es : List (List AV)} (ho : OwnO lo h sz a es) (hk : ∀ m, lo ≤ m → m < h.length → h'[m]? = h[m]?) : OwnO lo h' sz a es := by
  rcases ho with ho | ⟨n, off, cap, row, g, h1, h2, h3, h4⟩
  · exact .inl ho
  · exact .inr ⟨n, off, cap, row, g, h1, h2, (hk n h2 (List.getElem?_eq_some_iff.1 h3).1).trans h3, h4⟩
theorem OwnO.lo {lo lo' : Nat} {h : AHeap} {sz : Nat} {a : AV} {es : List (List AV)} (ho : OwnO lo h sz a es) (hl : lo' ≤ lo) : OwnO lo' h sz a es := by
  rcases ho with ho | ⟨n, off, cap, row, g, h1, h2, h3⟩
  · exact .inl ho
  · exact .inr ⟨n, off, cap, row, g, h1, Nat.le_trans hl h2, h3⟩
/-- an item of a list that stays -/
theorem index_av {T : Type} (sz : Nat) (c : T → List D) (l : List T) (k : IntKind) {i : Nat} (hi : i < l.length) :
    ∃ p, aindex sz (D.av (.sl sz (l.map c))) (.int k i) = some p ∧ ∀ h, pcells h p = some (D.avL (c l[i])) := by
  refine ⟨.vptr 0 (D.avL (c l[i])), ?_, fun _ => rfl⟩
  simp only [D.av, aindex, avLL_map]
  rw [if_pos ⟨trivial, by omega⟩]
  simp [hi]

theorem Change.v_eq (x : Change) : x.v = x.cells (dEntries x.log.es).av (dInts x.conf.old).av (dInts x.conf.new).av (dInts x.conf.learners).av (dBytes x.snap).av := by simp only [Change.v, Change.c, D.avL, D.av, Change.cells]
theorem Change.v_sc (x : Change) : x.v.all AV.scalar = true := avL_scalars _
theorem Hard.v_sc (x : Hard) : x.v.all AV.scalar = true := avL_scalars _

def WithoutP (P : Program) (f : FuncId) : Prop := isFn P f = true ∧ ∀ (h : AHeap) (x : Image) (c : Change), x.hards.length ≤ 2^30 → x.votes.length ≤ 2^30 → ACalls P f [.agg x.v, .agg c.v] h fun r h' => r = .agg (x.without c).v ∧ h' = h

theorem without_ok {P : Program} {f : FuncId} (hf : Is P f c_glebelaw13_without) : WithoutP P f := by
  refine ⟨hf.2, fun h x c hxl hvl => ACalls.freeze (K := fun r h' => ∃ o w, r = .agg [o, w] ∧ OwnO h.length h' 10 o (D.avLL ((x.without c).hards.map Hard.c)) ∧ OwnO h.length h' 5 w (D.avLL ((x.without c).votes.map Vote.c)) ∧ Ext nof h h') (fun_sound hf.1 (Nat.le_of_ble_eq_true rfl) ?_) ?_⟩
  rotate_left
  · rintro r h' ⟨o, w, rfl, ho, hw, hx⟩
    refine ⟨hx, _, Frz.aggD (ds := (x.without c).c) ?_, rfl⟩
    simp only [Image.c, FzL]
    exact ⟨_, _, rfl, OwnO.fz ho (by omega), _, _, rfl, OwnO.fz hw (by omega), rfl⟩
  show vc P c_glebelaw13_without.code ⟨[(0, .agg x.v), (1, .agg c.v)], [], h⟩ (atEnd c_glebelaw13_without.res _)
  have ld : alen (ahards x.hards) = some (.int .i64 x.hards.length) := by simpa using (rd_ahards nof [] x.hards).len
  have lv : alen (avotes x.votes) = some (.int .i64 x.votes.length) := by simpa using (rd_avotes nof [] x.votes).len
  have se := av_scalar (dEntries c.log.es)
  have so := av_scalar (dInts c.conf.old)
  have sn := av_scalar (dInts c.conf.new)
  have sl := av_scalar (dInts c.conf.learners)
  have ss := av_scalar (dBytes c.snap)
  simp only [c_glebelaw13_without, Image.v_eq, Change.v_eq, Change.cells, go_sem, reduceIte, Nat.reduceEqDiff, Nat.reduceAdd, Nat.reduceLeDiff, Nat.reducePow, Nat.reduceDiv, Nat.reduceMod, decide_true, scalar_ahards, scalar_avotes, se, so, sn, sl, ss]
  generalize hC : ABlk.arr 17 [[AV.int IntKind.i64 c.kind, AV.int IntKind.i64 c.group, AV.int IntKind.i64 c.term, AV.int IntKind.i64 c.voted, AV.int IntKind.i64 c.from_, AV.int IntKind.i64 c.log.base,
    AV.int IntKind.i64 c.log.bterm, (dEntries c.log.es).av, (dInts c.conf.old).av, (dInts c.conf.new).av, (dInts c.conf.learners).av, (dBytes c.snap).av, AV.int IntKind.i64 c.vote.txn, AV.int IntKind.i64 c.vote.part, AV.int IntKind.i64 c.vote.promised, AV.int IntKind.i64 c.vote.ballot, AV.int IntKind.i64 c.vote.value]] false = CB
  have b0 := bx40 h (some (.arr 2 [[ahards x.hards, avotes x.votes]] false)) (some CB) (some (.arr 2 [[.nils, .nils]] false)) (some (.arr 2 [[.nils, .nils]] false))
  have b1 := bx41 h (some (.arr 2 [[ahards x.hards, avotes x.votes]] false)) (some CB) (some (.arr 2 [[.nils, .nils]] false)) (some (.arr 2 [[.nils, .nils]] false))
  have b2 := bx42 h (some (.arr 2 [[ahards x.hards, avotes x.votes]] false)) (some CB) (some (.arr 2 [[.nils, .nils]] false)) (some (.arr 2 [[.nils, .nils]] false))
  have b3 := bx43 h (some (.arr 2 [[ahards x.hards, avotes x.votes]] false)) (some CB) (some (.arr 2 [[.nils, .nils]] false)) (some (.arr 2 [[.nils, .nils]] false))
  have hX := Ext.b4 (h := h) (some (.arr 2 [[ahards x.hards, avotes x.votes]] false)) (some CB) (some (.arr 2 [[.nils, .nils]] false)) (some (.arr 2 [[.nils, .nils]] false))
  have hlen : (h ++ [some (ABlk.arr 2 [[ahards x.hards, avotes x.votes]] false)] ++ [some CB] ++ [some (ABlk.arr 2 [[AV.nils, AV.nils]] false)] ++ [some (ABlk.arr 2 [[AV.nils, AV.nils]] false)]).length = h.length + 4 := by simp
  generalize h ++ [some (ABlk.arr 2 [[ahards x.hards, avotes x.votes]] false)] ++ [some CB] ++ [some (ABlk.arr 2 [[AV.nils, AV.nils]] false)] ++ [some (ABlk.arr 2 [[AV.nils, AV.nils]] false)] = H0 at *
  subst hC
  obtain ⟨I, hI⟩ : ∃ I : Nat → Env → AHeap → Prop, ∀ m L h', I m L h' ↔ ∃ (i : Nat) (o : AV), lk 2 L = .ptr h.length 2 0 0 ∧ lk 3 L = .ptr (h.length + 1) 17 0 0 ∧ lk 4 L = .ptr (h.length + 1 + 1) 2 0 0 ∧ lk 5 L = .ptr (h.length + 1 + 1 + 1) 2 0 0 ∧ lk 6 L = .int .i64 i ∧
      h'[h.length]? = some (some (.arr 2 [[ahards x.hards, avotes x.votes]] false)) ∧ h'[h.length + 1]? = H0[h.length + 1]? ∧ h'[h.length + 1 + 1]? = some (some (.arr 2 [[.nils, .nils]] false)) ∧
      h'[h.length + 1 + 1 + 1]? = some (some (.arr 2 [[o, .nils]] false)) ∧ OwnO (h.length + 4) h' 10 o (D.avLL (((⟨x.hards.take i, x.votes⟩ : Image).without c).hards.map Hard.c)) ∧ Ext nof h h' ∧ h.length + 4 ≤ h'.length ∧ i ≤ x.hards.length ∧ m = x.hards.length - i := ⟨_, fun _ _ _ => Iff.rfl⟩
  refine vc_loop I x.hards.length ((hI _ _ _).2 ?_) ?_
  · exact ⟨0, .nils, by simp [lk_ins, lk_cons], by simp [lk_ins, lk_cons], by simp [lk_ins, lk_cons], by simp [lk_ins, lk_cons], by simp [lk_ins], b0, rfl, b2, b3, .inl ⟨rfl, by simp [Image.without, D.avLL]⟩, hX, by omega, by omega, by omega⟩
  · intro m L h2 hh
    obtain ⟨i, o, k2, k3, k4, k5, k6, B0, B1, B2, B3, hO, hE, hL, hi, rfl⟩ := (hI _ _ _).1 hh
    rw [b1] at B1
    simp only [c_glebelaw13_without_l0, go_sem, reduceIte, Nat.reduceEqDiff, Nat.reduceAdd, Nat.reduceLeDiff, Nat.reducePow, Nat.reduceDiv, Nat.reduceMod, decide_true, k2, k3, k4, k5, k6, B0, ld]
    refine wCond_split (fun ci => ?_) (fun ci => ?_)
    · simp at ci
      obtain ⟨p, hp1, hp2⟩ := index_av 10 Hard.c x.hards .i64 (i := i) (by omega)
      change aindex 10 (ahards x.hards) _ = some p at hp1
      change ∀ h, pcells h p = some x.hards[i].v at hp2
      have hv10 : x.hards[i].v.length = 10 := rfl
      have hvs : x.hards[i].v.all AV.scalar = true := Hard.v_sc _
      have tk : x.hards[i].v.take 10 = x.hards[i].v := List.take_of_length_le (by omega)
      have ld2 : ∀ h, aload h true 10 p = some (.agg x.hards[i].v) := fun h => by rw [aload_p (hp2 h), take_agg, hv10, if_pos (Nat.le_refl _), tk]
      have e1 : IntKind.i64.wrap (↑i + 1) = (i : Int) + 1 := wrap_i64 (by omega)
      have g1 : ∀ h, aload h false 1 (poff 0 p) = some (.int .i64 x.hards[i].group) := fun h => by rw [aload_off (hp2 h), Hard.v_eq]; rfl
      have nr : ∀ j o, j ≤ 3 → notRes h2.length 1 (.ptr (h.length + j) 2 0 o) = true := fun j o hj => by simp [notRes]; omega
      have nr0 : ∀ o, notRes h2.length 1 (.ptr h.length 2 0 o) = true := fun o => nr 0 o (by omega)
      have nr1 : ∀ o, notRes h2.length 1 (.ptr (h.length + 1 + 1 + 1) 2 0 o) = true := fun o => nr 3 o (by omega)
      have nr3 : notRes h2.length 1 p = true := notRes_of0 (hp2 h2) 1
      have C0 : ∀ z, (h2 ++ [z])[h.length]? = _ := fun z => (Ext.b1 z).get B0
      have C1 : ∀ z, (h2 ++ [z])[h.length + 1]? = _ := fun z => (Ext.b1 z).get B1
      have C2 : ∀ z, (h2 ++ [z])[h.length + 1 + 1]? = _ := fun z => (Ext.b1 z).get B2
      have C3 : ∀ z, (h2 ++ [z])[h.length + 1 + 1 + 1]? = _ := fun z => (Ext.b1 z).get B3
      obtain ⟨o2, h3, s1, s2, s3⟩ := acc_app (bytes := 160) (h := h2 ++ [some (.arr 10 [x.hards[i].v] false)]) (ys := [x.hards[i].v]) hO (Ext.b1 _) (by omega) (by
        have : (((⟨x.hards.take i, x.votes⟩ : Image).without c).hards).length ≤ x.hards.length := by
          simp only [Image.without]; split
          · simp; omega
          · exact Nat.le_trans (List.length_filter_le _ _) (by simp; omega)
        simp [avLL_length]; omega)
      have s1' := s1
      rw [← aappend_of (aelems_new h2 10 [x.hards[i].v] false (some 1) (len := 1) rfl)] at s1'
      have hl3 := s3.1
      simp only [len_app1] at hl3
      have D0 : h3[h.length]? = _ := (s3.2 _ (by simp; omega) (by omega)).trans (C0 _)
      have D1 : h3[h.length + 1]? = _ := (s3.2 _ (by simp; omega) (by omega)).trans (C1 _)
      have D2 : h3[h.length + 1 + 1]? = _ := (s3.2 _ (by simp; omega) (by omega)).trans (C2 _)
      have D3 : h3[h.length + 1 + 1 + 1]? = _ := (s3.2 _ (by simp; omega) (by omega)).trans (C3 _)
      have wt : ((⟨x.hards.take (i + 1), x.votes⟩ : Image).without c).hards = ((⟨x.hards.take i, x.votes⟩ : Image).without c).hards ++ (if c.kind = 4 ∨ x.hards[i].group ≠ c.group then [x.hards[i]] else []) := by
        simp only [Image.without]
        rw [List.take_succ_eq_append_getElem ci]
        by_cases k4 : c.kind = 4
        · simp [k4]
        · simp only [k4, if_false, false_or, List.filter_append]
          congr 1
          by_cases gg : x.hards[i].group = c.group
          · simp [gg]
          · simp [gg]
      by_cases T : c.kind = 4 ∨ x.hards[i].group ≠ c.group
      · rw [if_pos T] at wt
        have tk2 : D.avLL (((⟨x.hards.take (i + 1), x.votes⟩ : Image).without c).hards.map Hard.c) = D.avLL (((⟨x.hards.take i, x.votes⟩ : Image).without c).hards.map Hard.c) ++ [x.hards[i].v] := by
          rw [wt, avLL_map, avLL_map]; simp only [List.map_append, List.map_cons, List.map_nil]; rfl
        have fin : ∀ (L : Env) (H : AHeap), H = h3.set (h.length + 1 + 1 + 1) (some (.arr 2 [[o2, .nils]] false)) → lk 2 L = .ptr h.length 2 0 0 ∧ lk 3 L = .ptr (h.length + 1) 17 0 0 ∧ lk 4 L = .ptr (h.length + 1 + 1) 2 0 0 ∧ lk 5 L = .ptr (h.length + 1 + 1 + 1) 2 0 0 ∧ lk 6 L = .int .i64 ((i : Int) + 1) →
            ∃ m', m' < x.hards.length - i ∧ I m' L H := by
          rintro L H rfl ⟨q2, q3, q4, q5, q6⟩
          refine ⟨_, by omega, (hI _ _ _).2 ⟨i + 1, o2, q2, q3, q4, q5, q6, ?_, ?_, ?_, ?_, by rw [tk2]; exact s2.setq (by omega) _, ((hE.tr (Ext.b1 _)).then s3 (fun m hm hm' => by omega)).setNew (by omega) _, ?_, ci, rfl⟩⟩
          · rw [List.getElem?_set_ne (by omega)]; exact D0
          · rw [List.getElem?_set_ne (by omega), b1]; exact D1
          · rw [List.getElem?_set_ne (by omega)]; exact D2
          · rw [List.getElem?_set_self (by omega)]
          · rw [List.length_set]; omega
        by_cases k4' : c.kind = 4
        · simp only [go_sem, reduceIte, Nat.reduceEqDiff, Nat.reduceAdd, Nat.reduceLeDiff, Nat.reducePow, Nat.reduceDiv, Nat.reduceMod, decide_true, k2, k3, k4, k5, k6, B0, B1, B3, decide_eq_true k4', hp1, ld2, nr0, nr1, nr3, C0, C3, hv10, hvs, s1', D3, s2.scalar, cells_of s2.scalar, e1]
          refine fin _ _ rfl ?_; simp [lk_ins, k2, k3, k4, k5]
        · have T2 : ¬ x.hards[i].group = c.group := T.resolve_left k4'
          simp only [go_sem, reduceIte, Nat.reduceEqDiff, Nat.reduceAdd, Nat.reduceLeDiff, Nat.reducePow, Nat.reduceDiv, Nat.reduceMod, decide_true, k2, k3, k4, k5, k6, B0, B1, B3, decide_eq_false k4', decide_eq_false T2, hp1, afield_p (hp2 h2), g1, ld2, nr0, nr1, nr3, C0, C3, hv10, hvs, s1', D3, s2.scalar, cells_of s2.scalar, e1]
          refine fin _ _ rfl ?_; simp [lk_ins, k2, k3, k4, k5]
      · rw [if_neg T, List.append_nil] at wt
        have k4' : ¬ c.kind = 4 := fun e => T (.inl e)
        have T2 : x.hards[i].group = c.group := Classical.byContradiction fun e => T (.inr e)
        simp only [go_sem, reduceIte, Nat.reduceEqDiff, Nat.reduceAdd, Nat.reduceLeDiff, Nat.reducePow, Nat.reduceDiv, Nat.reduceMod, decide_true, k2, k3, k4, k5, k6, B0, B1, decide_eq_false k4', decide_eq_true T2, hp1, afield_p (hp2 h2), g1, e1]
        exact ⟨_, by omega, (hI _ _ _).2 ⟨i + 1, o, by simp [lk_ins, k2], by simp [lk_ins, k3], by simp [lk_ins, k4], by simp [lk_ins, k5], by simp [lk_ins], B0, B1.trans b1.symm, B2, B3, by rw [wt]; exact hO, hE, hL, ci, rfl⟩⟩
    · simp at ci
      obtain rfl : i = x.hards.length := by omega
      rw [List.take_length] at hO
      have hO : OwnO (h.length + 4) h2 10 o (D.avLL ((x.without c).hards.map Hard.c)) := hO
      simp only [go_sem, reduceIte, Nat.reduceEqDiff, Nat.reduceAdd, Nat.reduceLeDiff, Nat.reducePow, Nat.reduceDiv, Nat.reduceMod, decide_true, k2, k3, k4, k5]
      obtain ⟨I, hI⟩ : ∃ I : Nat → Env → AHeap → Prop, ∀ m L h', I m L h' ↔ ∃ (i : Nat) (w : AV), lk 2 L = .ptr h.length 2 0 0 ∧ lk 3 L = .ptr (h.length + 1) 17 0 0 ∧ lk 4 L = .ptr (h.length + 1 + 1) 2 0 0 ∧ lk 5 L = .ptr (h.length + 1 + 1 + 1) 2 0 0 ∧ lk 7 L = .int .i64 i ∧
          h'[h.length]? = some (some (.arr 2 [[ahards x.hards, avotes x.votes]] false)) ∧ h'[h.length + 1]? = H0[h.length + 1]? ∧ h'[h.length + 1 + 1]? = some (some (.arr 2 [[.nils, .nils]] false)) ∧
          h'[h.length + 1 + 1 + 1]? = some (some (.arr 2 [[o, w]] false)) ∧ (∀ m, m < h2.length → m ≠ h.length + 1 + 1 + 1 → h'[m]? = h2[m]?) ∧ OwnO h2.length h' 5 w (D.avLL (((⟨x.hards, x.votes.take i⟩ : Image).without c).votes.map Vote.c)) ∧ h2.length ≤ h'.length ∧ i ≤ x.votes.length ∧ m = x.votes.length - i := ⟨_, fun _ _ _ => Iff.rfl⟩
      refine vc_loop I x.votes.length ((hI _ _ _).2 ⟨0, .nils, by simp [lk_ins, k2], by simp [lk_ins, k3], by simp [lk_ins, k4], by simp [lk_ins, k5], by simp [lk_ins], B0, B1.trans b1.symm, B2, B3, fun _ _ _ => rfl, .inl ⟨rfl, by simp [Image.without, D.avLL]⟩, by omega, by omega, by omega⟩) ?_
      intro m L h3 hh
      obtain ⟨i, w, k2, k3, k4, k5, k7, B0, B1, B2, B3, hE3, hW, hL3, hi, rfl⟩ := (hI _ _ _).1 hh
      rw [b1] at B1
      simp only [c_glebelaw13_without_l1, go_sem, reduceIte, Nat.reduceEqDiff, Nat.reduceAdd, Nat.reduceLeDiff, Nat.reducePow, Nat.reduceDiv, Nat.reduceMod, decide_true, k2, k3, k4, k5, k7, B0, lv]
      refine wCond_split (fun ci => ?_) (fun ci => ?_)
      · simp at ci
        obtain ⟨p, hp1, hp2⟩ := index_av 5 Vote.c x.votes .i64 (i := i) (by omega)
        change aindex 5 (avotes x.votes) _ = some p at hp1
        change ∀ h, pcells h p = some x.votes[i].v at hp2
        have hv10 : x.votes[i].v.length = 5 := rfl
        have hvs : x.votes[i].v.all AV.scalar = true := avL_scalars _
        have tk : x.votes[i].v.take 5 = x.votes[i].v := List.take_of_length_le (by omega)
        have ld2 : ∀ h, aload h true 5 p = some (.agg x.votes[i].v) := fun h => by rw [aload_p (hp2 h), take_agg, hv10, if_pos (Nat.le_refl _), tk]
        have e1 : IntKind.i64.wrap (↑i + 1) = (i : Int) + 1 := wrap_i64 (by omega)
        have g1 : ∀ h, aload h false 1 (poff 0 p) = some (.int .i64 x.votes[i].txn) := fun h => by rw [aload_off (hp2 h), Vote.v_eq]; rfl
        have g2 : ∀ h, aload h false 1 (poff 1 p) = some (.int .i64 x.votes[i].part) := fun h => by rw [aload_off (hp2 h), Vote.v_eq]; rfl
        have nr : ∀ j o, j ≤ 3 → notRes h3.length 1 (.ptr (h.length + j) 2 0 o) = true := fun j o hj => by simp [notRes]; omega
        have nr0 : ∀ o, notRes h3.length 1 (.ptr h.length 2 0 o) = true := fun o => nr 0 o (by omega)
        have nr1 : ∀ o, notRes h3.length 1 (.ptr (h.length + 1 + 1 + 1) 2 0 o) = true := fun o => nr 3 o (by omega)
        have nr3 : notRes h3.length 1 p = true := notRes_of0 (hp2 h3) 1
        have C0 : ∀ z, (h3 ++ [z])[h.length]? = _ := fun z => (Ext.b1 z).get B0
        have C1 : ∀ z, (h3 ++ [z])[h.length + 1]? = _ := fun z => (Ext.b1 z).get B1
        have C2 : ∀ z, (h3 ++ [z])[h.length + 1 + 1]? = _ := fun z => (Ext.b1 z).get B2
        have C3 : ∀ z, (h3 ++ [z])[h.length + 1 + 1 + 1]? = _ := fun z => (Ext.b1 z).get B3
        obtain ⟨w2, h4, s1, s2, s3⟩ := acc_app (bytes := 40) (h := h3 ++ [some (.arr 5 [x.votes[i].v] false)]) (ys := [x.votes[i].v]) hW (Ext.b1 _) (by omega) (by
          have : (((⟨x.hards, x.votes.take i⟩ : Image).without c).votes).length ≤ x.votes.length := by
            simp only [Image.without]; split
            · exact Nat.le_trans (List.length_filter_le _ _) (by simp; omega)
            · simp; omega
          simp [avLL_length]; omega)
        have s1' := s1
        rw [← aappend_of (aelems_new h3 5 [x.votes[i].v] false (some 1) (len := 1) rfl)] at s1'
        have hl3 := s3.1
        simp only [len_app1] at hl3
        have D0 : h4[h.length]? = _ := (s3.2 _ (by simp; omega) (by omega)).trans (C0 _)
        have D1 : h4[h.length + 1]? = _ := (s3.2 _ (by simp; omega) (by omega)).trans (C1 _)
        have D2 : h4[h.length + 1 + 1]? = _ := (s3.2 _ (by simp; omega) (by omega)).trans (C2 _)
        have D3 : h4[h.length + 1 + 1 + 1]? = _ := (s3.2 _ (by simp; omega) (by omega)).trans (C3 _)
        have wt : ((⟨x.hards, x.votes.take (i + 1)⟩ : Image).without c).votes = ((⟨x.hards, x.votes.take i⟩ : Image).without c).votes ++ (if c.kind ≠ 4 ∨ x.votes[i].txn ≠ c.vote.txn ∨ x.votes[i].part ≠ c.vote.part then [x.votes[i]] else []) := by
          simp only [Image.without]
          rw [List.take_succ_eq_append_getElem ci]
          by_cases k4 : c.kind = 4
          · simp only [k4, if_true, List.filter_append]
            congr 1
            by_cases g1 : x.votes[i].txn = c.vote.txn <;> by_cases g2 : x.votes[i].part = c.vote.part <;> simp [g1, g2]
          · simp [k4]
        by_cases T : c.kind ≠ 4 ∨ x.votes[i].txn ≠ c.vote.txn ∨ x.votes[i].part ≠ c.vote.part
        · rw [if_pos T] at wt
          have tk2 : D.avLL (((⟨x.hards, x.votes.take (i + 1)⟩ : Image).without c).votes.map Vote.c) = D.avLL (((⟨x.hards, x.votes.take i⟩ : Image).without c).votes.map Vote.c) ++ [x.votes[i].v] := by
            rw [wt, avLL_map, avLL_map]; simp only [List.map_append, List.map_cons, List.map_nil]; rfl
          have fin : ∀ (L : Env) (H : AHeap), H = h4.set (h.length + 1 + 1 + 1) (some (.arr 2 [[o, w2]] false)) → lk 2 L = .ptr h.length 2 0 0 ∧ lk 3 L = .ptr (h.length + 1) 17 0 0 ∧ lk 4 L = .ptr (h.length + 1 + 1) 2 0 0 ∧ lk 5 L = .ptr (h.length + 1 + 1 + 1) 2 0 0 ∧ lk 7 L = .int .i64 ((i : Int) + 1) →
              ∃ m', m' < x.votes.length - i ∧ I m' L H := by
            rintro L H rfl ⟨q2, q3, q4, q5, q6⟩
            refine ⟨_, by omega, (hI _ _ _).2 ⟨i + 1, w2, q2, q3, q4, q5, q6, ?_, ?_, ?_, ?_, fun m hm hm' => ?_, by rw [tk2]; exact s2.setq (by omega) _, ?_, ci, rfl⟩⟩
            · rw [List.getElem?_set_ne (by omega)]; exact D0
            · rw [List.getElem?_set_ne (by omega), b1]; exact D1
            · rw [List.getElem?_set_ne (by omega)]; exact D2
            · rw [List.getElem?_set_self (by omega)]
            · rw [List.getElem?_set_ne (by omega), s3.2 m (by simp; omega) (by omega), List.getElem?_append_left (by omega)]; exact hE3 m hm hm'
            · rw [List.length_set]; omega
          by_cases k4' : c.kind = 4
          · have T2 := T.resolve_left (fun e => e k4')
            by_cases t1 : x.votes[i].txn = c.vote.txn
            · have T3 : ¬ x.votes[i].part = c.vote.part := T2.resolve_left (fun e => e t1)
              simp only [go_sem, reduceIte, Nat.reduceEqDiff, Nat.reduceAdd, Nat.reduceLeDiff, Nat.reducePow, Nat.reduceDiv, Nat.reduceMod, decide_true, k2, k3, k4, k5, k7, B0, B1, B3, decide_eq_true k4', decide_eq_true t1, decide_eq_false T3, hp1, afield_p (hp2 h3), g1, g2, ld2, nr0, nr1, nr3, C0, C3, hv10, hvs, s1', D3, s2.scalar, cells_of s2.scalar, e1]
              refine fin _ _ rfl ?_; simp [lk_ins, k2, k3, k4, k5]
            · simp only [go_sem, reduceIte, Nat.reduceEqDiff, Nat.reduceAdd, Nat.reduceLeDiff, Nat.reducePow, Nat.reduceDiv, Nat.reduceMod, decide_true, k2, k3, k4, k5, k7, B0, B1, B3, decide_eq_true k4', decide_eq_false t1, hp1, afield_p (hp2 h3), g1, ld2, nr0, nr1, nr3, C0, C3, hv10, hvs, s1', D3, s2.scalar, cells_of s2.scalar, e1]
              refine fin _ _ rfl ?_; simp [lk_ins, k2, k3, k4, k5]
          · simp only [go_sem, reduceIte, Nat.reduceEqDiff, Nat.reduceAdd, Nat.reduceLeDiff, Nat.reducePow, Nat.reduceDiv, Nat.reduceMod, decide_true, k2, k3, k4, k5, k7, B0, B1, B3, decide_eq_false k4', hp1, ld2, nr0, nr1, nr3, C0, C3, hv10, hvs, s1', D3, s2.scalar, cells_of s2.scalar, e1]
            refine fin _ _ rfl ?_; simp [lk_ins, k2, k3, k4, k5]
        · rw [if_neg T, List.append_nil] at wt
          have k4' : c.kind = 4 := Classical.byContradiction fun e => T (.inl e)
          have t1 : x.votes[i].txn = c.vote.txn := Classical.byContradiction fun e => T (.inr (.inl e))
          have t2 : x.votes[i].part = c.vote.part := Classical.byContradiction fun e => T (.inr (.inr e))
          simp only [go_sem, reduceIte, Nat.reduceEqDiff, Nat.reduceAdd, Nat.reduceLeDiff, Nat.reducePow, Nat.reduceDiv, Nat.reduceMod, decide_true, k2, k3, k4, k5, k7, B0, B1, decide_eq_true k4', decide_eq_true t1, decide_eq_true t2, hp1, afield_p (hp2 h3), g1, g2, e1]
          exact ⟨_, by omega, (hI _ _ _).2 ⟨i + 1, w, by simp [lk_ins, k2], by simp [lk_ins, k3], by simp [lk_ins, k4], by simp [lk_ins, k5], by simp [lk_ins], B0, B1.trans b1.symm, B2, B3, hE3, by rw [wt]; exact hW, hL3, ci, rfl⟩⟩
      · simp at ci
        obtain rfl : i = x.votes.length := by omega
        rw [List.take_length] at hW
        have hW : OwnO h2.length h3 5 w (D.avLL ((x.without c).votes.map Vote.c)) := hW
        simp only [go_sem, reduceIte, Nat.reduceEqDiff, Nat.reduceAdd, Nat.reduceLeDiff, Nat.reducePow, Nat.reduceDiv, Nat.reduceMod, decide_true, k2, k3, k4, k5, B2, B3, hO.scalar, hW.scalar, show h.length + 1 + 1 < h3.length by omega]
        refine ⟨o, w, rfl, ((hO.kp (fun m hm hm' => hE3 m hm' (by omega))).setq (by omega) _).lo (by omega), (hW.setq (by omega) _).lo (by omega), ?_⟩
        exact ⟨by rw [List.length_set]; omega, fun m hm _ => by rw [List.getElem?_set_ne (by omega), hE3 m (by omega) (by omega)]; exact hE.2 m hm (fun x => x)⟩

end Glb
