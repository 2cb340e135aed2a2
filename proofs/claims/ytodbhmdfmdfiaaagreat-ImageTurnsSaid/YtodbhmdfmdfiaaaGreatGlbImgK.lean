/-
  A library of its own: its parts, one behind the other.
-/
import Derived.Test.YtodbhmdfmdfiaaaGreatGlbImgA
import Derived.Test.YtodbhmdfmdfiaaaGreatGlbKitB
import Derived.Test.YtodbhmdfmdfiaaaGreatGlbCkit2
import Derived.Test.YtodbhmdfmdfiaaaGreatGlbConB
import Derived.Test.YtodbhmdfmdfiaaaGreatGlbCglebelaw13
set_option linter.unusedSimpArgs false
set_option linter.unusedVariables false
/-
  Images copied, held against one another.
-/
namespace Glb
open Go
set_option maxRecDepth 10000
set_option maxHeartbeats 8000000

def Vote.v (x : Vote) : List AV := D.avL x.c
def Change.v (x : Change) : List AV := D.avL x.c
def Image.v (x : Image) : List AV := D.avL x.c
def avotes (l : List Vote) : AV := (dVotes l).av
def ahards (l : List Hard) : AV := (dHards l).av
def achanges (l : List Change) : AV := (dChanges l).av
theorem Vote.v_eq (x : Vote) : x.v = [.int .i64 x.txn, .int .i64 x.part, .int .i64 x.promised, .int .i64 x.ballot, .int .i64 x.value] := by simp only [Vote.v, Vote.c, D.avL, D.av]
theorem Image.v_eq (x : Image) : x.v = [ahards x.hards, avotes x.votes] := by simp only [Image.v, Image.c, D.avL]; rfl
theorem scalar_avotes (l : List Vote) : (avotes l).scalar = true := av_scalar _
theorem scalar_ahards (l : List Hard) : (ahards l).scalar = true := av_scalar _
theorem scalar_achanges (l : List Change) : (achanges l).scalar = true := av_scalar _
theorem cells_avotes (l : List Vote) : (avotes l).cells? = some [avotes l] := cells_of (av_scalar _)
theorem cells_ahards (l : List Hard) : (ahards l).cells? = some [ahards l] := cells_of (av_scalar _)
theorem cells_achanges (l : List Change) : (achanges l).cells? = some [achanges l] := cells_of (av_scalar _)
attribute [go_sem] scalar_avotes scalar_ahards scalar_achanges cells_avotes cells_ahards cells_achanges

theorem rd_achanges (F : Nat → Prop) (h : AHeap) (l : List Change) : Rd F h (dChanges l) (achanges l) := rd_av _ _ _
theorem rd_imagev (F : Nat → Prop) (h : AHeap) (x : Image) : RdL F h x.c x.v := rdL_av _ _ _
theorem rd_changev (F : Nat → Prop) (h : AHeap) (x : Change) : RdL F h x.c x.v := rdL_av _ _ _
def VotesP (P : Program) (f : FuncId) : Prop := isFn P f = true ∧ ∀ (F : Nat → Prop) (h : AHeap) (l : List Vote) (a : AV), Rd F h (dVotes l) a → l.length ≤ 2^40 → ACalls P f [a] h fun r h' => r = avotes l ∧ h' = h

theorem CopyVotes_ok {P : Program} {f : FuncId} (hf : Is P f c_glebekit_CopyVotes) : VotesP P f := by
  refine ⟨hf.2, fun F h l a ha hl => ACalls.freeze (K := fun r h' => OwnO h.length h' 5 r (D.avLL (l.map Vote.c)) ∧ Ext nof h h') (fun_sound hf.1 (Nat.le_of_ble_eq_true rfl) ?_) (fun _ _ hk => ⟨hk.2, _, Frz.d (OwnO.fz hk.1 (Nat.le_refl _)), rfl⟩)⟩
  show vc P c_glebekit_CopyVotes.code ⟨[(0, a)], [], h⟩ (atEnd c_glebekit_CopyVotes.res _)
  have la : alen a = some (.int .i64 l.length) := by simpa using ha.len
  simp only [c_glebekit_CopyVotes, go_sem, reduceIte, Nat.reduceEqDiff, Nat.reduceAdd, Nat.reduceLeDiff, Nat.reducePow, Nat.reduceDiv, Nat.reduceMod, decide_true]
  refine vc_loop (fun m L h' => ∃ (i : Nat) (o : AV), lk 0 L = a ∧ lk 3 L = o ∧ lk 4 L = .int .i64 i ∧ OwnO h.length h' 5 o (D.avLL ((l.take i).map Vote.c)) ∧ Ext nof h h' ∧ i ≤ l.length ∧ m = l.length - i) l.length ?_ ?_
  · exact ⟨0, .nils, by simp [lk_ins, lk_cons], by simp [lk_ins, lk_cons], by simp [lk_ins], .inl ⟨rfl, by simp [D.avLL]⟩, Ext.refl _ _, by omega, by omega⟩
  · rintro m L h2 ⟨i, o, k0, k3, k4, hO, hE, hi, rfl⟩
    simp only [c_glebekit_CopyVotes_l0, go_sem, reduceIte, Nat.reduceEqDiff, Nat.reduceAdd, Nat.reduceLeDiff, Nat.reducePow, Nat.reduceDiv, Nat.reduceMod, decide_true, k0, k3, k4, la]
    refine wCond_split (fun ci => ?_) (fun ci => ?_)
    · simp at ci
      obtain ⟨p, cs, hp1, hp2, hcs⟩ := (ha.up hE).index .i64 (i := i) (d := l[i].c) (by omega) (by simp [ci])
      obtain rfl := rd_vote hcs
      have ld2 := aload_p hp2 true 5
      rw [take_agg, if_pos (by simp), List.take_of_length_le (by simp)] at ld2
      have e1 : IntKind.i64.wrap (↑i + 1) = (i : Int) + 1 := wrap_i64 (by omega)
      have tk : D.avLL ((l.take (i + 1)).map Vote.c) = D.avLL ((l.take i).map Vote.c) ++ [l[i].v] := by
        rw [List.take_succ_eq_append_getElem ci, avLL_map, avLL_map]; simp only [List.map_append, List.map_cons, List.map_nil]; rfl
      obtain ⟨o2, h3, s1, s2, s3⟩ := acc_app (bytes := 40) (h := h2 ++ [some (.arr 5 [l[i].v] false)]) (ys := [l[i].v]) hO (Ext.b1 _) hE.1 (by simp [avLL_length]; omega)
      have s1' := s1
      rw [← aappend_of (aelems_new h2 5 [l[i].v] false (some 1) (len := 1) rfl), Vote.v_eq] at s1'
      simp only [go_sem, reduceIte, Nat.reduceEqDiff, Nat.reduceAdd, Nat.reduceLeDiff, Nat.reducePow, Nat.reduceDiv, Nat.reduceMod, decide_true, k0, k3, k4, hp1, ld2, s1', e1]
      exact ⟨_, by omega, i + 1, o2, rfl, by simp, by rw [tk]; exact s2, (hE.tr (Ext.b1 _)).then s3 (fun m hm hm' => by omega), ci, rfl⟩
    · simp at ci
      obtain rfl : i = l.length := by omega
      rw [List.take_length] at hO
      simp only [go_sem, reduceIte, Nat.reduceEqDiff, Nat.reduceAdd, Nat.reduceLeDiff, Nat.reducePow, Nat.reduceDiv, Nat.reduceMod, decide_true, k3]
      exact ⟨hO, hE⟩

theorem OwnO.scalar {lo : Nat} {h : AHeap} {sz : Nat} {a : AV} {es : List (List AV)} (ho : OwnO lo h sz a es) : a.scalar = true := by
  rcases ho with ⟨rfl, _⟩ | ⟨n, off, cap, row, g, rfl, _⟩ <;> rfl
theorem OwnO.setq {lo : Nat} {h : AHeap} {sz : Nat} {a : AV} {es : List (List AV)} (ho : OwnO lo h sz a es) {q : Nat} (hq : q < lo) (x : Option ABlk) : OwnO lo (h.set q x) sz a es := by
  rcases ho with ⟨rfl, h1⟩ | ⟨n, off, cap, row, g, rfl, h1, h2, h3⟩
  · exact .inl ⟨rfl, h1⟩
  · exact .inr ⟨n, off, cap, row, g, rfl, h1, by rw [List.getElem?_set_ne (by omega)]; exact h2, h3⟩

def Image.few (x : Image) : Prop := x.hards.length ≤ 2^30 ∧ x.votes.length ≤ 2^30 ∧ ∀ y ∈ x.hards, y.few
def CopyHardG (P : Program) (f : FuncId) : Prop := isFn P f = true ∧ ∀ (F : Nat → Prop) (h : AHeap) (x : Hard) (a : List AV), RdL F h x.c a → x.few → ACalls P f [.agg a] h fun r h' => r = .agg x.v ∧ h' = h
def CopyImageP (P : Program) (f : FuncId) : Prop := isFn P f = true ∧ ∀ (F : Nat → Prop) (h : AHeap) (x : Image) (a : List AV), RdL F h x.c a → x.few → ACalls P f [.agg a] h fun r h' => r = .agg x.v ∧ h' = h

theorem CopyOk.gb {P : Program} {f : FuncId} (hc : CopyOk P f .u8) {F : Nat → Prop} {h : AHeap} {l : List Int} {a : AV} (ha : Rd F h (dBytes l) a) (hl : l.length ≤ 2^40) : ACalls P f [a] h fun r h' => r = abytes l ∧ h' = h :=
  (hc.2 F h l a ha hl).freeze fun _ _ hk => ⟨hk.2.2, _, Frz.d (Own.fz (dBytes l) (fun _ x => x) _ hk.1), rfl⟩
theorem CopyLogOk.g {P : Program} {f : FuncId} (hc : CopyLogOk P f) {F : Nat → Prop} {h : AHeap} {x : Log} {a : List AV} (ha : RdL F h x.c a) (hl : SmallEntries x.es) : ACalls P f [.agg a] h fun r h' => r = .agg x.v ∧ h' = h :=
  (hc.2 F h x a ha hl).freeze fun _ _ ⟨_, e, ho, hx⟩ => ⟨hx, _, e ▸ Frz.aggD (OwnL.fz x.c (fun _ x => x) _ ho), rfl⟩

theorem CopyHard_g {P : Program} {f g k b : FuncId} (hf : Is P f (c_glebekit_CopyHard g k b)) (hg : CopyLogOk P g) (hk : CopyConfOk P k) (hb : CopyOk P b .u8) : CopyHardG P f := by
  refine ⟨hf.2, fun F h x a ha hx => obs (upto_aggD _ _) (fun_sound hf.1 (Nat.le_of_ble_eq_true rfl) ?_)⟩
  show vc P (c_glebekit_CopyHard g k b).code ⟨[(0, .agg a)], [], h⟩ (atEnd (c_glebekit_CopyHard g k b).res _)
  obtain ⟨e, o, n, d, s, rfl, he, ho, hn, hd, hs⟩ := rd_hard ha
  simp only [c_glebekit_CopyHard, Hard.cells, go_sem, reduceIte, Nat.reduceEqDiff, Nat.reduceAdd, Nat.reduceLeDiff, Nat.reducePow, Nat.reduceDiv, Nat.reduceMod, decide_true, he.scalar, ho.scalar, hn.scalar, hd.scalar, hs.scalar]
  have e1 := hg.g ((log_rd he).up (Ext.b2 (some (.arr 10 [x.cells e o n d s] false)) (some (.arr 10 [[.int .i64 0, .int .i64 0, .int .i64 0, .int .i64 0, .int .i64 0, .nils, .nils, .nils, .nils, .nils]] false)))) hx.1
  simp only [Log.v_eq, Hard.cells] at e1
  refine use1 hg.1 e1 ?_
  simp only [go_sem, reduceIte, Nat.reduceEqDiff, Nat.reduceAdd, Nat.reduceLeDiff, Nat.reducePow, Nat.reduceDiv, Nat.reduceMod, decide_true]
  have e2 := fun H (e : Ext nof h H) => hk.g ((conf_rd ho hn hd).up e) hx.2.1
  simp only [Conf.v_eq] at e2
  refine use1 hk.1 (e2 _ (Ext.b2 _ _)) ?_
  simp only [go_sem, reduceIte, Nat.reduceEqDiff, Nat.reduceAdd, Nat.reduceLeDiff, Nat.reducePow, Nat.reduceDiv, Nat.reduceMod, decide_true]
  refine use1 hb.1 (hb.gb (hs.up (Ext.b2 _ _)) hx.2.2) ?_
  simp only [go_sem, reduceIte, Nat.reduceEqDiff, Nat.reduceAdd, Nat.reduceLeDiff, Nat.reducePow, Nat.reduceDiv, Nat.reduceMod, decide_true, Hard.v_eq]
  exact Ext.b2 _ _

def CopyImageO (P : Program) (f : FuncId) : Prop := isFn P f = true ∧ ∀ (F : Nat → Prop) (h : AHeap) (x : Image) (a : List AV), RdL F h x.c a → x.few → ACalls P f [.agg a] h fun r h' => ∃ o, r = .agg [o, avotes x.votes] ∧ OwnO (h.length + 3) h' 10 o (D.avLL (x.hards.map Hard.c)) ∧ Ext nof h h'
theorem CopyImageO.p {P : Program} {f : FuncId} (hc : CopyImageO P f) : CopyImageP P f := by
  refine ⟨hc.1, fun F h x a ha hx => ACalls.freeze (hc.2 F h x a ha hx) ?_⟩
  rintro r h' ⟨o, rfl, ho, hx⟩
  refine ⟨hx, _, Frz.aggD (ds := x.c) ?_, rfl⟩
  simp only [Image.c, FzL]
  exact ⟨_, _, rfl, OwnO.fz ho (by omega), _, _, rfl, fz_self _ _ _, rfl⟩
theorem CopyImage_o {P : Program} {f g k : FuncId} (hf : Is P f (c_glebekit_CopyImage g k)) (hg : VotesP P g) (hk : CopyHardG P k) : CopyImageO P f := by
  refine ⟨hf.2, fun F h x a ha hx => fun_sound hf.1 (Nat.le_of_ble_eq_true rfl) ?_⟩
  show vc P (c_glebekit_CopyImage g k).code ⟨[(0, .agg a)], [], h⟩ (atEnd (c_glebekit_CopyImage g k).res _)
  obtain ⟨d, v, rfl, hd, hv⟩ := rd_image ha
  have ld : alen d = some (.int .i64 x.hards.length) := by simpa using hd.len
  have hxl := hx.1
  simp only [c_glebekit_CopyImage, go_sem, reduceIte, Nat.reduceEqDiff, Nat.reduceAdd, Nat.reduceLeDiff, Nat.reducePow, Nat.reduceDiv, Nat.reduceMod, decide_true, hd.scalar, hv.scalar]
  refine use1 hg.1 (hg.2 F _ x.votes v (hv.up (Ext.b2 _ _)) (by have := hx.2.1; omega)) ?_
  simp only [go_sem, reduceIte, Nat.reduceEqDiff, Nat.reduceAdd, Nat.reduceLeDiff, Nat.reducePow, Nat.reduceDiv, Nat.reduceMod, decide_true]
  have b0 := bx30 h (some (ABlk.arr 2 [[d, v]] false)) (some (.arr 2 [[.nils, .nils]] false)) (some (.arr 2 [[.nils, avotes x.votes]] false))
  have b1 := bx31 h (some (ABlk.arr 2 [[d, v]] false)) (some (.arr 2 [[.nils, .nils]] false)) (some (.arr 2 [[.nils, avotes x.votes]] false))
  have b2 := bx32 h (some (ABlk.arr 2 [[d, v]] false)) (some (.arr 2 [[.nils, .nils]] false)) (some (.arr 2 [[.nils, avotes x.votes]] false))
  have hX := Ext.b3 (h := h) (some (ABlk.arr 2 [[d, v]] false)) (some (.arr 2 [[.nils, .nils]] false)) (some (.arr 2 [[.nils, avotes x.votes]] false))
  have hlen : (h ++ [some (ABlk.arr 2 [[d, v]] false)] ++ [some (ABlk.arr 2 [[AV.nils, AV.nils]] false)] ++ [some (ABlk.arr 2 [[AV.nils, avotes x.votes]] false)]).length = h.length + 3 := by simp
  generalize h ++ [some (ABlk.arr 2 [[d, v]] false)] ++ [some (ABlk.arr 2 [[AV.nils, AV.nils]] false)] ++ [some (ABlk.arr 2 [[AV.nils, avotes x.votes]] false)] = H0 at *
  refine vc_loop (fun m L h' => ∃ (i : Nat) (o : AV), lk 1 L = .ptr h.length 2 0 0 ∧ lk 2 L = .ptr (h.length + 1) 2 0 0 ∧ lk 3 L = .ptr (h.length + 1 + 1) 2 0 0 ∧ lk 4 L = .int .i64 i ∧ h'[h.length]? = some (some (.arr 2 [[d, v]] false)) ∧ h'[h.length + 1]? = some (some (.arr 2 [[.nils, .nils]] false)) ∧
      h'[h.length + 1 + 1]? = some (some (.arr 2 [[o, avotes x.votes]] false)) ∧ OwnO (h.length + 3) h' 10 o (D.avLL ((x.hards.take i).map Hard.c)) ∧ Ext nof h h' ∧ h.length + 3 ≤ h'.length ∧ i ≤ x.hards.length ∧ m = x.hards.length - i) x.hards.length ?_ ?_
  · exact ⟨0, .nils, by simp [lk_ins, lk_cons], by simp [lk_ins, lk_cons], by simp [lk_ins, lk_cons], by simp [lk_ins], b0, b1, b2, .inl ⟨rfl, by simp [D.avLL]⟩, hX, by omega, by omega, by omega⟩
  · rintro m L h2 ⟨i, o, k1, k2, k3, k4, B0, B1, B2, hO, hE, hL, hi, rfl⟩
    simp only [c_glebekit_CopyImage_l0, go_sem, reduceIte, Nat.reduceEqDiff, Nat.reduceAdd, Nat.reduceLeDiff, Nat.reducePow, Nat.reduceDiv, Nat.reduceMod, decide_true, k1, k2, k3, k4, B0, ld]
    refine wCond_split (fun ci => ?_) (fun ci => ?_)
    · simp at ci
      obtain ⟨p, cs, hp1, hp2, hcs⟩ := (hd.up hE).index .i64 (i := i) (d := x.hards[i].c) (by omega) (by simp [ci])
      have hcl : cs.length = 10 := by rw [RdL_length hcs]; rfl
      have tk : cs.take 10 = cs := List.take_of_length_le (by omega)
      have ld2 : aload h2 true 10 p = some (.agg cs) := by rw [aload_p hp2, take_agg, hcl, if_pos (Nat.le_refl _), tk]
      have ld3 : ∀ z, aload (h2 ++ [z]) true 10 p = some (.agg cs) := fun z => by rw [aload_p (pup hp2 (Ext.b1 z)), take_agg, hcl, if_pos (Nat.le_refl _), tk]
      have e1 : IntKind.i64.wrap (↑i + 1) = (i : Int) + 1 := wrap_i64 (by omega)
      have nr : ∀ o, notRes h2.length 1 (.ptr h.length 2 0 o) = true := fun o => by simp [notRes]; omega
      have nr2 : ∀ o, notRes h2.length 1 (.ptr (h.length + 1 + 1) 2 0 o) = true := fun o => by simp [notRes]; omega
      have nr3 : notRes h2.length 1 p = true := notRes_of0 hp2 1
      have C0 : ∀ z, (h2 ++ [z])[h.length]? = _ := fun z => (Ext.b1 z).get B0
      have C2 : ∀ z, (h2 ++ [z])[h.length + 1 + 1]? = _ := fun z => (Ext.b1 z).get B2
      simp only [go_sem, reduceIte, Nat.reduceEqDiff, Nat.reduceAdd, Nat.reduceLeDiff, Nat.reducePow, Nat.reduceDiv, Nat.reduceMod, decide_true, k1, k2, k3, k4, B0, B2, C0, C2, nr, nr2, nr3, hp1, ld2, ld3]
      refine use1 hk.1 (hk.2 F _ x.hards[i] cs (hcs.up (Ext.b1 _)) (hx.2.2 _ (List.getElem_mem _))) ?_
      have tk2 : D.avLL ((x.hards.take (i + 1)).map Hard.c) = D.avLL ((x.hards.take i).map Hard.c) ++ [x.hards[i].v] := by
        rw [List.take_succ_eq_append_getElem ci, avLL_map, avLL_map]; simp only [List.map_append, List.map_cons, List.map_nil]; rfl
      obtain ⟨o2, h3, s1, s2, s3⟩ := acc_app (bytes := 160) (h := h2 ++ [some (.arr 10 [x.hards[i].v] false)]) (ys := [x.hards[i].v]) hO (Ext.b1 _) (by omega) (by simp [avLL_length]; have := hx.1; omega)
      have s1' := s1
      rw [← aappend_of (aelems_new h2 10 [x.hards[i].v] false (some 1) (len := 1) rfl)] at s1'
      have hv10 : x.hards[i].v.length = 10 := rfl
      have hvs : x.hards[i].v.all AV.scalar = true := avL_scalars _
      have hl3 := s3.1
      simp only [len_app1] at hl3
      have D0 : h3[h.length]? = _ := (s3.2 _ (by simp; omega) (by omega)).trans (C0 _)
      have D1 : h3[h.length + 1]? = _ := (s3.2 _ (by simp; omega) (by omega)).trans ((Ext.b1 _).get B1)
      have D2 : h3[h.length + 1 + 1]? = _ := (s3.2 _ (by simp; omega) (by omega)).trans (C2 _)
      simp only [go_sem, reduceIte, Nat.reduceEqDiff, Nat.reduceAdd, Nat.reduceLeDiff, Nat.reducePow, Nat.reduceDiv, Nat.reduceMod, decide_true, k1, k2, k3, k4, B0, B2, C0, C2, nr, nr2, nr3, hp1, ld2, ld3, hv10, hvs, s1', D2, s2.scalar, cells_of s2.scalar, e1]
      refine ⟨_, by omega, i + 1, o2, by simp, by rw [if_neg (by omega)]; exact D0, D1, by rw [if_pos (by omega)], by rw [tk2]; exact s2.setq (by omega) _, ?_, ?_, ci, rfl⟩
      · exact ((hE.tr (Ext.b1 _)).then s3 (fun m hm hm' => by omega)).setNew (by omega) _
      · rw [List.length_set]; omega
    · simp at ci
      obtain rfl : i = x.hards.length := by omega
      rw [List.take_length] at hO
      simp only [go_sem, reduceIte, Nat.reduceEqDiff, Nat.reduceAdd, Nat.reduceLeDiff, Nat.reducePow, Nat.reduceDiv, Nat.reduceMod, decide_true, k1, k2, k3, k4, B1, B2, hO.scalar, show h.length + 1 < h2.length by omega]
      exact ⟨o, rfl, hO.setq (by omega) _, hE.setNew (by omega) _⟩

theorem CopyImage_ok {P : Program} {f g k : FuncId} (hf : Is P f (c_glebekit_CopyImage g k)) (hg : VotesP P g) (hk : CopyHardG P k) : CopyImageP P f := (CopyImage_o hf hg hk).p

def SameHardsOk (P : Program) (f : FuncId) : Prop :=
  isFn P f = true ∧ ∀ (F F' : Nat → Prop) (h : AHeap) (x y : List Hard) (a b : AV), Rd F h (dHards x) a → Rd F' h (dHards y) b → x.length ≤ 2^40 → (∀ e ∈ x, e.few) → ACalls P f [a, b] h fun r h' => r = .bool (decide (x = y)) ∧ h' = h
def SameVotesOk (P : Program) (f : FuncId) : Prop :=
  isFn P f = true ∧ ∀ (F F' : Nat → Prop) (h : AHeap) (x y : List Vote) (a b : AV), Rd F h (dVotes x) a → Rd F' h (dVotes y) b → x.length ≤ 2^40 → ACalls P f [a, b] h fun r h' => r = .bool (decide (x = y)) ∧ h' = h
def SameImageOk (P : Program) (f : FuncId) : Prop :=
  isFn P f = true ∧ ∀ (F F' : Nat → Prop) (h : AHeap) (x y : Image) (a b : List AV), RdL F h x.c a → RdL F' h y.c b → x.few → ACalls P f [.agg a, .agg b] h fun r h' => r = .bool (decide (x = y)) ∧ h' = h

theorem ext_upto {α : Type} {x y : List α} (hl : x.length = y.length) (hj : ∀ j : Nat, j < x.length → x[j]? = y[j]?) : x = y := by
  apply List.ext_getElem?
  intro j
  rcases Nat.lt_or_ge j x.length with hlt | hge
  · exact hj j hlt
  · rw [List.getElem?_eq_none hge, List.getElem?_eq_none (by omega)]

theorem SameHards_ok {P : Program} {f g : FuncId} (hf : Is P f (c_glebekit_SameHards g)) (hg : SameHardOk P g) : SameHardsOk P f := by
  refine ⟨hf.2, fun F F' h x y a b hx hy hl hd => fun_sound hf.1 (Nat.le_of_ble_eq_true rfl) ?_⟩
  show vc P (c_glebekit_SameHards g).code ⟨[(0, a), (1, b)], [], h⟩ (atEnd (c_glebekit_SameHards g).res _)
  have lx : alen a = some (.int .i64 x.length) := by simpa using hx.len
  have ly : alen b = some (.int .i64 y.length) := by simpa using hy.len
  simp only [c_glebekit_SameHards, go_sem, reduceIte, Nat.reduceEqDiff, Nat.reduceAdd, Nat.reduceLeDiff, Nat.reducePow, Nat.reduceDiv, Nat.reduceMod, decide_true, lx, ly]
  refine wCond_split (fun c => ?_) (fun c => ?_)
  · simp only [go_sem, reduceIte, Nat.reduceEqDiff, Nat.reduceAdd, Nat.reduceLeDiff, Nat.reducePow, Nat.reduceDiv, Nat.reduceMod, decide_true]
    simp at c
    simp; rintro rfl; exact c rfl
  · simp only [go_sem, reduceIte, Nat.reduceEqDiff, Nat.reduceAdd, Nat.reduceLeDiff, Nat.reducePow, Nat.reduceDiv, Nat.reduceMod, decide_true]
    simp at c
    have c' : x.length = y.length := by omega
    refine vc_loop (fun m L h' => ∃ i : Nat, lk 0 L = a ∧ lk 1 L = b ∧ lk 5 L = .int .i64 i ∧ h' = h ∧ i ≤ x.length ∧ m = x.length - i ∧ ∀ j : Nat, j < i → x[j]? = y[j]?) x.length ?_ ?_
    · exact ⟨0, by simp [lk_ins, lk_cons], by simp [lk_ins, lk_cons], by simp [lk_ins], rfl, by omega, by omega, by omega⟩
    · rintro m L h' ⟨i, h0, h1, h5, rfl, hi, rfl, hj⟩
      simp only [c_glebekit_SameHards_l0, go_sem, reduceIte, Nat.reduceEqDiff, Nat.reduceAdd, Nat.reduceLeDiff, Nat.reducePow, Nat.reduceDiv, Nat.reduceMod, decide_true, lx, h0, h1, h5]
      refine wCond_split (fun ci => ?_) (fun ci => ?_)
      · simp at ci
        have iy : i < y.length := by omega
        obtain ⟨p, cs, hp, hpc, hcs⟩ := hx.index .i64 (i := i) (d := x[i].c) (by omega) (by simp [ci])
        obtain ⟨q, cs', hq, hqc, hcs'⟩ := hy.index .i64 (i := i) (d := y[i].c) (by omega) (by simp [iy])
        have e : IntKind.i64.wrap (↑i + 1) = (i : Int) + 1 := wrap_i64 (by omega)
        have l1 : cs.length = 10 := by rw [RdL_length hcs]; rfl
        have l2 : cs'.length = 10 := by rw [RdL_length hcs']; rfl
        have t1 : cs.take 10 = cs := List.take_of_length_le (by omega)
        have t2 : cs'.take 10 = cs' := List.take_of_length_le (by omega)
        simp only [go_sem, reduceIte, Nat.reduceEqDiff, Nat.reduceAdd, Nat.reduceLeDiff, Nat.reducePow, Nat.reduceDiv, Nat.reduceMod, decide_true, h0, h1, h5, hp, hq, aload_p hpc, aload_p hqc, l1, l2, t1, t2]
        refine use1 hg.1 (hg.2 F F' _ x[i] y[i] _ _ hcs hcs' (hd _ (by simp))) ?_
        simp only [go_sem, reduceIte, Nat.reduceEqDiff, Nat.reduceAdd, Nat.reduceLeDiff, Nat.reducePow, Nat.reduceDiv, Nat.reduceMod, decide_true, aload_p hpc, aload_p hqc, l1, l2, t1, t2, or_true]
        refine wCond_split (fun ce => ?_) (fun ce => ?_)
        · simp only [go_sem, reduceIte, Nat.reduceEqDiff, Nat.reduceAdd, Nat.reduceLeDiff, Nat.reducePow, Nat.reduceDiv, Nat.reduceMod, decide_true]
          simp at ce
          simp; rintro rfl; exact ce rfl
        · simp only [go_sem, reduceIte, Nat.reduceEqDiff, Nat.reduceAdd, Nat.reduceLeDiff, Nat.reducePow, Nat.reduceDiv, Nat.reduceMod, decide_true, h0, h1, h5, e]
          simp at ce
          refine ⟨_, ?_, i + 1, by simp, ci, rfl, fun j hj' => ?_⟩
          · omega
          · rcases Nat.lt_or_ge j i with hlt | hge
            · exact hj j hlt
            · obtain rfl : j = i := by omega
              simp [ci, iy, ce]
      · simp at ci
        simp only [go_sem, reduceIte, Nat.reduceEqDiff, Nat.reduceAdd, Nat.reduceLeDiff, Nat.reducePow, Nat.reduceDiv, Nat.reduceMod, decide_true, lx, h0, h1, h5]
        obtain rfl : i = x.length := by omega
        simp [ext_upto c' hj]

theorem vote_eq (x y : Vote) : aEq [(0, true), (1, true), (2, true), (3, true), (4, true)] [.int .i64 x.txn, .int .i64 x.part, .int .i64 x.promised, .int .i64 x.ballot, .int .i64 x.value] [.int .i64 y.txn, .int .i64 y.part, .int .i64 y.promised, .int .i64 y.ballot, .int .i64 y.value] = some (decide (x = y)) := by
  cases x; cases y
  simp only [aEq, List.getElem?_cons_zero, List.getElem?_cons_succ, if_true, Vote.mk.injEq]
  repeat' split
  all_goals simp_all

theorem SameVotes_ok {P : Program} {f : FuncId} (hf : Is P f c_glebekit_SameVotes) : SameVotesOk P f := by
  refine ⟨hf.2, fun F F' h x y a b hx hy hl => fun_sound hf.1 (Nat.le_of_ble_eq_true rfl) ?_⟩
  show vc P c_glebekit_SameVotes.code ⟨[(0, a), (1, b)], [], h⟩ (atEnd c_glebekit_SameVotes.res _)
  have lx : alen a = some (.int .i64 x.length) := by simpa using hx.len
  have ly : alen b = some (.int .i64 y.length) := by simpa using hy.len
  simp only [c_glebekit_SameVotes, go_sem, reduceIte, Nat.reduceEqDiff, Nat.reduceAdd, Nat.reduceLeDiff, Nat.reducePow, Nat.reduceDiv, Nat.reduceMod, decide_true, lx, ly]
  refine wCond_split (fun c => ?_) (fun c => ?_)
  · simp only [go_sem, reduceIte, Nat.reduceEqDiff, Nat.reduceAdd, Nat.reduceLeDiff, Nat.reducePow, Nat.reduceDiv, Nat.reduceMod, decide_true]
    simp at c
    simp; rintro rfl; exact c rfl
  · simp only [go_sem, reduceIte, Nat.reduceEqDiff, Nat.reduceAdd, Nat.reduceLeDiff, Nat.reducePow, Nat.reduceDiv, Nat.reduceMod, decide_true]
    simp at c
    have c' : x.length = y.length := by omega
    refine vc_loop (fun m L h' => ∃ i : Nat, lk 0 L = a ∧ lk 1 L = b ∧ lk 5 L = .int .i64 i ∧ h' = h ∧ i ≤ x.length ∧ m = x.length - i ∧ ∀ j : Nat, j < i → x[j]? = y[j]?) x.length ?_ ?_
    · exact ⟨0, by simp [lk_ins, lk_cons], by simp [lk_ins, lk_cons], by simp [lk_ins], rfl, by omega, by omega, by omega⟩
    · rintro m L h' ⟨i, h0, h1, h5, rfl, hi, rfl, hj⟩
      simp only [c_glebekit_SameVotes_l0, go_sem, reduceIte, Nat.reduceEqDiff, Nat.reduceAdd, Nat.reduceLeDiff, Nat.reducePow, Nat.reduceDiv, Nat.reduceMod, decide_true, lx, h0, h1, h5]
      refine wCond_split (fun ci => ?_) (fun ci => ?_)
      · simp at ci
        have iy : i < y.length := by omega
        obtain ⟨p, cs, hp, hpc, hcs⟩ := hx.index .i64 (i := i) (d := x[i].c) (by omega) (by simp [ci])
        obtain ⟨q, cs', hq, hqc, hcs'⟩ := hy.index .i64 (i := i) (d := y[i].c) (by omega) (by simp [iy])
        obtain rfl := rd_vote hcs
        obtain rfl := rd_vote hcs'
        have e : IntKind.i64.wrap (↑i + 1) = (i : Int) + 1 := wrap_i64 (by omega)
        have xv : ∀ g : Opd → AV, g (.tmp 3) = .agg [.int .i64 x[i].txn, .int .i64 x[i].part, .int .i64 x[i].promised, .int .i64 x[i].ballot, .int .i64 x[i].value] → g (.tmp 7) = .agg [.int .i64 y[i].txn, .int .i64 y[i].part, .int .i64 y[i].promised, .int .i64 y[i].ballot, .int .i64 y[i].value] → xev g (.seq true [(0, true), (1, true), (2, true), (3, true), (4, true)] (.tmp 3) (.tmp 7)) = some (.bool (!decide (x[i] = y[i]))) := by
          intro g g1 g2
          simp only [xev, g1, g2, vote_eq, Option.map_some]
          cases decide (x[i] = y[i]) <;> rfl
        simp only [go_sem, reduceIte, Nat.reduceEqDiff, Nat.reduceAdd, Nat.reduceLeDiff, Nat.reducePow, Nat.reduceDiv, Nat.reduceMod, decide_true, h0, h1, h5, hp, hq, aload_p hpc, aload_p hqc, rev_xo]
        rw [xv _ rfl rfl]
        simp only [go_sem, reduceIte, Nat.reduceEqDiff, Nat.reduceAdd, Nat.reduceLeDiff, Nat.reducePow, Nat.reduceDiv, Nat.reduceMod, decide_true]
        refine wCond_split (fun ce => ?_) (fun ce => ?_)
        · simp only [go_sem, reduceIte, Nat.reduceEqDiff, Nat.reduceAdd, Nat.reduceLeDiff, Nat.reducePow, Nat.reduceDiv, Nat.reduceMod, decide_true]
          simp at ce
          simp; rintro rfl; exact ce rfl
        · simp only [go_sem, reduceIte, Nat.reduceEqDiff, Nat.reduceAdd, Nat.reduceLeDiff, Nat.reducePow, Nat.reduceDiv, Nat.reduceMod, decide_true, h0, h1, h5, e]
          simp at ce
          refine ⟨_, ?_, i + 1, by simp, ci, rfl, fun j hj' => ?_⟩
          · omega
          · rcases Nat.lt_or_ge j i with hlt | hge
            · exact hj j hlt
            · obtain rfl : j = i := by omega
              simp [ci, iy, ce]
      · simp at ci
        simp only [go_sem, reduceIte, Nat.reduceEqDiff, Nat.reduceAdd, Nat.reduceLeDiff, Nat.reducePow, Nat.reduceDiv, Nat.reduceMod, decide_true, lx, h0, h1, h5]
        obtain rfl : i = x.length := by omega
        simp [ext_upto c' hj]

theorem Image.dec (x y : Image) : decide (x = y) = (decide (x.hards = y.hards) && decide (x.votes = y.votes)) := by
  cases x; cases y; simp [Bool.decide_and]

theorem SameImage_ok {P : Program} {f g k : FuncId} (hf : Is P f (c_glebekit_SameImage g k)) (hg : SameHardsOk P g) (hk : SameVotesOk P k) : SameImageOk P f := by
  refine ⟨hf.2, fun F F' h x y a b hx hy hl => obs rfl (fun_sound hf.1 (Nat.le_of_ble_eq_true rfl) ?_)⟩
  show vc P (c_glebekit_SameImage g k).code ⟨[(0, .agg a), (1, .agg b)], [], h⟩ (atEnd (c_glebekit_SameImage g k).res _)
  obtain ⟨d, v, rfl, hd, hv⟩ := rd_image hx
  obtain ⟨d', v', rfl, hd', hv'⟩ := rd_image hy
  simp only [c_glebekit_SameImage, go_sem, reduceIte, Nat.reduceEqDiff, Nat.reduceAdd, Nat.reduceLeDiff, Nat.reducePow, Nat.reduceDiv, Nat.reduceMod, decide_true, hd.scalar, hv.scalar, hd'.scalar, hv'.scalar]
  refine use1 hg.1 (hg.2 F F' _ x.hards y.hards d d' (hd.up (Ext.b2 _ _)) (hd'.up (Ext.b2 _ _)) (by have := hl.1; omega) hl.2.2) ?_
  by_cases c : x.hards = y.hards
  · simp only [go_sem, reduceIte, Nat.reduceEqDiff, Nat.reduceAdd, Nat.reduceLeDiff, Nat.reducePow, Nat.reduceDiv, Nat.reduceMod, decide_true, decide_eq_true c]
    refine use1 hk.1 (hk.2 F F' _ x.votes y.votes v v' (hv.up (Ext.b2 _ _)) (hv'.up (Ext.b2 _ _)) (by have := hl.2.1; omega)) ?_
    simp only [go_sem, reduceIte, Nat.reduceEqDiff, Nat.reduceAdd, Nat.reduceLeDiff, Nat.reducePow, Nat.reduceDiv, Nat.reduceMod, decide_true]
    exact ⟨by simp [Image.dec, c], Ext.b2 _ _⟩
  · simp only [go_sem, reduceIte, Nat.reduceEqDiff, Nat.reduceAdd, Nat.reduceLeDiff, Nat.reducePow, Nat.reduceDiv, Nat.reduceMod, decide_true, decide_eq_false c]
    exact ⟨by simp [Image.dec, c], Ext.b2 _ _⟩

end Glb

/-
  Any image's bytes: the law.
-/
namespace Glb
open Go
set_option maxRecDepth 10000
set_option maxHeartbeats 8000000

/-- of the sizes that are asked -/
def Image.fits (x : Image) : Prop := x.hards.length ≤ 40 ∧ x.votes.length ≤ 200 ∧ ∀ y ∈ x.hards, y.small 100 16384

theorem flat_bound {T : Type} (e : T → List Int) (n : Nat) : ∀ xs : List T, (∀ x ∈ xs, (e x).length ≤ n) → (xs.flatMap e).length ≤ xs.length * n
  | [], _ => by simp
  | x :: r, h => by
    have h1 := flat_bound e n r (fun y hy => h y (by simp [hy]))
    have h2 := h x (by simp)
    simp only [List.flatMap_cons, List.length_append, List.length_cons, Nat.add_mul]; omega
theorem entries_bound {l : List Entry} (h1 : l.length ≤ 100) (h2 : ∀ e ∈ l, e.data.length ≤ 16384) : (l.flatMap entryC.enc).length ≤ 1640800 := by
  have := flat_bound entryC.enc 16408 l (fun e he => by rw [entryC_enc]; have := h2 e he; simp only [List.length_append, num_length]; omega)
  omega
def FewOk (P : Program) (f : FuncId) : Prop :=
  isFn P f = true ∧ ∀ (F : Nat → Prop) (h : AHeap) (x : Image) (a : List AV), RdL F h x.c a → ACalls P f [.agg a] h fun r h' => ∃ b, r = .bool b ∧ h' = h ∧ (b = true → x.fits)

theorem Few_ok {P : Program} {f g : FuncId} (hf : Is P f (c_glebelaw13_Few g)) (hg : BigHardOk P g) : FewOk P f := by
  refine ⟨hf.2, fun F h x a ha => ?_⟩
  have key : ACalls P f [.agg a] h fun r h' => ∃ b, r = .bool b ∧ Ext nof h h' ∧ (b = true → x.fits) := by
    refine fun_sound hf.1 (Nat.le_of_ble_eq_true rfl) ?_
    show vc P (c_glebelaw13_Few g).code ⟨[(0, .agg a)], [], h⟩ (atEnd (c_glebelaw13_Few g).res _)
    obtain ⟨d, v, rfl, hd, hv⟩ := rd_image ha
    have ld : alen d = some (.int .i64 x.hards.length) := by simpa using hd.len
    have lv : alen v = some (.int .i64 x.votes.length) := by simpa using hv.len
    simp only [c_glebelaw13_Few, go_sem, reduceIte, Nat.reduceEqDiff, Nat.reduceAdd, Nat.reduceLeDiff, Nat.reducePow, Nat.reduceDiv, Nat.reduceMod, decide_true, hd.scalar, hv.scalar, ld]
    by_cases c1 : (40 : Int) < x.hards.length
    · simp only [go_sem, reduceIte, Nat.reduceEqDiff, Nat.reduceAdd, Nat.reduceLeDiff, Nat.reducePow, Nat.reduceDiv, Nat.reduceMod, decide_true, decide_eq_true c1]
      exact ⟨_, rfl, Ext.b1 _, fun h => by cases h⟩
    by_cases c2 : (200 : Int) < x.votes.length
    · simp only [go_sem, reduceIte, Nat.reduceEqDiff, Nat.reduceAdd, Nat.reduceLeDiff, Nat.reducePow, Nat.reduceDiv, Nat.reduceMod, decide_true, decide_eq_false c1, lv, decide_eq_true c2]
      exact ⟨_, rfl, Ext.b1 _, fun h => by cases h⟩
    simp only [go_sem, reduceIte, Nat.reduceEqDiff, Nat.reduceAdd, Nat.reduceLeDiff, Nat.reducePow, Nat.reduceDiv, Nat.reduceMod, decide_true, decide_eq_false c1, lv, decide_eq_false c2]
    have b0 := bx10 h (some (ABlk.arr 2 [[d, v]] false))
    refine vc_loop (fun m L h' => ∃ (i : Nat), lk 1 L = .ptr h.length 2 0 0 ∧ lk 3 L = .int .i64 i ∧ h ++ [some (.arr 2 [[d, v]] false)] = h' ∧ (∀ y ∈ x.hards.take i, y.small 100 16384) ∧ i ≤ x.hards.length ∧ m = x.hards.length - i) x.hards.length ?_ ?_
    · exact ⟨0, by simp [lk_ins, lk_cons], by simp [lk_ins], rfl, by simp, by omega, by omega⟩
    · rintro m L h2 ⟨i, k1, k3, rfl, hs, hi, rfl⟩
      simp only [c_glebelaw13_Few_l0, go_sem, reduceIte, Nat.reduceEqDiff, Nat.reduceAdd, Nat.reduceLeDiff, Nat.reducePow, Nat.reduceDiv, Nat.reduceMod, decide_true, k1, k3, b0, ld]
      refine wCond_split (fun ci => ?_) (fun ci => ?_)
      · simp at ci
        obtain ⟨p, cs, hp1, hp2, hcs⟩ := (hd.up (Ext.b1 (some (.arr 2 [[d, v]] false)))).index .i64 (i := i) (d := x.hards[i].c) (by omega) (by simp [ci])
        have hcl : cs.length = 10 := by rw [RdL_length hcs]; rfl
        have tk : cs.take 10 = cs := List.take_of_length_le (by omega)
        have e1 : IntKind.i64.wrap (↑i + 1) = (i : Int) + 1 := wrap_i64 (by omega)
        simp only [go_sem, reduceIte, Nat.reduceEqDiff, Nat.reduceAdd, Nat.reduceLeDiff, Nat.reducePow, Nat.reduceDiv, Nat.reduceMod, decide_true, k1, k3, b0, hp1, aload_p hp2, hcl, tk]
        refine wCall_use ⟨hg.1, hg.2 F _ x.hards[i] cs 100 16384 hcs (by omega) (by omega)⟩ ?_
        rintro _ _ ⟨b, rfl, rfl, hb⟩
        cases b
        · simp only [go_sem, reduceIte, Nat.reduceEqDiff, Nat.reduceAdd, Nat.reduceLeDiff, Nat.reducePow, Nat.reduceDiv, Nat.reduceMod, decide_true, k1, k3, e1]
          refine ⟨_, by omega, i + 1, by simp, fun y hy => ?_, ci, rfl⟩
          rw [List.take_succ_eq_append_getElem ci] at hy
          rcases List.mem_append.1 hy with h3 | h3
          · exact hs y h3
          · simp at h3; rw [h3]; exact hb rfl
        · simp only [go_sem, reduceIte, Nat.reduceEqDiff, Nat.reduceAdd, Nat.reduceLeDiff, Nat.reducePow, Nat.reduceDiv, Nat.reduceMod, decide_true]
          exact ⟨_, rfl, Ext.b1 _, fun h => by cases h⟩
      · simp at ci
        obtain rfl : i = x.hards.length := by omega
        rw [List.take_length] at hs
        simp only [go_sem, reduceIte, Nat.reduceEqDiff, Nat.reduceAdd, Nat.reduceLeDiff, Nat.reducePow, Nat.reduceDiv, Nat.reduceMod, decide_true]
        exact ⟨_, rfl, Ext.b1 _, fun _ => ⟨by omega, by omega, hs⟩⟩
  exact ACalls.freezeH (K' := fun r h' => ∃ b, r = .bool b ∧ h' = h ∧ (b = true → x.fits)) key (fun r h' ⟨b, e, hx, hq⟩ => ⟨.bool b, h, FrzH.same hx, by subst e; exact Frz.bool b, b, rfl, rfl, hq⟩)

end Glb
