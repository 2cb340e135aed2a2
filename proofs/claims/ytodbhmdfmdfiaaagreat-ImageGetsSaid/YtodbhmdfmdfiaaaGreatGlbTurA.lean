/-
  A library of its own: its parts, one behind the other.
-/
import Derived.Test.YtodbhmdfmdfiaaaGreatGlbLaw13c
import Derived.Test.YtodbhmdfmdfiaaaGreatGlbImgX
import Derived.Test.YtodbhmdfmdfiaaaGreatGlbQuoA
import Derived.Test.YtodbhmdfmdfiaaaGreatGlbLaw13a
import Derived.Test.YtodbhmdfmdfiaaaGreatGlbMorA
import Derived.Test.YtodbhmdfmdfiaaaGreatGlbFitI
import Derived.Test.YtodbhmdfmdfiaaaGreatGlbImgA
set_option linter.unusedSimpArgs false
set_option linter.unusedVariables false
/-
  Images and changes are read from their bytes as they were: the law ImageBack.
-/
namespace Glb
open Go
set_option maxRecDepth 10000
set_option maxHeartbeats 16000000

/-! what is read, as it stands -/
end Glb

/-
  An image without what a change is about; whether the logs of an image may be.
-/
namespace Glb
open Go
set_option maxRecDepth 10000
set_option maxHeartbeats 16000000

theorem OwnO.kp {lo : Nat} {h h' : AHeap} {sz : Nat} {a : AV} {es : List (List AV)} (ho : OwnO lo h sz a es) (hk : ∀ m, lo ≤ m → m < h.length → h'[m]? = h[m]?) : OwnO lo h' sz a es := by
  rcases ho with ho | ⟨n, off, cap, row, g, h1, h2, h3, h4⟩
  · exact .inl ho
  · exact .inr ⟨n, off, cap, row, g, h1, h2, (hk n h2 (List.getElem?_eq_some_iff.1 h3).1).trans h3, h4⟩
theorem OwnO.lo {lo lo' : Nat} {h : AHeap} {sz : Nat} {a : AV} {es : List (List AV)} (ho : OwnO lo h sz a es) (hl : lo' ≤ lo) : OwnO lo' h sz a es := by
  rcases ho with ho | ⟨n, off, cap, row, g, h1, h2, h3⟩
  · exact .inl ho
  · exact .inr ⟨n, off, cap, row, g, h1, Nat.le_trans hl h2, h3⟩
end Glb

/-
  Images that changes have turned: their sizes stay within bounds.
-/
namespace Glb
open Go
set_option maxRecDepth 10000
set_option maxHeartbeats 16000000

end Glb

/-
  More steps: a field of a struct.
-/
namespace Glb
open Go

def afld (o n : Nat) (agg : Bool) : AV → Option AV
  | .agg cs => if agg then (if o + n ≤ cs.length then some (.agg ((cs.drop o).take n)) else none) else cs[o]?
  | _ => none
theorem rev_fld (g : Opd → AV) (h : AHeap) (o n : Nat) (agg : Bool) (x : Opd) : rev g h (.x (.fld o n agg x)) = afld o n agg (g x) := by
  simp only [rev, xev, afld]
  cases g x <;> rfl
theorem afld_one (o n : Nat) (cs : List AV) : afld o n false (.agg cs) = cs[o]? := Eq.trans rfl rfl
theorem afld_agg (o n : Nat) (cs : List AV) : afld o n true (.agg cs) = if o + n ≤ cs.length then some (.agg ((cs.drop o).take n)) else none := Eq.trans rfl rfl
attribute [go_sem] rev_fld afld_one afld_agg

end Glb

/-
  A change leaves all others as they were, and does twice what it does once: the law ImageApart.
-/
namespace Glb
open Go
set_option maxRecDepth 10000
set_option maxHeartbeats 16000000

end Glb

/-
  The document's Hard behind a change; copies of entries and changes.
-/
namespace Glb
open Go
set_option maxRecDepth 10000
set_option maxHeartbeats 16000000

end Glb

/-
  The document's image behind a change.
-/
namespace Glb
open Go
set_option maxRecDepth 10000
set_option maxHeartbeats 16000000

/-! votes, as the document lays them -/
end Glb

/-
  Images and changes are written over: only rows of their own are touched.
-/
namespace Glb
open Go
set_option maxRecDepth 10000
set_option maxHeartbeats 16000000

theorem DecL_int {k : IntKind} {a b : Int} {l l' : List AV} (h : DecL l l') : DecL (.int k a :: l) (.int k b :: l') := ⟨_, _, rfl, .inr (.inl ⟨_, _, _, rfl, rfl⟩), h⟩
def SpoilLT (P : Program) (f : FuncId) (ts : List Ty) : Prop :=
  isFn P f = true ∧ ∀ (F : Nat → Prop) (h : AHeap) (cs : List AV), OwnTL ts F h cs → (∀ m, F m → m < h.length) → ACalls P f [.agg cs] h fun _ h' => Ext F h h' ∧ PresT h h'

theorem OwnT.scalar {t : Ty} {F : Nat → Prop} {h : AHeap} {a : AV} (ho : OwnT t F h a) : a.scalar = true := by
  cases t with
  | int k => simp only [OwnT] at ho; obtain ⟨n, rfl⟩ := ho; rfl
  | bool => simp only [OwnT] at ho; obtain ⟨n, rfl⟩ := ho; rfl
  | str => simp only [OwnT] at ho; obtain ⟨n, rfl⟩ := ho; rfl
  | sl sz ts => simp only [OwnT] at ho; rcases ho with rfl | ⟨t, c, rfl⟩ | ⟨n, off, len, cap, row, g, rfl, _⟩ <;> rfl
theorem OwnTL_cons {t : Ty} {ts : List Ty} {F : Nat → Prop} {h : AHeap} {l : List AV} (hh : OwnTL (t :: ts) F h l) : ∃ a r, l = a :: r ∧ OwnT t F h a ∧ OwnTL ts F h r := by simpa only [OwnTL] using hh
theorem OwnTL_nil {F : Nat → Prop} {h : AHeap} {l : List AV} (hh : OwnTL [] F h l) : l = [] := by simpa only [OwnTL] using hh
theorem OwnT.upB {t : Ty} {F : Nat → Prop} {h h' : AHeap} {a : AV} (ho : OwnT t F h a) (p : PresT h h') : OwnT t F h' a := p.1 _ _ _ ho
theorem PresT.b1 (h : AHeap) (z : Option ABlk) : PresT h (h ++ [z]) := PresT.ext (Ext.b1 z)
def intsTy : Ty := .sl 1 [.int .i64]
def bytesTy : Ty := .sl 1 [.int .u8]
def confTyI : List Ty := [intsTy, intsTy, intsTy]

theorem SpoilConf_t {P : Program} {f g : FuncId} (hf : Is P f (c_glebekit_SpoilConf g)) (hg : SpoilOk P g intsTy) : SpoilLT P f confTyI := by
  refine ⟨hf.2, fun F h cs ho hF => fun_sound hf.1 (Nat.le_of_ble_eq_true rfl) ?_⟩
  obtain ⟨o, _, rfl, h1, ho⟩ := OwnTL_cons ho
  obtain ⟨n, _, rfl, h2, ho⟩ := OwnTL_cons ho
  obtain ⟨l, _, rfl, h3, ho⟩ := OwnTL_cons ho
  cases OwnTL_nil ho
  show vc P (c_glebekit_SpoilConf g).code ⟨[(0, .agg [o, n, l])], [], h⟩ (atEnd (c_glebekit_SpoilConf g).res _)
  simp only [c_glebekit_SpoilConf, go_sem, reduceIte, Nat.reduceEqDiff, Nat.reduceAdd, Nat.reduceLeDiff, Nat.reducePow, Nat.reduceDiv, Nat.reduceMod, decide_true, h1.scalar, h2.scalar, h3.scalar]
  have p0 := PresT.b1 h (some (.arr 3 [[o, n, l]] false))
  have X0 := Ext.b1 (h := h) (some (.arr 3 [[o, n, l]] false))
  have B := bx10 h (some (.arr 3 [[o, n, l]] false))
  generalize h ++ [some (ABlk.arr 3 [[o, n, l]] false)] = H at *
  have lb := (List.getElem?_eq_some_iff.1 B).1
  refine wCall_use ⟨hg.1, hg.2 F H o (h1.upB p0)⟩ ?_
  rintro _ H1 ⟨X1, p1⟩
  have B1 : H1[h.length]? = _ := (X1.2 _ lb (fun hm => Nat.lt_irrefl _ (hF _ hm))).trans B
  have lb1 := (List.getElem?_eq_some_iff.1 B1).1
  simp only [go_sem, reduceIte, Nat.reduceEqDiff, Nat.reduceAdd, Nat.reduceLeDiff, Nat.reducePow, Nat.reduceDiv, Nat.reduceMod, decide_true, B1]
  refine wCall_use ⟨hg.1, hg.2 F H1 n ((h2.upB p0).upB p1)⟩ ?_
  rintro _ H2 ⟨X2, p2⟩
  have B2 : H2[h.length]? = _ := (X2.2 _ lb1 (fun hm => Nat.lt_irrefl _ (hF _ hm))).trans B1
  simp only [go_sem, reduceIte, Nat.reduceEqDiff, Nat.reduceAdd, Nat.reduceLeDiff, Nat.reducePow, Nat.reduceDiv, Nat.reduceMod, decide_true, B2]
  refine wCall_use ⟨hg.1, hg.2 F H2 l (((h3.upB p0).upB p1).upB p2)⟩ ?_
  rintro _ H3 ⟨X3, p3⟩
  simp only [go_sem, reduceIte, Nat.reduceEqDiff, Nat.reduceAdd, Nat.reduceLeDiff, Nat.reducePow, Nat.reduceDiv, Nat.reduceMod, decide_true]
  exact ⟨((X0.trans X1 (F'' := F) (fun _ _ x => x.elim) (fun _ _ x => x)).trans X2 (fun _ _ x => x) (fun _ _ x => x)).trans X3 (fun _ _ x => x) (fun _ _ x => x), ((p0.trans p1).trans p2).trans p3⟩

theorem hard_ownT {F : Nat → Prop} {h : AHeap} {cs : List AV} (hh : OwnTL hardTyI F h cs) : ∃ (x : Hard) (e o n l s : AV), cs = x.cells e o n l s ∧ OwnT (.sl 3 entryT) F h e ∧ OwnT intsTy F h o ∧ OwnT intsTy F h n ∧ OwnT intsTy F h l ∧ OwnT bytesTy F h s := by
  obtain ⟨_, _, rfl, h1, hh⟩ := OwnTL_cons hh
  obtain ⟨_, _, rfl, h2, hh⟩ := OwnTL_cons hh
  obtain ⟨_, _, rfl, h3, hh⟩ := OwnTL_cons hh
  obtain ⟨_, _, rfl, h4, hh⟩ := OwnTL_cons hh
  obtain ⟨_, _, rfl, h5, hh⟩ := OwnTL_cons hh
  obtain ⟨e, _, rfl, h6, hh⟩ := OwnTL_cons hh
  obtain ⟨o, _, rfl, h7, hh⟩ := OwnTL_cons hh
  obtain ⟨n, _, rfl, h8, hh⟩ := OwnTL_cons hh
  obtain ⟨l, _, rfl, h9, hh⟩ := OwnTL_cons hh
  obtain ⟨s, _, rfl, h10, hh⟩ := OwnTL_cons hh
  cases OwnTL_nil hh
  simp only [OwnT] at h1 h2 h3 h4 h5
  obtain ⟨a, rfl⟩ := h1; obtain ⟨b, rfl⟩ := h2; obtain ⟨c, rfl⟩ := h3; obtain ⟨d, rfl⟩ := h4; obtain ⟨g, rfl⟩ := h5
  exact ⟨⟨a, b, c, ⟨d, g, []⟩, ⟨[], [], []⟩, []⟩, e, o, n, l, s, rfl, h6, h7, h8, h9, h10⟩

theorem SpoilHard_t {P : Program} {f g k b : FuncId} (hf : Is P f (c_glebekit_SpoilHard g k b)) (hg : SpoilOk P g (.sl 3 entryT)) (hk : SpoilLT P k confTyI) (hb : SpoilOk P b bytesTy) : SpoilLT P f hardTyI := by
  refine ⟨hf.2, fun F h cs ho hF => fun_sound hf.1 (Nat.le_of_ble_eq_true rfl) ?_⟩
  obtain ⟨x, e, o, n, l, s, rfl, he, ho, hn, hl, hs⟩ := hard_ownT ho
  show vc P (c_glebekit_SpoilHard g k b).code ⟨[(0, .agg (x.cells e o n l s))], [], h⟩ (atEnd (c_glebekit_SpoilHard g k b).res _)
  simp only [c_glebekit_SpoilHard, Hard.cells, go_sem, reduceIte, Nat.reduceEqDiff, Nat.reduceAdd, Nat.reduceLeDiff, Nat.reducePow, Nat.reduceDiv, Nat.reduceMod, decide_true, he.scalar, ho.scalar, hn.scalar, hl.scalar, hs.scalar]
  generalize hZ : (ABlk.arr 10 [[AV.int IntKind.i64 x.group, AV.int IntKind.i64 x.term, AV.int IntKind.i64 x.vote, AV.int IntKind.i64 x.log.base, AV.int IntKind.i64 x.log.bterm, e, o, n, l, s]] false) = Z
  have p0 := PresT.b1 h (some Z)
  have X0 := Ext.b1 (h := h) (some Z)
  have B := bx10 h (some Z)
  generalize h ++ [some Z] = H at *
  subst hZ
  have lb := (List.getElem?_eq_some_iff.1 B).1
  refine wCall_use ⟨hg.1, hg.2 F H e (he.upB p0)⟩ ?_
  rintro _ H1 ⟨X1, p1⟩
  have B1 : H1[h.length]? = _ := (X1.2 _ lb (fun hm => Nat.lt_irrefl _ (hF _ hm))).trans B
  have lb1 := (List.getElem?_eq_some_iff.1 B1).1
  simp only [go_sem, reduceIte, Nat.reduceEqDiff, Nat.reduceAdd, Nat.reduceLeDiff, Nat.reducePow, Nat.reduceDiv, Nat.reduceMod, decide_true, B1]
  refine wCall_use ⟨hk.1, hk.2 F H1 [o, n, l] ?_ (fun m hm => Nat.lt_trans (hF m hm) lb1)⟩ ?_
  · simp only [confTyI, OwnTL]
    exact ⟨_, _, rfl, (ho.upB p0).upB p1, _, _, rfl, (hn.upB p0).upB p1, _, _, rfl, (hl.upB p0).upB p1, rfl⟩
  rintro _ H2 ⟨X2, p2⟩
  have B2 : H2[h.length]? = _ := (X2.2 _ lb1 (fun hm => Nat.lt_irrefl _ (hF _ hm))).trans B1
  simp only [go_sem, reduceIte, Nat.reduceEqDiff, Nat.reduceAdd, Nat.reduceLeDiff, Nat.reducePow, Nat.reduceDiv, Nat.reduceMod, decide_true, B2]
  refine wCall_use ⟨hb.1, hb.2 F H2 s (((hs.upB p0).upB p1).upB p2)⟩ ?_
  rintro _ H3 ⟨X3, p3⟩
  simp only [go_sem, reduceIte, Nat.reduceEqDiff, Nat.reduceAdd, Nat.reduceLeDiff, Nat.reducePow, Nat.reduceDiv, Nat.reduceMod, decide_true]
  exact ⟨((X0.trans X1 (F'' := F) (fun _ _ x => x.elim) (fun _ _ x => x)).trans X2 (fun _ _ x => x) (fun _ _ x => x)).trans X3 (fun _ _ x => x) (fun _ _ x => x), ((p0.trans p1).trans p2).trans p3⟩

theorem vote_ownT {F : Nat → Prop} {h : AHeap} {cs : List AV} (hh : OwnTL voteTy F h cs) : ∃ v : Vote, cs = [.int .i64 v.txn, .int .i64 v.part, .int .i64 v.promised, .int .i64 v.ballot, .int .i64 v.value] := by
  obtain ⟨_, _, rfl, h1, hh⟩ := OwnTL_cons hh
  obtain ⟨_, _, rfl, h2, hh⟩ := OwnTL_cons hh
  obtain ⟨_, _, rfl, h3, hh⟩ := OwnTL_cons hh
  obtain ⟨_, _, rfl, h4, hh⟩ := OwnTL_cons hh
  obtain ⟨_, _, rfl, h5, hh⟩ := OwnTL_cons hh
  cases OwnTL_nil hh
  simp only [OwnT] at h1 h2 h3 h4 h5
  obtain ⟨a, rfl⟩ := h1; obtain ⟨b, rfl⟩ := h2; obtain ⟨c, rfl⟩ := h3; obtain ⟨d, rfl⟩ := h4; obtain ⟨g, rfl⟩ := h5
  exact ⟨⟨a, b, c, d, g⟩, rfl⟩

theorem SpoilVotes_t {P : Program} {f : FuncId} (hf : Is P f c_glebekit_SpoilVotes) : SpoilOk P f (.sl 5 voteTy) := by
  refine ⟨hf.2, fun F h a ho => fun_sound hf.1 (Nat.le_of_ble_eq_true rfl) ?_⟩
  show vc P c_glebekit_SpoilVotes.code ⟨[(0, a)], [], h⟩ (atEnd c_glebekit_SpoilVotes.res _)
  have lx := ho.len
  simp only [c_glebekit_SpoilVotes, go_sem, reduceIte, Nat.reduceEqDiff, Nat.reduceAdd, Nat.reduceLeDiff, Nat.reducePow, Nat.reduceDiv, Nat.reduceMod, decide_true]
  obtain ⟨I, hI⟩ : ∃ I : Nat → Env → AHeap → Prop, ∀ m L h', I m L h' ↔ ∃ (i : Nat), lk 0 L = a ∧ lk 2 L = .int .i64 i ∧ i ≤ slen a ∧ m = slen a - i ∧ Ext F h h' ∧ PresT h h' := ⟨_, fun _ _ _ => Iff.rfl⟩
  refine vc_loop I (slen a) ((hI _ _ _).2 ⟨0, by simp [lk_ins, lk_cons], by simp [lk_ins], by omega, by omega, Ext.refl _ _, PresT.refl _⟩) ?_
  intro m L h' hh
  obtain ⟨i, h0, h2, hi, rfl, he, hp⟩ := (hI _ _ _).1 hh
  simp only [c_glebekit_SpoilVotes_l0, go_sem, reduceIte, Nat.reduceEqDiff, Nat.reduceAdd, Nat.reduceLeDiff, Nat.reducePow, Nat.reduceDiv, Nat.reduceMod, decide_true, lx, h0, h2]
  refine wCond_split (fun ci => ?_) (fun ci => ?_)
  · simp at ci
    obtain ⟨n, off, row, gr, cs, h5, h6, h7, h8, h9⟩ := (hp.1 _ _ _ ho).index ci
    obtain ⟨v, rfl⟩ := vote_ownT h9
    have hl := ho.small
    have e : IntKind.i64.wrap (↑i + 1) = (i : Int) + 1 := wrap_i64 (by omega)
    have hst := fun z => astore_elem (x := .agg [.int .i64 z, .int .i64 0, .int .i64 0, .int .i64 0, .int .i64 0]) h7 h8 rfl rfl rfl rfl
    have hst := hst (xorv IntKind.i64 v.txn 77)
    simp only [go_sem, reduceIte, Nat.reduceEqDiff, Nat.reduceAdd, Nat.reduceLeDiff, Nat.reducePow, Nat.reduceDiv, Nat.reduceMod, decide_true, h0, h2, h5, h7, h8, e, hst]
    have hdec : DecL [.int .i64 v.txn, .int .i64 v.part, .int .i64 v.promised, .int .i64 v.ballot, .int .i64 v.value] [.int .i64 (xorv IntKind.i64 v.txn 77), .int .i64 0, .int .i64 0, .int .i64 0, .int .i64 0] := by
      iterate 5 apply DecL_int
      exact rfl
    exact ⟨_, by omega, (hI _ _ _).2 ⟨i + 1, by simp [lk_ins, h0], by simp [lk_ins], ci, rfl, he.trans (Ext.set (F := F) _ (fun _ => h6)) (fun _ _ x => x) (fun _ _ x => x), hp.trans (PresT.set h7 h8 hdec)⟩⟩
  · simp only [go_sem, reduceIte, Nat.reduceEqDiff, Nat.reduceAdd, Nat.reduceLeDiff, Nat.reducePow, Nat.reduceDiv, Nat.reduceMod, decide_true]
    exact ⟨he, hp⟩

theorem SpoilImage_t {P : Program} {f g k : FuncId} (hf : Is P f (c_glebekit_SpoilImage g k)) (hg : SpoilLT P g hardTyI) (hk : SpoilOk P k (.sl 5 voteTy)) : SpoilLT P f imageTy := by
  refine ⟨hf.2, fun F h cs ho hF => fun_sound hf.1 (Nat.le_of_ble_eq_true rfl) ?_⟩
  obtain ⟨a, _, rfl, h1, ho⟩ := OwnTL_cons ho
  obtain ⟨v, _, rfl, h2, ho⟩ := OwnTL_cons ho
  cases OwnTL_nil ho
  show vc P (c_glebekit_SpoilImage g k).code ⟨[(0, .agg [a, v])], [], h⟩ (atEnd (c_glebekit_SpoilImage g k).res _)
  have lx := h1.len
  simp only [c_glebekit_SpoilImage, go_sem, reduceIte, Nat.reduceEqDiff, Nat.reduceAdd, Nat.reduceLeDiff, Nat.reducePow, Nat.reduceDiv, Nat.reduceMod, decide_true, h1.scalar, h2.scalar]
  have p0 := PresT.b1 h (some (.arr 2 [[a, v]] false))
  have X0 := Ext.b1 (h := h) (some (.arr 2 [[a, v]] false))
  have B := bx10 h (some (.arr 2 [[a, v]] false))
  generalize h ++ [some (ABlk.arr 2 [[a, v]] false)] = H at *
  have lb := (List.getElem?_eq_some_iff.1 B).1
  obtain ⟨I, hI⟩ : ∃ I : Nat → Env → AHeap → Prop, ∀ m L h', I m L h' ↔ ∃ (i : Nat), lk 1 L = .ptr h.length 2 0 0 ∧ lk 2 L = .int .i64 i ∧ i ≤ slen a ∧ m = slen a - i ∧ Ext F H h' ∧ PresT H h' := ⟨_, fun _ _ _ => Iff.rfl⟩
  refine vc_loop I (slen a) ((hI _ _ _).2 ⟨0, by simp [lk_ins, lk_cons], by simp [lk_ins], by omega, by omega, Ext.refl _ _, PresT.refl _⟩) ?_
  intro m L h' hh
  obtain ⟨i, k1, k2, hi, rfl, he, hp⟩ := (hI _ _ _).1 hh
  have B1 : h'[h.length]? = _ := (he.2 _ lb (fun hm => Nat.lt_irrefl _ (hF _ hm))).trans B
  have lb1 := (List.getElem?_eq_some_iff.1 B1).1
  simp only [c_glebekit_SpoilImage_l0, go_sem, reduceIte, Nat.reduceEqDiff, Nat.reduceAdd, Nat.reduceLeDiff, Nat.reducePow, Nat.reduceDiv, Nat.reduceMod, decide_true, lx, k1, k2, B1]
  refine wCond_split (fun ci => ?_) (fun ci => ?_)
  · simp at ci
    obtain ⟨n, off, row, gr, cs, h5, h6, h7, h8, h9⟩ := ((h1.upB p0).upB hp).index ci
    have hl := h1.small
    have e : IntKind.i64.wrap (↑i + 1) = (i : Int) + 1 := wrap_i64 (by omega)
    have h9' := h9
    obtain ⟨x, ev, ov, nv, lv, sv, rfl, q1, q2, q3, q4, q5⟩ := hard_ownT h9'
    simp only [Hard.cells] at h8
    simp only [go_sem, reduceIte, Nat.reduceEqDiff, Nat.reduceAdd, Nat.reduceLeDiff, Nat.reducePow, Nat.reduceDiv, Nat.reduceMod, decide_true, k1, k2, B1, h5, h7, h8]
    refine wCall_use ⟨hg.1, hg.2 _ h' _ h9 (fun m hm => Nat.lt_trans (hF m hm.1) lb1)⟩ ?_
    rintro _ h3 ⟨he3, hp3⟩
    have h73 : h3[n]? = some (some (.arr 10 row gr)) := by
      rw [he3.2 n (List.getElem?_eq_some_iff.1 h7).1 (fun x => x.2 rfl)]; exact h7
    have B3 : h3[h.length]? = _ := (he3.2 _ lb1 (fun hm => Nat.lt_irrefl _ (hF _ hm.1))).trans B1
    have hst := astore_elem (x := .agg [.int .i64 (-77), .int .i64 0, .int .i64 0, .int .i64 0, .int .i64 0, .nils, .nils, .nils, .nils, .nils]) h73 h8 rfl rfl rfl rfl
    simp only [go_sem, reduceIte, Nat.reduceEqDiff, Nat.reduceAdd, Nat.reduceLeDiff, Nat.reducePow, Nat.reduceDiv, Nat.reduceMod, decide_true, k1, k2, B3, h5, e, hst]
    have hdec : DecL (x.cells ev ov nv lv sv) [.int .i64 (-77), .int .i64 0, .int .i64 0, .int .i64 0, .int .i64 0, .nils, .nils, .nils, .nils, .nils] := by
      simp only [Hard.cells]
      iterate 5 apply DecL_int
      exact ⟨_, _, rfl, Dec.nils q1, _, _, rfl, Dec.nils q2, _, _, rfl, Dec.nils q3, _, _, rfl, Dec.nils q4, _, _, rfl, Dec.nils q5, rfl⟩
    exact ⟨_, by omega, (hI _ _ _).2 ⟨i + 1, by simp [lk_ins, k1], by simp [lk_ins], ci, rfl, (he.trans he3 (fun _ _ x => x) (fun _ _ x => x.1)).trans (Ext.set (F := F) _ (fun _ => h6)) (fun _ _ x => x) (fun _ _ x => x), (hp.trans hp3).trans (PresT.set h73 h8 hdec)⟩⟩
  · simp only [go_sem, reduceIte, Nat.reduceEqDiff, Nat.reduceAdd, Nat.reduceLeDiff, Nat.reducePow, Nat.reduceDiv, Nat.reduceMod, decide_true, k1, B1]
    refine wCall_use ⟨hk.1, hk.2 F h' v ((h2.upB p0).upB hp)⟩ ?_
    rintro _ h3 ⟨he3, hp3⟩
    simp only [go_sem, reduceIte, Nat.reduceEqDiff, Nat.reduceAdd, Nat.reduceLeDiff, Nat.reducePow, Nat.reduceDiv, Nat.reduceMod, decide_true]
    exact ⟨(X0.trans he (F'' := F) (fun _ _ x => x.elim) (fun _ _ x => x)).trans he3 (fun _ _ x => x) (fun _ _ x => x), (p0.trans hp).trans hp3⟩

theorem change_ownT {F : Nat → Prop} {h : AHeap} {cs : List AV} (hh : OwnTL changeTy F h cs) : ∃ (x : Change) (e o n l s : AV), cs = x.cells e o n l s ∧ OwnT (.sl 3 entryT) F h e ∧ OwnT intsTy F h o ∧ OwnT intsTy F h n ∧ OwnT intsTy F h l ∧ OwnT bytesTy F h s := by
  obtain ⟨_, _, rfl, h1, hh⟩ := OwnTL_cons hh
  obtain ⟨_, _, rfl, h2, hh⟩ := OwnTL_cons hh
  obtain ⟨_, _, rfl, h3, hh⟩ := OwnTL_cons hh
  obtain ⟨_, _, rfl, h4, hh⟩ := OwnTL_cons hh
  obtain ⟨_, _, rfl, h5, hh⟩ := OwnTL_cons hh
  obtain ⟨_, _, rfl, g1, hh⟩ := OwnTL_cons hh
  obtain ⟨_, _, rfl, g2, hh⟩ := OwnTL_cons hh
  obtain ⟨e, _, rfl, h6, hh⟩ := OwnTL_cons hh
  obtain ⟨o, _, rfl, h7, hh⟩ := OwnTL_cons hh
  obtain ⟨n, _, rfl, h8, hh⟩ := OwnTL_cons hh
  obtain ⟨l, _, rfl, h9, hh⟩ := OwnTL_cons hh
  obtain ⟨s, _, rfl, h10, hh⟩ := OwnTL_cons hh
  obtain ⟨_, _, rfl, v1, hh⟩ := OwnTL_cons hh
  obtain ⟨_, _, rfl, v2, hh⟩ := OwnTL_cons hh
  obtain ⟨_, _, rfl, v3, hh⟩ := OwnTL_cons hh
  obtain ⟨_, _, rfl, v4, hh⟩ := OwnTL_cons hh
  obtain ⟨_, _, rfl, v5, hh⟩ := OwnTL_cons hh
  cases OwnTL_nil hh
  simp only [OwnT] at h1 h2 h3 h4 h5 g1 g2 v1 v2 v3 v4 v5
  obtain ⟨a, rfl⟩ := h1; obtain ⟨b, rfl⟩ := h2; obtain ⟨c, rfl⟩ := h3; obtain ⟨d, rfl⟩ := h4; obtain ⟨g, rfl⟩ := h5; obtain ⟨g1, rfl⟩ := g1; obtain ⟨g2, rfl⟩ := g2
  obtain ⟨v1, rfl⟩ := v1; obtain ⟨v2, rfl⟩ := v2; obtain ⟨v3, rfl⟩ := v3; obtain ⟨v4, rfl⟩ := v4; obtain ⟨v5, rfl⟩ := v5
  exact ⟨⟨a, b, c, d, g, ⟨g1, g2, []⟩, ⟨[], [], []⟩, [], ⟨v1, v2, v3, v4, v5⟩⟩, e, o, n, l, s, rfl, h6, h7, h8, h9, h10⟩

theorem SpoilChanges_t {P : Program} {f g k b : FuncId} (hf : Is P f (c_glebekit_SpoilChanges g k b)) (hg : SpoilOk P g (.sl 3 entryT)) (hk : SpoilLT P k confTyI) (hb : SpoilOk P b bytesTy) :
    isFn P f = true ∧ ∀ (F : Nat → Prop) (h : AHeap) (av : AV), OwnT (.sl 17 changeTy) F h av → (∀ m, F m → m < h.length) → ACalls P f [av] h fun _ h' => Ext F h h' ∧ PresT h h' := by
  refine ⟨hf.2, fun F h a ho hF => fun_sound hf.1 (Nat.le_of_ble_eq_true rfl) ?_⟩
  show vc P (c_glebekit_SpoilChanges g k b).code ⟨[(0, a)], [], h⟩ (atEnd (c_glebekit_SpoilChanges g k b).res _)
  have lx := ho.len
  simp only [c_glebekit_SpoilChanges, go_sem, reduceIte, Nat.reduceEqDiff, Nat.reduceAdd, Nat.reduceLeDiff, Nat.reducePow, Nat.reduceDiv, Nat.reduceMod, decide_true]
  obtain ⟨I, hI⟩ : ∃ I : Nat → Env → AHeap → Prop, ∀ m L h', I m L h' ↔ ∃ (i : Nat), lk 0 L = a ∧ lk 2 L = .int .i64 i ∧ i ≤ slen a ∧ m = slen a - i ∧ Ext F h h' ∧ PresT h h' := ⟨_, fun _ _ _ => Iff.rfl⟩
  refine vc_loop I (slen a) ((hI _ _ _).2 ⟨0, by simp [lk_ins, lk_cons], by simp [lk_ins], by omega, by omega, Ext.refl _ _, PresT.refl _⟩) ?_
  intro m L h' hh
  obtain ⟨i, h0, h2, hi, rfl, he, hp⟩ := (hI _ _ _).1 hh
  simp only [c_glebekit_SpoilChanges_l0, go_sem, reduceIte, Nat.reduceEqDiff, Nat.reduceAdd, Nat.reduceLeDiff, Nat.reducePow, Nat.reduceDiv, Nat.reduceMod, decide_true, lx, h0, h2]
  refine wCond_split (fun ci => ?_) (fun ci => ?_)
  · simp at ci
    obtain ⟨n, off, row, gr, cs, h5, h6, h7, h8, h9⟩ := (hp.1 _ _ _ ho).index ci
    obtain ⟨x, ev, ov, nv, lv, sv, rfl, q1, q2, q3, q4, q5⟩ := change_ownT h9
    have hl := ho.small
    have e : IntKind.i64.wrap (↑i + 1) = (i : Int) + 1 := wrap_i64 (by omega)
    simp only [Change.cells] at h8
    simp only [go_sem, reduceIte, Nat.reduceEqDiff, Nat.reduceAdd, Nat.reduceLeDiff, Nat.reducePow, Nat.reduceDiv, Nat.reduceMod, decide_true, h0, h2, h5, h7, h8]
    refine wCall_use ⟨hg.1, hg.2 _ h' ev q1⟩ ?_
    rintro _ h3 ⟨he3, hp3⟩
    have h73 : h3[n]? = some (some (.arr 17 row gr)) := by
      rw [he3.2 n (List.getElem?_eq_some_iff.1 h7).1 (fun x => x.2 rfl)]; exact h7
    simp only [go_sem, reduceIte, Nat.reduceEqDiff, Nat.reduceAdd, Nat.reduceLeDiff, Nat.reducePow, Nat.reduceDiv, Nat.reduceMod, decide_true, h0, h2, h5, h73, h8]
    have w3 := he.1
    have w4 := he3.1
    refine wCall_use ⟨hk.1, hk.2 (fun m => F m ∧ m ≠ n) h3 [ov, nv, lv] ?_ (fun m hm => by have := hF m hm.1; omega)⟩ ?_
    · simp only [confTyI, OwnTL]
      exact ⟨_, _, rfl, q2.upB hp3, _, _, rfl, q3.upB hp3, _, _, rfl, q4.upB hp3, rfl⟩
    rintro _ h4 ⟨he4, hp4⟩
    have h74 : h4[n]? = some (some (.arr 17 row gr)) := by
      rw [he4.2 n (List.getElem?_eq_some_iff.1 h73).1 (fun x => x.2 rfl)]; exact h73
    simp only [go_sem, reduceIte, Nat.reduceEqDiff, Nat.reduceAdd, Nat.reduceLeDiff, Nat.reducePow, Nat.reduceDiv, Nat.reduceMod, decide_true, h0, h2, h5, h74, h8]
    refine wCall_use ⟨hb.1, hb.2 _ h4 sv ((q5.upB hp3).upB hp4)⟩ ?_
    rintro _ h10 ⟨he5, hp5⟩
    have h75 : h10[n]? = some (some (.arr 17 row gr)) := by
      rw [he5.2 n (List.getElem?_eq_some_iff.1 h74).1 (fun x => x.2 rfl)]; exact h74
    have hst := astore_elem (x := .agg [.int .i64 (-77), .int .i64 0, .int .i64 0, .int .i64 0, .int .i64 0, .int .i64 0, .int .i64 0, .nils, .nils, .nils, .nils, .nils, .int .i64 0, .int .i64 0, .int .i64 0, .int .i64 0, .int .i64 0]) h75 h8 rfl rfl rfl rfl
    simp only [go_sem, reduceIte, Nat.reduceEqDiff, Nat.reduceAdd, Nat.reduceLeDiff, Nat.reducePow, Nat.reduceDiv, Nat.reduceMod, decide_true, h0, h2, h5, e, hst]
    have hdec : DecL (x.cells ev ov nv lv sv) [.int .i64 (-77), .int .i64 0, .int .i64 0, .int .i64 0, .int .i64 0, .int .i64 0, .int .i64 0, .nils, .nils, .nils, .nils, .nils, .int .i64 0, .int .i64 0, .int .i64 0, .int .i64 0, .int .i64 0] := by
      simp only [Change.cells]
      iterate 7 apply DecL_int
      refine ⟨_, _, rfl, Dec.nils q1, _, _, rfl, Dec.nils q2, _, _, rfl, Dec.nils q3, _, _, rfl, Dec.nils q4, _, _, rfl, Dec.nils q5, ?_⟩
      iterate 5 apply DecL_int
      exact rfl
    exact ⟨_, by omega, (hI _ _ _).2 ⟨i + 1, by simp [lk_ins, h0], by simp [lk_ins], ci, rfl, ((((he.trans he3 (fun _ _ x => x) (fun _ _ x => x.1)).trans he4 (fun _ _ x => x) (fun _ _ x => x.1)).trans he5 (fun _ _ x => x) (fun _ _ x => x.1))).trans (Ext.set (F := F) _ (fun _ => h6)) (fun _ _ x => x) (fun _ _ x => x), (((hp.trans hp3).trans hp4).trans hp5).trans (PresT.set h75 h8 hdec)⟩⟩
  · simp only [go_sem, reduceIte, Nat.reduceEqDiff, Nat.reduceAdd, Nat.reduceLeDiff, Nat.reducePow, Nat.reduceDiv, Nat.reduceMod, decide_true]
    exact ⟨he, hp⟩

end Glb

/-
  Lists of changes copied, and written by the document.
-/
namespace Glb
open Go
set_option maxRecDepth 10000
set_option maxHeartbeats 16000000

end Glb

/-
  An image behind any changes: the law ImageTurns.
-/
namespace Glb
open Go
set_option maxRecDepth 10000
set_option maxHeartbeats 16000000

theorem ints_ty {l : List Int} (hl : l.length ≤ 2^40) : HasTy (dInts l) intsTy := by
  refine ⟨_, rfl, by simpa using hl, HasTyLL_mk fun d hd => ?_⟩
  obtain ⟨n, -, rfl⟩ := List.mem_map.1 hd
  exact ⟨_, _, rfl, rfl, rfl⟩
theorem hard_ty {x : Hard} (h : x.few) : HasTyL x.c hardTyI :=
  ⟨_, _, rfl, rfl, _, _, rfl, rfl, _, _, rfl, rfl, _, _, rfl, rfl, _, _, rfl, rfl, _, _, rfl, entries_ty h.1, _, _, rfl, ints_ty h.2.1.1, _, _, rfl, ints_ty h.2.1.2.1, _, _, rfl, ints_ty h.2.1.2.2, _, _, rfl, bytes_ty h.2.2, rfl⟩
theorem vote_ty (v : Vote) : HasTyL v.c voteTy := ⟨_, _, rfl, rfl, _, _, rfl, rfl, _, _, rfl, rfl, _, _, rfl, rfl, _, _, rfl, rfl, rfl⟩
theorem image_ty {x : Image} (h : x.few) : HasTyL x.c imageTy := by
  refine ⟨_, _, rfl, ⟨_, rfl, by have := h.1; simp; omega, HasTyLL_mk fun d hd => ?_⟩, _, _, rfl, ⟨_, rfl, by have := h.2.1; simp; omega, HasTyLL_mk fun d hd => ?_⟩, rfl⟩
  · obtain ⟨n, hn, rfl⟩ := List.mem_map.1 hd
    exact hard_ty (h.2.2 n hn)
  · obtain ⟨n, hn, rfl⟩ := List.mem_map.1 hd
    exact vote_ty n
theorem change_ty {x : Change} (h : x.few) : HasTyL x.c changeTy :=
  ⟨_, _, rfl, rfl, _, _, rfl, rfl, _, _, rfl, rfl, _, _, rfl, rfl, _, _, rfl, rfl, _, _, rfl, rfl, _, _, rfl, rfl, _, _, rfl, entries_ty h.1, _, _, rfl, ints_ty h.2.1.1, _, _, rfl, ints_ty h.2.1.2.1, _, _, rfl, ints_ty h.2.1.2.2, _, _, rfl, bytes_ty h.2.2, _, _, rfl, rfl, _, _, rfl, rfl, _, _, rfl, rfl, _, _, rfl, rfl, _, _, rfl, rfl, rfl⟩

end Glb
