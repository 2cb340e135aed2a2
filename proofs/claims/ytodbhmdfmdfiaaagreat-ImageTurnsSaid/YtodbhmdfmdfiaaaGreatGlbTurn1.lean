/-
  The document's Hard behind a change; copies of entries and changes.
-/
import Derived.Test.YtodbhmdfmdfiaaaGreatGlbLaw13e
set_option linter.unusedSimpArgs false
set_option linter.unusedVariables false
namespace Glb
open Go
set_option maxRecDepth 10000
set_option maxHeartbeats 16000000

/-- a row of its own, what is in it stays -/
def CopyEntriesO (P : Program) (f : FuncId) : Prop :=
  isFn P f = true ∧ ∀ (F : Nat → Prop) (h : AHeap) (x : List Entry) (a : AV), Rd F h (dEntries x) a → SmallEntries x →
    ACalls P f [a] h fun r h' => OwnO h.length h' 3 r (D.avLL (x.map Entry.c)) ∧ Ext nof h h'

theorem CopyEntries_o {P : Program} {f g : FuncId} (hf : Is P f (c_glebekit_CopyEntries g)) (hg : CopyOk P g .u8) : CopyEntriesO P f := by
  refine ⟨hf.2, fun F h x a hx hl => fun_sound hf.1 (Nat.le_of_ble_eq_true rfl) ?_⟩
  show vc P (c_glebekit_CopyEntries g).code ⟨[(0, a)], [], h⟩ (atEnd (c_glebekit_CopyEntries g).res _)
  have lx := hx.len
  simp only [List.length_map] at lx
  have hl1 := hl.1
  simp only [c_glebekit_CopyEntries, go_sem, reduceIte, Nat.reduceEqDiff, Nat.reduceAdd, Nat.reduceLeDiff, Nat.reducePow, Nat.reduceDiv, Nat.reduceMod, decide_true]
  obtain ⟨I, hI⟩ : ∃ I : Nat → Env → AHeap → Prop, ∀ m L h', I m L h' ↔ ∃ (i : Nat) (o : AV), lk 0 L = a ∧ lk 3 L = o ∧ lk 4 L = .int .i64 i ∧ i ≤ x.length ∧ m = x.length - i ∧
    OwnO h.length h' 3 o (D.avLL ((x.take i).map Entry.c)) ∧ Ext nof h h' := ⟨_, fun _ _ _ => Iff.rfl⟩
  refine vc_loop I x.length ((hI _ _ _).2 ⟨0, .nils, by simp [lk_ins, lk_cons], by simp [lk_ins, lk_cons], by simp [lk_ins], by omega, by omega, .inl ⟨rfl, by simp [D.avLL]⟩, Ext.refl _ _⟩) ?_
  intro m L h' hh
  obtain ⟨i, o, h0, h3, h4, hi, rfl, ho, he⟩ := (hI _ _ _).1 hh
  simp only [c_glebekit_CopyEntries_l0, go_sem, reduceIte, Nat.reduceEqDiff, Nat.reduceAdd, Nat.reduceLeDiff, Nat.reducePow, Nat.reduceDiv, Nat.reduceMod, decide_true, lx, h0, h3, h4]
  refine wCond_split (fun ci => ?_) (fun ci => ?_)
  · simp at ci
    obtain ⟨p, cs, hp, hpc, hcs⟩ := (hx.up he).index .i64 (i := i) (d := x[i].c) (by omega) (by simp [ci])
    simp only [Entry.c, RdL, Rd] at hcs
    obtain ⟨_, _, rfl, rfl, _, _, rfl, rfl, d, _, rfl, hd, rfl⟩ := hcs
    have e : IntKind.i64.wrap (↑i + 1) = (i : Int) + 1 := wrap_i64 (by omega)
    have hpc1 := pup hpc (Ext.b1 none)
    simp only [go_sem, reduceIte, Nat.reduceEqDiff, Nat.reduceAdd, Nat.reduceLeDiff, Nat.reducePow, Nat.reduceDiv, Nat.reduceMod, decide_true, h0, h3, h4, e, hp, afield_p hpc, aload_off hpc1, notRes_of hpc]
    refine use1 hg.1 (hg.gb (hd.up (Ext.b1 none)) (hl.2 _ (by simp))) ?_
    have hs : (h' ++ [some (.arr 3 [x[i].v] false)])[h'.length]? = some (some (.arr 3 [x[i].v] false)) := bx10 _ _
    have hpc3 := pup hpc (Ext.b1 (some (.arr 3 [x[i].v] false)))
    have tk : D.avLL ((x.take (i + 1)).map Entry.c) = D.avLL ((x.take i).map Entry.c) ++ [x[i].v] := by
      rw [List.take_succ_eq_append_getElem ci, avLL_map, avLL_map]; simp only [List.map_append, List.map_cons, List.map_nil]; rfl
    obtain ⟨o2, h4', s1, s2, s3⟩ := acc_app (bytes := 40) (h := h' ++ [some (.arr 3 [x[i].v] false)]) (ys := [x[i].v]) ho (Ext.b1 _) he.1 (by simp [avLL_length]; omega)
    rw [← aappend_of (aelems_new h' 3 [x[i].v] false (some 1) (len := 1) rfl)] at s1
    have sb := scalar_abytes x[i].data
    rw [Entry.v_eq] at s1 hs hpc3
    simp only [go_sem, reduceIte, Nat.reduceEqDiff, Nat.reduceAdd, Nat.reduceLeDiff, Nat.reducePow, Nat.reduceDiv, Nat.reduceMod, decide_true, h0, h3, h4, e, aload_off hpc1, aload_off hpc3, sb, cells_of sb, s1]
    exact ⟨_, by omega, (hI _ _ _).2 ⟨i + 1, o2, by simp [lk_ins, h0], by simp [lk_ins], by simp [lk_ins], ci, rfl, by rw [tk]; exact s2, (he.tr (Ext.b1 _)).then s3 (fun m hm hm' => by omega)⟩⟩
  · simp at ci
    simp only [go_sem, reduceIte, Nat.reduceEqDiff, Nat.reduceAdd, Nat.reduceLeDiff, Nat.reducePow, Nat.reduceDiv, Nat.reduceMod, decide_true, h3]
    obtain rfl : i = x.length := by omega
    rw [List.take_length] at ho
    exact ⟨ho, he⟩

def CopyChangeP (P : Program) (f : FuncId) : Prop := isFn P f = true ∧ ∀ (F : Nat → Prop) (h : AHeap) (x : Change) (a : List AV), RdL F h x.c a → x.few → ACalls P f [.agg a] h fun r h' => r = .agg x.v ∧ h' = h

theorem CopyChange_p {P : Program} {f g k b : FuncId} (hf : Is P f (c_glebekit_CopyChange g k b)) (hg : CopyLogOk P g) (hk : CopyConfOk P k) (hb : CopyOk P b .u8) : CopyChangeP P f := by
  refine ⟨hf.2, fun F h x a ha hx => obs (upto_aggD _ _) (fun_sound hf.1 (Nat.le_of_ble_eq_true rfl) ?_)⟩
  show vc P (c_glebekit_CopyChange g k b).code ⟨[(0, .agg a)], [], h⟩ (atEnd (c_glebekit_CopyChange g k b).res _)
  obtain ⟨e, o, n, d, s, rfl, he, ho, hn, hd, hs⟩ := rd_changeL ha
  simp only [c_glebekit_CopyChange, Change.cells, go_sem, reduceIte, Nat.reduceEqDiff, Nat.reduceAdd, Nat.reduceLeDiff, Nat.reducePow, Nat.reduceDiv, Nat.reduceMod, decide_true, he.scalar, ho.scalar, hn.scalar, hd.scalar, hs.scalar]
  have e1 := fun H (e : Ext nof h H) => hg.g ((log_rd he).up e) hx.1
  simp only [Log.v_eq] at e1
  refine use1 hg.1 (e1 _ (Ext.b2 _ _)) ?_
  simp only [go_sem, reduceIte, Nat.reduceEqDiff, Nat.reduceAdd, Nat.reduceLeDiff, Nat.reducePow, Nat.reduceDiv, Nat.reduceMod, decide_true]
  have e2 := fun H (e : Ext nof h H) => hk.g ((conf_rd ho hn hd).up e) hx.2.1
  simp only [Conf.v_eq] at e2
  refine use1 hk.1 (e2 _ (Ext.b2 _ _)) ?_
  simp only [go_sem, reduceIte, Nat.reduceEqDiff, Nat.reduceAdd, Nat.reduceLeDiff, Nat.reducePow, Nat.reduceDiv, Nat.reduceMod, decide_true]
  refine use1 hb.1 (hb.gb (hs.up (Ext.b2 _ _)) hx.2.2) ?_
  simp only [go_sem, reduceIte, Nat.reduceEqDiff, Nat.reduceAdd, Nat.reduceLeDiff, Nat.reducePow, Nat.reduceDiv, Nat.reduceMod, decide_true, Change.v_eq, Change.cells]
  exact ⟨rfl, Ext.b2 _ _⟩

def SnappedP (P : Program) (f : FuncId) : Prop := isFn P f = true ∧ ∀ (F : Nat → Prop) (h : AHeap) (x : Hard) (c : Change) (a : List AV), RdL F h x.log.c a → LogOk x.log →
  ACalls P f [.agg a, .int .i64 c.log.base, .int .i64 c.log.bterm] h fun r h' => r = .agg (x.snapped c).v ∧ h' = h

theorem CutOk.p {P : Program} {f : FuncId} (hc : CutOk P f) {F : Nat → Prop} {h : AHeap} {l : Log} {a : List AV} {i : Int} (ha : RdL F h l.c a) (hl : LogOk l) :
    ACalls P f [.agg a, .int .i64 i] h fun r h' => r = .tup [.agg (l.cut i).v, .int .i64 (if l.has i then 0 else 3)] ∧ h' = h :=
  (hc.2 F h l a i ha hl).freeze fun _ _ ⟨_, h1, h2, h3⟩ => ⟨h3, _, h1 ▸ Frz.tup2 (Frz.aggD (OwnL.fz _ (fun _ x => x) _ h2)) (Frz.int _ _), rfl⟩

theorem fz_nil0 (k : Nat) (h : AHeap) (sz : Nat) : Fz k h (.sl sz []) .nils := by simp only [Fz]; exact .inl ⟨trivial, trivial⟩
theorem fz_i64 (k : Nat) (h : AHeap) (n : Int) : Fz k h (.int .i64 n) (.int .i64 n) := by simp only [Fz]
theorem OwnO.ds {lo : Nat} {h : AHeap} {sz : Nat} {a : AV} {es es' : List (List AV)} (ho : OwnO lo h sz a es) (e : es' = es) : OwnO lo h sz a es' := e ▸ ho
theorem Snapped_ok {P : Program} {f g k : FuncId} (hf : Is P f (c_gleberef13_Snapped g k)) (hg : TermOk P g) (hk : CutOk P k) : SnappedP P f := by
  refine ⟨hf.2, fun F h x c a ha hx => ?_⟩
  refine ACalls.freeze (K := fun r h' => ∃ cs, r = .agg cs ∧ FzL h.length h' (x.snapped c).c cs ∧ Ext nof h h') (fun_sound hf.1 (Nat.le_of_ble_eq_true rfl) ?_) (fun _ _ ⟨_, e, hz, hx⟩ => ⟨hx, _, e ▸ Frz.aggD hz, rfl⟩)
  show vc P (c_gleberef13_Snapped g k).code ⟨[(0, .agg a), (1, .int .i64 c.log.base), (2, .int .i64 c.log.bterm)], [], h⟩ (atEnd (c_gleberef13_Snapped g k).res _)
  have ha0 := fun H (e : Ext nof h H) => ha.up e
  simp only [Log.c, RdL, Rd] at ha
  obtain ⟨_, _, rfl, rfl, _, _, rfl, rfl, d, _, rfl, hd, rfl⟩ := ha
  simp only [c_gleberef13_Snapped, go_sem, reduceIte, Nat.reduceEqDiff, Nat.reduceAdd, Nat.reduceLeDiff, Nat.reducePow, Nat.reduceDiv, Nat.reduceMod, decide_true, hd.scalar]
  have B0 := bx20 h (some (ABlk.arr 3 [[AV.int IntKind.i64 x.log.base, AV.int IntKind.i64 x.log.bterm, d]] false)) (some (ABlk.arr 3 [[AV.int IntKind.i64 0, AV.int IntKind.i64 0, AV.nils]] false))
  have B1 := bx21 h (some (ABlk.arr 3 [[AV.int IntKind.i64 x.log.base, AV.int IntKind.i64 x.log.bterm, d]] false)) (some (ABlk.arr 3 [[AV.int IntKind.i64 0, AV.int IntKind.i64 0, AV.nils]] false))
  have X0 := Ext.b2 (h := h) (some (ABlk.arr 3 [[AV.int IntKind.i64 x.log.base, AV.int IntKind.i64 x.log.bterm, d]] false)) (some (ABlk.arr 3 [[AV.int IntKind.i64 0, AV.int IntKind.i64 0, AV.nils]] false))
  generalize h ++ [some (ABlk.arr 3 [[AV.int IntKind.i64 x.log.base, AV.int IntKind.i64 x.log.bterm, d]] false)] ++ [some (ABlk.arr 3 [[AV.int IntKind.i64 0, AV.int IntKind.i64 0, AV.nils]] false)] = H at *
  refine use1 hg.1 (hg.2 F H x.log _ c.log.base (ha0 H X0) hx) ?_
  have l0 := (List.getElem?_eq_some_iff.1 B0).1
  have l1 := (List.getElem?_eq_some_iff.1 B1).1
  have no : ¬ (x.log.has c.log.base = true ∧ x.log.term c.log.base = c.log.bterm) → ∀ H', FzL h.length H' (x.snapped c).c [.int .i64 c.log.base, .int .i64 c.log.bterm, .nils] := fun hn H' => by
    have es : x.snapped c = ⟨c.log.base, c.log.bterm, []⟩ := by simp only [Hard.snapped]; rw [if_neg hn]
    rw [es]
    exact ⟨_, _, rfl, fz_i64 _ _ _, _, _, rfl, fz_i64 _ _ _, _, _, rfl, fz_nil0 _ _ _, rfl⟩
  cases c1 : x.log.has c.log.base with
  | true =>
    by_cases c2 : x.log.term c.log.base = c.log.bterm
    · simp only [go_sem, reduceIte, Nat.reduceEqDiff, Nat.reduceAdd, Nat.reduceLeDiff, Nat.reducePow, Nat.reduceDiv, Nat.reduceMod, decide_true, c2, B0, B1, l0, l1]
      refine use1 hk.1 (hk.p (ha0 H X0) hx) ?_
      have es : x.snapped c = x.log.cut c.log.base := by simp [Hard.snapped, c1, c2]
      have sc := scalar_aentries (x.log.cut c.log.base).es
      have C1 := (Ext.b1 (some (ABlk.arr 3 [[AV.int IntKind.i64 (x.log.cut c.log.base).base, AV.int IntKind.i64 (x.log.cut c.log.base).bterm, aentries (x.log.cut c.log.base).es]] false))).get B1
      have n10 : (H.length = h.length + 1) = False := eq_false (by omega)
      simp only [go_sem, reduceIte, Nat.reduceEqDiff, Nat.reduceAdd, Nat.reduceLeDiff, Nat.reducePow, Nat.reduceDiv, Nat.reduceMod, decide_true, es, Log.v_eq, sc, cells_of sc, c1, C1, l1, n10, List.length_set]
      refine ⟨_, rfl, ?_, (X0.tr (Ext.b1 _)).setNew (by omega) _⟩
      rw [← Log.v_eq]; exact fzL_self _ _ _
    · simp only [go_sem, reduceIte, Nat.reduceEqDiff, Nat.reduceAdd, Nat.reduceLeDiff, Nat.reducePow, Nat.reduceDiv, Nat.reduceMod, decide_true, decide_eq_false c2, B0, B1, l0, l1, List.length_set]
      exact ⟨_, rfl, no (fun hh => c2 hh.2) _, X0.setNew (by omega) _⟩
  | false =>
    simp only [go_sem, reduceIte, Nat.reduceEqDiff, Nat.reduceAdd, Nat.reduceLeDiff, Nat.reducePow, Nat.reduceDiv, Nat.reduceMod, decide_true, B0, B1, l0, l1, List.length_set]
    exact ⟨_, rfl, no (fun hh => by rw [c1] at hh; cases hh.1) _, X0.setNew (by omega) _⟩

theorem hard_fz {k : Nat} {h : AHeap} {x : Hard} {e o n l s : AV} (he : Fz k h (dEntries x.log.es) e) (ho : Fz k h (dInts x.conf.old) o) (hn : Fz k h (dInts x.conf.new) n) (hl : Fz k h (dInts x.conf.learners) l) (hs : Fz k h (dBytes x.snap) s) : FzL k h x.c (x.cells e o n l s) :=
  ⟨_, _, rfl, fz_i64 _ _ _, _, _, rfl, fz_i64 _ _ _, _, _, rfl, fz_i64 _ _ _, _, _, rfl, fz_i64 _ _ _, _, _, rfl, fz_i64 _ _ _, _, _, rfl, he, _, _, rfl, ho, _, _, rfl, hn, _, _, rfl, hl, _, _, rfl, hs, rfl⟩
theorem hard_fz0 (k : Nat) (h : AHeap) (x : Hard) : FzL k h x.c (x.cells (aentries x.log.es) (aints x.conf.old) (aints x.conf.new) (aints x.conf.learners) (abytes x.snap)) :=
  hard_fz (fz_self _ _ _) (fz_self _ _ _) (fz_self _ _ _) (fz_self _ _ _) (fz_self _ _ _)

def TurnedP (P : Program) (f : FuncId) : Prop := isFn P f = true ∧ ∀ (F : Nat → Prop) (h : AHeap) (x : Hard) (c : Change) (as cs : List AV), RdL F h x.c as → RdL F h c.c cs → x.few → c.few → LogOk x.log → 1 ≤ c.kind → c.kind ≤ 3 →
  ACalls P f [.agg as, .agg cs] h fun r h' => r = .tup [.agg (x.turned c).1.v, .bool (decide ((x.turned c).2 = 0))] ∧ h' = h

theorem Turned_ok {P : Program} {f ch cc la ce sn : FuncId} (hf : Is P f (c_gleberef13_Turned ch cc la ce sn)) (hch : CopyHardG P ch) (hcc : CopyChangeP P cc) (hla : LastOk P la) (hce : CopyEntriesO P ce) (hsn : SnappedP P sn) : TurnedP P f := by
  refine ⟨hf.2, fun F h x c as cs ha hc hx hcf hlog hk1 hk3 => ?_⟩
  refine ACalls.freeze (K := fun r h' => ∃ zs, r = .tup [.agg zs, .bool (decide ((x.turned c).2 = 0))] ∧ FzL h.length h' (x.turned c).1.c zs ∧ Ext nof h h') (fun_sound hf.1 (Nat.le_of_ble_eq_true rfl) ?_) (fun _ _ ⟨_, e, hz, hx⟩ => ⟨hx, _, e ▸ Frz.tup2 (Frz.aggD hz) (Frz.bool _), rfl⟩)
  show vc P (c_gleberef13_Turned ch cc la ce sn).code ⟨[(0, .agg as), (1, .agg cs)], [], h⟩ (atEnd (c_gleberef13_Turned ch cc la ce sn).res _)
  have ha0 := fun H (e : Ext nof h H) => ha.up e
  have hc0 := fun H (e : Ext nof h H) => hc.up e
  obtain ⟨e1, o1, n1, d1, s1, rfl, he1, ho1, hn1, hd1, hs1⟩ := rd_hard ha
  obtain ⟨e2, o2, n2, d2, s2, rfl, he2, ho2, hn2, hd2, hs2⟩ := rd_changeL hc
  simp only [Hard.cells] at ha0
  simp only [Change.cells] at hc0
  simp only [c_gleberef13_Turned, Hard.cells, Change.cells, go_sem, reduceIte, Nat.reduceEqDiff, Nat.reduceAdd, Nat.reduceLeDiff, Nat.reducePow, Nat.reduceDiv, Nat.reduceMod, decide_true, he1.scalar, ho1.scalar, hn1.scalar, hd1.scalar, hs1.scalar, he2.scalar, ho2.scalar, hn2.scalar, hd2.scalar, hs2.scalar]
  refine use1 hch.1 (hch.2 F _ x _ (ha0 _ (Ext.b3 _ _ _)) hx) ?_
  have q1 := scalar_aentries x.log.es
  have q2 := scalar_aints x.conf.old
  have q3 := scalar_aints x.conf.new
  have q4 := scalar_aints x.conf.learners
  have q5 := scalar_abytes x.snap
  have r1 := av_scalar (dEntries c.log.es)
  have r2 := av_scalar (dInts c.conf.old)
  have r3 := av_scalar (dInts c.conf.new)
  have r4 := av_scalar (dInts c.conf.learners)
  have r5 := av_scalar (dBytes c.snap)
  simp only [go_sem, reduceIte, Nat.reduceEqDiff, Nat.reduceAdd, Nat.reduceLeDiff, Nat.reducePow, Nat.reduceDiv, Nat.reduceMod, decide_true, Hard.v_eq, Change.v_eq, Change.cells, q1, q2, q3, q4, q5]
  refine use1 hcc.1 (hcc.2 F _ c _ (hc0 _ (Ext.b3 _ _ _)) hcf) ?_
  simp only [go_sem, reduceIte, Nat.reduceEqDiff, Nat.reduceAdd, Nat.reduceLeDiff, Nat.reducePow, Nat.reduceDiv, Nat.reduceMod, decide_true, Change.v_eq, Change.cells, r1, r2, r3, r4, r5]
  generalize hX : ABlk.arr 10 [[AV.int IntKind.i64 x.group, AV.int IntKind.i64 x.term, AV.int IntKind.i64 x.vote, AV.int IntKind.i64 x.log.base, AV.int IntKind.i64 x.log.bterm, aentries x.log.es, aints x.conf.old, aints x.conf.new, aints x.conf.learners, abytes x.snap]] false = XB
  generalize hC : ABlk.arr 17 [[AV.int IntKind.i64 c.kind, AV.int IntKind.i64 c.group, AV.int IntKind.i64 c.term, AV.int IntKind.i64 c.voted, AV.int IntKind.i64 c.from_, AV.int IntKind.i64 c.log.base, AV.int IntKind.i64 c.log.bterm, (dEntries c.log.es).av, (dInts c.conf.old).av, (dInts c.conf.new).av, (dInts c.conf.learners).av, (dBytes c.snap).av, AV.int IntKind.i64 c.vote.txn, AV.int IntKind.i64 c.vote.part, AV.int IntKind.i64 c.vote.promised, AV.int IntKind.i64 c.vote.ballot, AV.int IntKind.i64 c.vote.value]] false = CB
  generalize hZ : ABlk.arr 10 [[.int .i64 0, .int .i64 0, .int .i64 0, .int .i64 0, .int .i64 0, .nils, .nils, .nils, .nils, .nils]] false = ZB
  have B0 := bx30 h (some XB) (some CB) (some ZB)
  have B1 := bx31 h (some XB) (some CB) (some ZB)
  have B2 := bx32 h (some XB) (some CB) (some ZB)
  have X0 := Ext.b3 (h := h) (some XB) (some CB) (some ZB)
  generalize h ++ [some XB] ++ [some CB] ++ [some ZB] = H at *
  subst hX; subst hC; subst hZ
  have l0 := (List.getElem?_eq_some_iff.1 B0).1
  have l1 := (List.getElem?_eq_some_iff.1 B1).1
  have l2 := (List.getElem?_eq_some_iff.1 B2).1
  have n02 : (h.length = h.length + 1 + 1) = False := eq_false (by omega)
  have n20 : (h.length + 1 + 1 = h.length) = False := eq_false (by omega)
  have n01 : (h.length = h.length + 1) = False := eq_false (by omega)
  have n10 : (h.length + 1 = h.length) = False := eq_false (by omega)
  have n12 : (h.length + 1 = h.length + 1 + 1) = False := eq_false (by omega)
  have n21 : (h.length + 1 + 1 = h.length + 1) = False := eq_false (by omega)
  have put : ∀ (H : AHeap) (y z : Option ABlk), Ext nof h H → Ext nof h ((H.set h.length y).set (h.length + 1 + 1) z) := fun H y z e => (e.setNew (Nat.le_refl _) _).setNew (by omega) _
  have hR : ∀ H, RdL (fun _ => True) H x.log.c [.int .i64 x.log.base, .int .i64 x.log.bterm, aentries x.log.es] := fun H => ⟨_, _, rfl, by simp only [Rd], _, _, rfl, by simp only [Rd], _, _, rfl, rd_av _ _ _, rfl⟩
  obtain ⟨b0, b1, hsm⟩ := hlog
  have hlast : x.log.last = x.log.base + x.log.es.length := rfl
  have hsl := hsm.1
  by_cases k1 : c.kind = 1
  · have eg : x.turned c = ({ x with term := c.term, vote := c.voted }, 0) := by simp [Hard.turned, k1]
    simp only [go_sem, reduceIte, Nat.reduceEqDiff, Nat.reduceAdd, Nat.reduceLeDiff, Nat.reducePow, Nat.reduceDiv, Nat.reduceMod, decide_true, decide_eq_true k1, B0, B1, B2, l0, l1, l2, n02, n20, n01, n10, n12, n21, q1, q2, q3, q4, q5, List.length_set, eg]
    exact ⟨_, rfl, hard_fz0 _ _ { x with term := c.term, vote := c.voted }, ((X0.setNew (Nat.le_refl _) _).setNew (Nat.le_refl _) _).setNew (by omega) _⟩
  by_cases k2 : c.kind = 2
  · simp only [go_sem, reduceIte, Nat.reduceEqDiff, Nat.reduceAdd, Nat.reduceLeDiff, Nat.reducePow, Nat.reduceDiv, Nat.reduceMod, decide_true, decide_eq_false k1, decide_eq_true k2, B0, B1, B2, l0, l1, l2]
    refine use1 hla.1 (hla.2 _ H x.log _ (hR H) ⟨b0, b1, hsm⟩) ?_
    have e1 : IntKind.i64.wrap (x.log.last + 1) = x.log.last + 1 := wrap_i64 (by omega)
    by_cases c1 : c.from_ ≤ x.log.base
    · have eg : x.turned c = (x, 3) := by simp [Hard.turned, k2, c1]
      have n30 : decide ((3 : Int) = 0) = false := rfl
      simp only [go_sem, reduceIte, Nat.reduceEqDiff, Nat.reduceAdd, Nat.reduceLeDiff, Nat.reducePow, Nat.reduceDiv, Nat.reduceMod, decide_true, decide_eq_true c1, B0, B1, B2, l0, l1, l2, q1, q2, q3, q4, q5, eg, n30]
      exact ⟨_, rfl, hard_fz0 _ _ x, X0.setNew (by omega) _⟩
    by_cases c2 : x.log.last + 1 < c.from_
    · have eg : x.turned c = (x, 3) := by simp [Hard.turned, k2, c2]
      have n30 : decide ((3 : Int) = 0) = false := rfl
      simp only [go_sem, reduceIte, Nat.reduceEqDiff, Nat.reduceAdd, Nat.reduceLeDiff, Nat.reducePow, Nat.reduceDiv, Nat.reduceMod, decide_true, decide_eq_false c1, e1, decide_eq_true c2, B0, B1, B2, l0, l1, l2, q1, q2, q3, q4, q5, eg, n30]
      exact ⟨_, rfl, hard_fz0 _ _ x, X0.setNew (by omega) _⟩
    have e2 : IntKind.i64.wrap (c.from_ - x.log.base) = c.from_ - x.log.base := wrap_i64 (by omega)
    have e3 : IntKind.i64.wrap (c.from_ - x.log.base - 1) = c.from_ - x.log.base - 1 := wrap_i64 (by omega)
    have eg : x.turned c = ({ x with log := ⟨x.log.base, x.log.bterm, x.log.es.take (c.from_ - x.log.base - 1).toNat ++ c.log.es⟩ }, 0) := by simp [Hard.turned, k2, c1, c2]
    obtain ⟨a1, s1, s2⟩ := Rd.slice (F := fun _ => True) (h := H) (rd_av (fun _ => True) H (dEntries x.log.es)) (lo := none) (hi := some (c.from_ - x.log.base - 1)) (mx := none) (by simp) (by simp; omega) (by simp; omega) (by simp) (by simp; omega) (by simp)
    simp only [Option.getD_some, Option.getD_none, Int.toNat_zero, List.drop_zero, ← List.map_take] at s2
    change aslice 3 (aentries x.log.es) _ _ _ = some a1 at s1
    change Rd (fun _ => True) H (dEntries (x.log.es.take (c.from_ - x.log.base - 1).toNat)) a1 at s2
    simp only [go_sem, reduceIte, Nat.reduceEqDiff, Nat.reduceAdd, Nat.reduceLeDiff, Nat.reducePow, Nat.reduceDiv, Nat.reduceMod, decide_true, decide_eq_false c1, e1, decide_eq_false c2, e2, e3, B0, B1, B2, aslc, s1]
    refine wCall_use ⟨hce.1, hce.2 _ H _ a1 s2 ⟨by have := hsm.1; simp; omega, fun e he => hsm.2 e (List.mem_of_mem_take he)⟩⟩ ?_
    rintro o H2 ⟨hO, X2⟩
    have ye : aelems H2 3 ((dEntries c.log.es).av) = some (D.avLL (c.log.es.map Entry.c)) := by
      simp [dEntries, D.av, aelems]
    have C0 := X2.get B0
    have C1 := X2.get B1
    have C2 := X2.get B2
    have lx2 := X2.1
    have hcl := hcf.1.1
    obtain ⟨o4, H4, t1, t2, t3⟩ := acc_app (bytes := 40) (h := H2) (ys := D.avLL (c.log.es.map Entry.c)) hO (Ext.refl _ _) X2.1 (by simp [avLL_length]; omega)
    rw [← aappend_of ye] at t1
    have lx3 := t3.1
    have D0 := (t3.2 _ (by omega) (by omega)).trans C0
    have D1 := (t3.2 _ (by omega) (by omega)).trans C1
    have D2 := (t3.2 _ (by omega) (by omega)).trans C2
    have m0 : h.length < H4.length := by omega
    have m2 : h.length + 1 + 1 < H4.length := by omega
    simp only [go_sem, reduceIte, Nat.reduceEqDiff, Nat.reduceAdd, Nat.reduceLeDiff, Nat.reducePow, Nat.reduceDiv, Nat.reduceMod, decide_true, B0, B1, B2, C0, C1, C2, D0, D1, D2, t1, m0, m2, n02, n20, n01, n10, n12, n21, t2.scalar, cells_of t2.scalar, q1, q2, q3, q4, q5, List.length_set, eg]
    refine ⟨_, rfl, hard_fz (x := { x with log := ⟨x.log.base, x.log.bterm, x.log.es.take (c.from_ - x.log.base - 1).toNat ++ c.log.es⟩ }) (OwnO.fz (((t2.setq (by omega) _).setq (by omega) _).ds ?_) (by omega)) (fz_self _ _ _) (fz_self _ _ _) (fz_self _ _ _) (fz_self _ _ _), (((X0.tr X2).trans t3 (fun _ _ x => x) (fun m hm hm' => by omega)).setNew (Nat.le_refl _) _).setNew (by omega) _⟩
    simp [avLL_map]
  · have k3 : c.kind = 3 := by omega
    have eg : x.turned c = ({ x with log := x.snapped c, conf := c.conf, snap := c.snap }, 0) := by simp [Hard.turned, k3]
    simp only [go_sem, reduceIte, Nat.reduceEqDiff, Nat.reduceAdd, Nat.reduceLeDiff, Nat.reducePow, Nat.reduceDiv, Nat.reduceMod, decide_true, decide_eq_false k1, decide_eq_false k2, B0, B1, B2, l0, l1, l2]
    refine use1 hsn.1 (hsn.2 _ H x c _ (hR H) ⟨b0, b1, hsm⟩) ?_
    have sc := scalar_aentries (x.snapped c).es
    simp only [go_sem, reduceIte, Nat.reduceEqDiff, Nat.reduceAdd, Nat.reduceLeDiff, Nat.reducePow, Nat.reduceDiv, Nat.reduceMod, decide_true, Log.v_eq, sc, cells_of sc, B0, B1, B2, l0, l1, l2, n02, n20, n01, n10, n12, n21, r2, r3, r4, r5, cells_of r2, cells_of r3, cells_of r4, cells_of r5, q1, q2, q3, q4, q5, List.length_set, eg]
    exact ⟨_, rfl, hard_fz (x := { x with log := x.snapped c, conf := c.conf, snap := c.snap }) (fz_self _ _ _) (fz_self _ _ _) (fz_self _ _ _) (fz_self _ _ _) (fz_self _ _ _), (((X0.setNew (Nat.le_refl _) _).setNew (Nat.le_refl _) _).setNew (Nat.le_refl _) _).setNew (by omega) _⟩

end Glb
