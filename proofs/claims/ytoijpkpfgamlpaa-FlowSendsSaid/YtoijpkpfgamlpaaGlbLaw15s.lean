/-
  The statement on what is to be sent.
-/
import Derived.Test.YtoijpkpfgamlpaaGlbFlow2
set_option linter.unusedSimpArgs false
set_option linter.unusedVariables false
namespace Glb
open Go
set_option maxRecDepth 10000
set_option maxHeartbeats 4000000

theorem old1 {H : AHeap} {n : Nat} {x : Option ABlk} (hn : H[n]? = some x) (y : AHeap) : (H ++ y)[n]? = some x := by
  rw [List.getElem?_append_left (List.getElem?_eq_some_iff.1 hn).1]; exact hn
theorem old2 {H : AHeap} {n : Nat} {x : Option ABlk} (hn : H[n]? = some x) (y z : AHeap) : (H ++ y ++ z)[n]? = some x := old1 (old1 hn y) z
theorem old3 {H : AHeap} {n : Nat} {x : Option ABlk} (hn : H[n]? = some x) (y z u : AHeap) : (H ++ y ++ z ++ u)[n]? = some x := old1 (old2 hn y z) u

def msgT : List Ty := [.int .i64, .int .i64, .int .i64, .int .i64, .int .i64, .int .i64, .int .i64, .int .i64, .int .i64, .int .i64, .int .i64, .int .i64, .int .i64, .int .i64, .bool, .sl 3 entryT, .sl 1 [.int .u8]]

theorem OwnTL_int {k : IntKind} {ts : List Ty} {F : Nat → Prop} {h : AHeap} {l : List AV} : OwnTL (.int k :: ts) F h l ↔ ∃ n r, l = .int k n :: r ∧ OwnTL ts F h r := by
  simp only [OwnTL, OwnT]
  constructor
  · rintro ⟨a, r, rfl, ⟨n, rfl⟩, h2⟩; exact ⟨n, r, rfl, h2⟩
  · rintro ⟨n, r, rfl, h2⟩; exact ⟨_, r, rfl, ⟨n, rfl⟩, h2⟩
theorem OwnTL_bool {ts : List Ty} {F : Nat → Prop} {h : AHeap} {l : List AV} : OwnTL (.bool :: ts) F h l ↔ ∃ n r, l = .bool n :: r ∧ OwnTL ts F h r := by
  simp only [OwnTL, OwnT]
  constructor
  · rintro ⟨a, r, rfl, ⟨n, rfl⟩, h2⟩; exact ⟨n, r, rfl, h2⟩
  · rintro ⟨n, r, rfl, h2⟩; exact ⟨_, r, rfl, ⟨n, rfl⟩, h2⟩

theorem msg_ownT {F : Nat → Prop} {h : AHeap} {l : List AV} : OwnTL msgT F h l ↔ ∃ (m : Msg) (e d : AV), l = m.cells e d ∧ OwnT (.sl 3 entryT) F h e ∧ OwnT (.sl 1 [.int .u8]) F h d := by
  simp only [msgT, OwnTL_int, OwnTL_bool]
  constructor
  · rintro ⟨a1, _, rfl, a2, _, rfl, a3, _, rfl, a4, _, rfl, a5, _, rfl, a6, _, rfl, a7, _, rfl, a8, _, rfl, a9, _, rfl, a10, _, rfl, a11, _, rfl, a12, _, rfl, a13, _, rfl, a14, _, rfl, a15, _, rfl, hh⟩
    rw [OwnTL] at hh
    obtain ⟨e, r, rfl, he, hh⟩ := hh
    rw [OwnTL] at hh
    obtain ⟨d, r, rfl, hd, hh⟩ := hh
    rw [OwnTL] at hh
    subst hh
    exact ⟨⟨a1, a2, a3, a4, a5, a6, a7, a8, a9, a10, a11, a12, a13, a14, a15, [], []⟩, e, d, rfl, he, hd⟩
  · rintro ⟨m, e, d, rfl, he, hd⟩
    refine ⟨_, _, rfl, _, _, rfl, _, _, rfl, _, _, rfl, _, _, rfl, _, _, rfl, _, _, rfl, _, _, rfl, _, _, rfl, _, _, rfl, _, _, rfl, _, _, rfl, _, _, rfl, _, _, rfl, _, _, rfl, ?_⟩
    rw [OwnTL]
    refine ⟨e, _, rfl, he, ?_⟩
    rw [OwnTL]
    refine ⟨d, _, rfl, hd, ?_⟩
    rw [OwnTL]

theorem DecL_int {k : IntKind} {a b : Int} {l l' : List AV} (h : DecL l l') : DecL (.int k a :: l) (.int k b :: l') := ⟨_, _, rfl, .inr (.inl ⟨_, _, _, rfl, rfl⟩), h⟩
theorem DecL_bool {a b : Bool} {l l' : List AV} (h : DecL l l') : DecL (.bool a :: l) (.bool b :: l') := ⟨_, _, rfl, .inr (.inr (.inr ⟨_, _, rfl, rfl⟩)), h⟩

theorem SpoilMsgs_ok {P : Program} {f g k : FuncId} (hf : Is P f (c_glebekit_SpoilMsgs g k)) (hg : SpoilOk P g (.sl 3 entryT)) (hk : SpoilOk P k (.sl 1 [.int .u8])) : SpoilOk P f (.sl 17 msgT) := by
  refine ⟨hf.2, fun F h a ho => fun_sound hf.1 (Nat.le_of_ble_eq_true rfl) ?_⟩
  show vc P (c_glebekit_SpoilMsgs g k).code ⟨[(0, a)], [], h⟩ (atEnd (c_glebekit_SpoilMsgs g k).res _)
  have lx := ho.len
  simp only [c_glebekit_SpoilMsgs, go_sem, reduceIte, Nat.reduceEqDiff, Nat.reduceAdd, Nat.reduceLeDiff, Nat.reducePow, Nat.reduceDiv, Nat.reduceMod, decide_true]
  refine vc_loop (fun m L h' => ∃ (i : Nat), lk 0 L = a ∧ lk 2 L = .int .i64 i ∧ i ≤ slen a ∧ m = slen a - i ∧ Ext F h h' ∧ PresT h h') (slen a) ?_ ?_
  · exact ⟨0, by simp [lk_ins, lk_cons], by simp [lk_ins], by omega, by omega, Ext.refl _ _, PresT.refl _⟩
  · rintro m L h' ⟨i, h0, h2, hi, rfl, he, hp⟩
    simp only [c_glebekit_SpoilMsgs_l0, go_sem, reduceIte, Nat.reduceEqDiff, Nat.reduceAdd, Nat.reduceLeDiff, Nat.reducePow, Nat.reduceDiv, Nat.reduceMod, decide_true, lx, h0, h2]
    refine wCond_split (fun ci => ?_) (fun ci => ?_)
    · simp at ci
      obtain ⟨n, off, row, gr, cs, h5, h6, h7, h8, h9⟩ := (hp.1 _ _ _ ho).index ci
      obtain ⟨x, ev, dv, rfl, he9, hd9⟩ := msg_ownT.1 h9
      have hl := ho.small
      have e : IntKind.i64.wrap (↑i + 1) = (i : Int) + 1 := wrap_i64 (by omega)
      simp only [Msg.cells] at h8
      simp only [go_sem, reduceIte, Nat.reduceEqDiff, Nat.reduceAdd, Nat.reduceLeDiff, Nat.reducePow, Nat.reduceDiv, Nat.reduceMod, decide_true, h0, h2, h5, h7, h8]
      refine wCall_use ⟨hg.1, hg.2 _ h' ev he9⟩ ?_
      rintro _ h3 ⟨he3, hp3⟩
      have h73 : h3[n]? = some (some (.arr 17 row gr)) := by
        rw [he3.2 n (List.getElem?_eq_some_iff.1 h7).1 (fun x => x.2 rfl)]; exact h7
      simp only [go_sem, reduceIte, Nat.reduceEqDiff, Nat.reduceAdd, Nat.reduceLeDiff, Nat.reducePow, Nat.reduceDiv, Nat.reduceMod, decide_true, h0, h2, h5, h73, h8]
      refine wCall_use ⟨hk.1, hk.2 _ h3 dv (hp3.1 _ _ _ hd9)⟩ ?_
      rintro _ h4 ⟨he4, hp4⟩
      have h74 : h4[n]? = some (some (.arr 17 row gr)) := by
        rw [he4.2 n (List.getElem?_eq_some_iff.1 h73).1 (fun x => x.2 rfl)]; exact h73
      have hst := astore_elem (x := .agg [.int .i64 (-77), .int .i64 0, .int .i64 0, .int .i64 0, .int .i64 0, .int .i64 0, .int .i64 0, .int .i64 0, .int .i64 0, .int .i64 0, .int .i64 0, .int .i64 0, .int .i64 0, .int .i64 0, .bool false, .nils, .nils]) h74 h8 rfl rfl rfl rfl
      simp only [go_sem, reduceIte, Nat.reduceEqDiff, Nat.reduceAdd, Nat.reduceLeDiff, Nat.reducePow, Nat.reduceDiv, Nat.reduceMod, decide_true, h0, h2, h5, e, hst]
      have hdec : DecL [.int .i64 x.kind, .int .i64 x.from_, .int .i64 x.to, .int .i64 x.group, .int .i64 x.term, .int .i64 x.index, .int .i64 x.prev, .int .i64 x.commit, .int .i64 x.round, .int .i64 x.txn, .int .i64 x.part, .int .i64 x.ballot, .int .i64 x.value, .int .i64 x.seq, .bool x.ok, ev, dv]
        [.int .i64 (-77), .int .i64 0, .int .i64 0, .int .i64 0, .int .i64 0, .int .i64 0, .int .i64 0, .int .i64 0, .int .i64 0, .int .i64 0, .int .i64 0, .int .i64 0, .int .i64 0, .int .i64 0, .bool false, .nils, .nils] := by
        iterate 14 apply DecL_int
        exact DecL_bool ⟨_, _, rfl, Dec.nils he9, _, _, rfl, Dec.nils hd9, rfl⟩
      refine ⟨_, ?_, i + 1, by simp, ci, rfl, ?_, ((hp.trans hp3).trans hp4).trans (PresT.set h74 h8 hdec)⟩
      · omega
      · exact (((he.trans he3 (fun _ _ x => x) (fun _ _ x => x.1)).trans he4 (fun _ _ x => x) (fun _ _ x => x.1))).trans (Ext.set (F := F) _ (fun _ => h6)) (fun _ _ x => x) (fun _ _ x => x)
    · simp only [go_sem, reduceIte, Nat.reduceEqDiff, Nat.reduceAdd, Nat.reduceLeDiff, Nat.reducePow, Nat.reduceDiv, Nat.reduceMod, decide_true]
      exact ⟨he, hp⟩

def LogRight (x : Hard) : Prop := 0 ≤ x.log.base ∧ x.log.base ≤ 2^40 ∧ 0 ≤ x.log.bterm ∧ x.log.bterm ≤ 2^40

def RightHardOk (P : Program) (f : FuncId) : Prop :=
  isFn P f = true ∧ ∀ (h : AHeap) (x : Hard), ACalls P f [.agg x.v] h fun r h' => ∃ b, r = .bool b ∧ h' = h ∧ (b = true → LogRight x ∧ x.small 1000 65536)

theorem right_ok {P : Program} {f g : FuncId} (hf : Is P f (c_glebelaw15_right g)) (hg : BigHardOk P g) : RightHardOk P f := by
  refine ⟨hf.2, fun h x => (ACalls.trunc (K := fun r h' => Ext nof h h' ∧ ∃ b, r = .bool b ∧ (b = true → LogRight x ∧ x.small 1000 65536)) (K' := fun r => ∃ b, r = .bool b ∧ (b = true → LogRight x ∧ x.small 1000 65536)) (fun_sound hf.1 (Nat.le_of_ble_eq_true rfl) ?_)
    (fun r h' hk => ⟨hk.1, by obtain ⟨b, rfl, _⟩ := hk.2; exact upto_bool _ _, hk.2⟩)).mono fun r h' hk => let ⟨b, h1, h2⟩ := hk.2; ⟨b, h1, hk.1, h2⟩⟩
  show vc P (c_glebelaw15_right g).code ⟨[(0, .agg x.v)], [], h⟩ (atEnd (c_glebelaw15_right g).res _)
  simp only [c_glebelaw15_right, Hard.v_eq, go_sem, reduceIte, Nat.reduceEqDiff, Nat.reduceAdd, Nat.reduceLeDiff, Nat.reducePow, Nat.reduceDiv, Nat.reduceMod, decide_true]
  by_cases c1 : 0 ≤ x.log.base
  · by_cases c2 : x.log.base ≤ 1099511627776
    · by_cases c3 : 0 ≤ x.log.bterm
      · by_cases c4 : x.log.bterm ≤ 1099511627776
        · simp only [go_sem, reduceIte, Nat.reduceEqDiff, Nat.reduceAdd, Nat.reduceLeDiff, Nat.reducePow, Nat.reduceDiv, Nat.reduceMod, decide_true, decide_eq_true c1, decide_eq_true c2, decide_eq_true c3, decide_eq_true c4]
          refine wCall_use ⟨hg.1, hg.2 nof _ x _ 1000 65536 (by simpa only [Hard.v_eq] using rd_hardv _ _ x) (by omega) (by omega)⟩ ?_
          rintro _ _ ⟨b, rfl, rfl, hb⟩
          simp only [go_sem, reduceIte, Nat.reduceEqDiff, Nat.reduceAdd, Nat.reduceLeDiff, Nat.reducePow, Nat.reduceDiv, Nat.reduceMod, decide_true]
          exact ⟨Ext.b2 _ _, _, rfl, fun e => ⟨⟨c1, c2, c3, c4⟩, hb (by simpa using e)⟩⟩
        · simp only [go_sem, reduceIte, Nat.reduceEqDiff, Nat.reduceAdd, Nat.reduceLeDiff, Nat.reducePow, Nat.reduceDiv, Nat.reduceMod, decide_true, decide_eq_true c1, decide_eq_true c2, decide_eq_true c3, decide_eq_false c4]
          exact ⟨Ext.b2 _ _, _, rfl, fun e => by cases e⟩
      · simp only [go_sem, reduceIte, Nat.reduceEqDiff, Nat.reduceAdd, Nat.reduceLeDiff, Nat.reducePow, Nat.reduceDiv, Nat.reduceMod, decide_true, decide_eq_true c1, decide_eq_true c2, decide_eq_false c3]
        exact ⟨Ext.b2 _ _, _, rfl, fun e => by cases e⟩
    · simp only [go_sem, reduceIte, Nat.reduceEqDiff, Nat.reduceAdd, Nat.reduceLeDiff, Nat.reducePow, Nat.reduceDiv, Nat.reduceMod, decide_true, decide_eq_true c1, decide_eq_false c2]
      exact ⟨Ext.b2 _ _, _, rfl, fun e => by cases e⟩
  · simp only [go_sem, reduceIte, Nat.reduceEqDiff, Nat.reduceAdd, Nat.reduceLeDiff, Nat.reducePow, Nat.reduceDiv, Nat.reduceMod, decide_true, decide_eq_false c1]
    exact ⟨Ext.b2 _ _, _, rfl, fun e => by cases e⟩

theorem sends_ok {P : Program} {f fp fr fk fc fn rn fs sp sh : FuncId} (hf : Is P f (c_glebelaw15_FlowSends fp fr fk fc fn rn fs sp sh)) (hp : PlacedOk P fp) (hr : RightHardOk P fr) (hk : YesOk P fk) (hc : CopyHardP P fc)
    (hn : NextOk P fn) (hn' : NextOk P rn) (hs : SameMsgOk P fs) (hsp : SpoilOk P sp (.sl 17 msgT)) (hsh : SameHardOk P sh) (w : Flow) (id commit round : Int) (x : Hard) (h : AHeap) :
    ACalls P f [.agg (w.cells ++ [.int .i64 id, .int .i64 commit, .int .i64 round]), .agg x.v] h fun r _ => r = .bool true := by
  refine fun_sound hf.1 (Nat.le_of_ble_eq_true rfl) ?_
  show vc P (c_glebelaw15_FlowSends fp fr fk fc fn rn fs sp sh).code ⟨[(0, .agg (w.cells ++ [.int .i64 id, .int .i64 commit, .int .i64 round])), (1, .agg x.v)], [], h⟩ (atEnd (c_glebelaw15_FlowSends fp fr fk fc fn rn fs sp sh).res _)
  have no : ∀ {h : AHeap} {K : AV → AHeap → Prop}, K (.bool true) h → wCall P fk [] h K := fun hK => wCall_use ⟨hk.1, hk.2 _⟩ (by rintro _ _ ⟨rfl, rfl⟩; exact hK)
  simp only [c_glebelaw15_FlowSends, Flow.cells, Hard.v_eq, List.cons_append, go_sem, reduceIte, Nat.reduceEqDiff, Nat.reduceAdd, Nat.reduceLeDiff, Nat.reducePow, Nat.reduceDiv, Nat.reduceMod, decide_true]
  refine wCall_use ⟨hp.1, hp.2 _ w⟩ ?_
  rintro _ H ⟨b1, rfl, e1, hb1⟩
  subst e1
  cases b1
  · simp only [go_sem, reduceIte, Nat.reduceEqDiff, Nat.reduceAdd, Nat.reduceLeDiff, Nat.reducePow, Nat.reduceDiv, Nat.reduceMod, decide_true]
    refine no ?_
    simp only [go_sem, reduceIte, Nat.reduceEqDiff, Nat.reduceAdd, Nat.reduceLeDiff, Nat.reducePow, Nat.reduceDiv, Nat.reduceMod, decide_true]
  have hw := hb1 rfl
  simp only [go_sem, reduceIte, Nat.reduceEqDiff, Nat.reduceAdd, Nat.reduceLeDiff, Nat.reducePow, Nat.reduceDiv, Nat.reduceMod, decide_true]
  refine wCall_use ⟨hr.1, by have := hr.2 (h ++ [some (.arr 7 [[.int .i64 w.node, .int .i64 w.next, .int .i64 w.mat, .int .i64 w.round, .int .i64 id, .int .i64 commit, .int .i64 round]] false)] ++ [some (.arr 10 [x.v] false)]) x; simpa only [Hard.v_eq] using this⟩ ?_
  rintro _ H ⟨b2, rfl, e2, hb2⟩
  subst e2
  cases b2
  · simp only [go_sem, reduceIte, Nat.reduceEqDiff, Nat.reduceAdd, Nat.reduceLeDiff, Nat.reducePow, Nat.reduceDiv, Nat.reduceMod, decide_true]
    refine no ?_
    simp only [go_sem, reduceIte, Nat.reduceEqDiff, Nat.reduceAdd, Nat.reduceLeDiff, Nat.reducePow, Nat.reduceDiv, Nat.reduceMod, decide_true]
  obtain ⟨hl, hm⟩ := hb2 rfl
  simp only [go_sem, reduceIte, Nat.reduceEqDiff, Nat.reduceAdd, Nat.reduceLeDiff, Nat.reducePow, Nat.reduceDiv, Nat.reduceMod, decide_true]
  have hce : x.conf.few 1000 := ⟨by have := hm.2.1.1; omega, by have := hm.2.1.2.1; omega, by have := hm.2.1.2.2; omega⟩
  have hse : SmallEntries x.log.es := ⟨by have := hm.1.1; omega, fun e he => by have := hm.1.2 e he; omega⟩
  have hsn : x.snap.length ≤ 65536 := by have := hm.2.2; omega
  have hfew : x.few := ⟨hse, ⟨by have := hce.1; omega, by have := hce.2.1; omega, by have := hce.2.2; omega⟩, by omega⟩
  have hfit : x.fit := ⟨⟨hl.1, by have := hl.2.1; omega, hse⟩, ⟨by have := hce.1; omega, by have := hce.2.1; omega, by have := hce.2.2; omega⟩, by omega⟩
  have ec := hc.2 x hfew
  have hn2 := fun h => hn.2 h w id x commit round hw hfit
  have hr2 : Pure P rn [.agg w.cells, .int .i64 id, .agg x.v, .int .i64 commit, .int .i64 round] (.agg (w.send id x commit round).v) :=
    pure_ag (ds := (w.send id x commit round).c) fun h => (hn'.2 h w id x commit round hw hfit).mono fun _ _ ⟨e, d, h1, h2, h3, h4⟩ => ⟨_, h1, msg_own h2 h3, h4⟩
  have hsl : SmallEntries (w.send id x commit round).es ∧ (w.send id x commit round).data.length ≤ 2^40 := by
    simp only [Flow.send]
    split
    · refine ⟨⟨by simp, fun e he => by simp at he⟩, ?_⟩
      simp only [List.length_append, num_length, bytes_length]
      obtain ⟨q1, q2, q3⟩ := hce
      omega
    · refine ⟨?_, by simp⟩
      simp only [Log.slice]
      split
      · exact ⟨by simp, fun e he => by simp at he⟩
      · exact hse.sub (by simp; omega) (fun e he => List.mem_of_mem_drop (List.mem_of_mem_take he))
  generalize w.send id x commit round = m at *
  simp only [Hard.v_eq, Flow.cells, Msg.v_eq] at ec hn2 hr2
  refine ec.use hc.1 ?_
  simp only [go_sem, reduceIte, Nat.reduceEqDiff, Nat.reduceAdd, Nat.reduceLeDiff, Nat.reducePow, Nat.reduceDiv, Nat.reduceMod, decide_true]
  refine wCall_use ⟨hn.1, hn2 _⟩ ?_
  rintro _ hh ⟨e, d, rfl, he, hd, hx⟩
  have A2 := hx.get (bx30 _ _ _ _)
  have A3 := hx.get (bx31 _ _ _ _)
  have A5 := hx.get (bx32 _ _ _ _)
  have hlen := hx.1
  simp only [len_app1] at he hd hlen
  clear hx
  have hes := he.scalar
  have hds := hd.scalar
  simp only [Msg.cells, go_sem, reduceIte, Nat.reduceEqDiff, Nat.reduceAdd, Nat.reduceLeDiff, Nat.reducePow, Nat.reduceDiv, Nat.reduceMod, decide_true, A2, A3, A5, old1 A2, old1 A3, old1 A5, hes, hds, cells_of hes, cells_of hds]
  simp only [Msg.cells] at hr2
  refine hr2.use hn'.1 ?_
  simp only [go_sem, reduceIte, Nat.reduceEqDiff, Nat.reduceAdd, Nat.reduceLeDiff, Nat.reducePow, Nat.reduceDiv, Nat.reduceMod, decide_true, A2, A3, A5, old1 A2, old1 A3, old1 A5, hes, hds, cells_of hes, cells_of hds]
  have hmr : RdL (fun _ => True) hh m.c (m.cells e d) := msg_rd (Own.rd _ (fun _ _ => trivial) _ he) (Own.rd _ (fun _ _ => trivial) _ hd)
  refine wCall_use ⟨hs.1, hs.2 (fun _ => True) (fun _ => True) _ m m _ _ (hmr.up (Ext.b1 _)) (by simpa only [Msg.v_eq, Msg.cells] using rd_msgv _ _ m) hsl.1 hsl.2⟩ ?_
  rintro _ _ ⟨rfl, rfl⟩
  simp only [go_sem, reduceIte, Nat.reduceEqDiff, Nat.reduceAdd, Nat.reduceLeDiff, Nat.reducePow, Nat.reduceDiv, Nat.reduceMod, decide_true, A2, A3, A5, old1 A2, old1 A3, old1 A5, hes, hds, cells_of hes, cells_of hds, decide_true]
  refine wCall_use ⟨hsp.1, hsp.2 (fun k => h.length + 1 + 1 + 1 ≤ k) _ _ ?_⟩ ?_
  · rw [OwnT]
    refine .inr (.inr ⟨_, 0, 1, some 1, _, false, rfl, ?_, bx21 _ _ _, by simp, by decide, fun i cs hi hcs => ?_⟩)
    · omega
    · obtain rfl : i = 0 := by omega
      simp at hcs
      subst hcs
      have up : ∀ {D : D} {a : AV}, Own D (fun k => h.length + 1 + 1 + 1 ≤ k) hh a → ∀ x y, Own D (fun k => h.length + 1 + 1 + 1 ≤ k ∧ k ≠ hh.length + 1) (hh ++ [x] ++ [y]) a := fun ho x y =>
        Own.mono _ (fun m hm => ⟨hm.1, by have := hm.2; omega⟩) (fun m hm z hz => old2 hz _ _) _ (Own.lt _ _ ho)
      exact msg_ownT.2 ⟨m, e, d, rfl, Own.ty _ _ _ (entries_ty hsl.1) (up he _ _), Own.ty _ _ _ (bytes_ty hsl.2) (up hd _ _)⟩
  · rintro _ hz ⟨xz, _⟩
    have B3 : hz[h.length + 1]? = _ := (xz.2 (h.length + 1) (by simp; omega) (by omega)).trans (old2 A3 _ _)
    have B5 : hz[h.length + 1 + 1]? = _ := (xz.2 (h.length + 1 + 1) (by simp; omega) (by omega)).trans (old2 A5 _ _)
    simp only [go_sem, reduceIte, Nat.reduceEqDiff, Nat.reduceAdd, Nat.reduceLeDiff, Nat.reducePow, Nat.reduceDiv, Nat.reduceMod, decide_true, B3, B5]
    have hq := rd_hardv nof hz x
    simp only [Hard.v_eq] at hq
    refine wCall_use ⟨hsh.1, hsh.2 nof nof _ x x _ _ hq hq hfew⟩ ?_
    rintro _ _ ⟨rfl, rfl⟩
    simp only [go_sem, reduceIte, Nat.reduceEqDiff, Nat.reduceAdd, Nat.reduceLeDiff, Nat.reducePow, Nat.reduceDiv, Nat.reduceMod, decide_true]

end Glb
