/-
  The statements on a group's log: entries that are laid, and logs that are cut.
-/
import Derived.Test.YtjcfofhlhgdmoaaGlbLaw11r
set_option linter.unusedSimpArgs false
set_option linter.unusedVariables false
namespace Glb
open Go
set_option maxRecDepth 10000
set_option maxHeartbeats 4000000

theorem laid_small {l : Log} {e : List Entry} (hl : Right l) (he : e.length ≤ 2000 ∧ ∀ x ∈ e, x.data.length ≤ 65536) (i : Int) : SmallEntries (l.laid i e).es := by
  have h1 := hl.2.2.1
  have h2 := hl.2.2.2
  simp only [Log.laid]
  split
  · refine ⟨by simp; omega, fun x hx => ?_⟩
    rcases List.mem_append.1 hx with hx | hx
    · have := h2 x (List.mem_of_mem_take hx); omega
    · have := he.2 x (List.mem_of_mem_drop hx); omega
  · exact hl.ok.2.2

theorem cut_small {l : Log} (hl : SmallEntries l.es) (i : Int) : SmallEntries (l.cut i).es := by
  simp only [Log.cut]
  split
  · exact hl.sub (by simp) (fun x hx => List.mem_of_mem_drop hx)
  · exact ⟨by simp, by simp⟩

theorem own_log {l : Log} {F : Nat → Prop} {h : AHeap} {cs : List AV} (hh : OwnL l.c F h cs) : ∃ r, cs = [.int .i64 l.base, .int .i64 l.bterm, r] ∧ Own (dEntries l.es) F h r := by
  simp only [Log.c, OwnL, Own] at hh
  obtain ⟨_, _, rfl, rfl, _, _, rfl, rfl, r, _, rfl, hh, rfl⟩ := hh
  exact ⟨r, rfl, hh⟩

theorem rd_log {l : Log} {F : Nat → Prop} {h : AHeap} {r : AV} (hh : Rd F h (dEntries l.es) r) : RdL F h l.c [.int .i64 l.base, .int .i64 l.bterm, r] := by
  simp only [Log.c, RdL, Rd]; exact ⟨_, _, rfl, rfl, _, _, rfl, rfl, _, _, rfl, hh, rfl⟩

theorem lays_ok {P : Program} {f fr fb fk cl ce fa ra fc rc sl sp se : FuncId} (hf : Is P f (c_glebelaw11_RlogLays fr fb fk cl ce fa ra fc rc sl sp se)) (hr : RightOk P fr) (hb : BigEntriesOk P fb) (hk : YesOk P fk)
    (hcl : CopyLogOk P cl) (hce : CopyEntriesOk P ce) (ha : AppendOk P fa) (ha' : AppendOk P ra) (hc : CutOk P fc) (hc' : CutOk P rc) (hsl : SameLogOk P sl) (hsp : SpoilOk P sp (.sl 3 entryT)) (hse : SameEntriesOk P se)
    (l : Log) (i : Int) (e : List Entry) (h : AHeap) :
    ACalls P f [.agg (D.avL l.c), .int .i64 i, (dEntries e).av] h fun r _ => r = .bool true := by
  refine fun_sound hf.1 (Nat.le_of_ble_eq_true rfl) ?_
  show vc P (c_glebelaw11_RlogLays fr fb fk cl ce fa ra fc rc sl sp se).code ⟨[(0, .agg (D.avL l.c)), (1, .int .i64 i), (2, (dEntries e).av)], [], h⟩ (atEnd (c_glebelaw11_RlogLays fr fb fk cl ce fa ra fc rc sl sp se).res _)
  have hL : ∀ h, RdL nof h l.c [.int .i64 l.base, .int .i64 l.bterm, (dEntries l.es).av] := fun h => rdL_av nof h l.c
  have hE : ∀ h, Rd nof h (dEntries e) (dEntries e).av := fun h => rd_av nof h _
  have hcells : D.avL l.c = [.int .i64 l.base, .int .i64 l.bterm, (dEntries l.es).av] := rfl
  have hsc := av_scalar (dEntries l.es)
  generalize (dEntries l.es).av = dd at *
  generalize (dEntries e).av = de at *
  rw [hcells]
  simp only [c_glebelaw11_RlogLays, go_sem, reduceIte, Nat.reduceEqDiff, Nat.reduceAdd, Nat.reduceLeDiff, Nat.reducePow, Nat.reduceDiv, Nat.reduceMod, decide_true, hsc]
  have no : ∀ {h : AHeap} {K : AV → AHeap → Prop}, K (.bool true) h → wCall P fk [] h K := fun hK => wCall_use ⟨hk.1, hk.2 _⟩ (by rintro _ _ ⟨rfl, rfl⟩; exact hK)
  refine wCall_use ⟨hr.1, hr.2 nof _ l _ (hL _)⟩ ?_
  rintro _ _ ⟨b1, rfl, e1, hb1⟩
  subst e1
  cases b1
  · simp only [go_sem, reduceIte, Nat.reduceEqDiff, Nat.reduceAdd, Nat.reduceLeDiff, Nat.reducePow, Nat.reduceDiv, Nat.reduceMod, decide_true]
    refine no ?_
    simp only [go_sem, reduceIte, Nat.reduceEqDiff, Nat.reduceAdd, Nat.reduceLeDiff, Nat.reducePow, Nat.reduceDiv, Nat.reduceMod, decide_true]
  simp only [go_sem, reduceIte, Nat.reduceEqDiff, Nat.reduceAdd, Nat.reduceLeDiff, Nat.reducePow, Nat.reduceDiv, Nat.reduceMod, decide_true]
  refine wCall_use ⟨hb.1, hb.2 nof _ e _ 2000 65536 (hE _) (by omega) (by omega)⟩ ?_
  rintro _ _ ⟨b2, rfl, e2, hb2⟩
  subst e2
  cases b2
  rotate_left
  · simp only [go_sem, reduceIte, Nat.reduceEqDiff, Nat.reduceAdd, Nat.reduceLeDiff, Nat.reducePow, Nat.reduceDiv, Nat.reduceMod, decide_true]
    refine no ?_
    simp only [go_sem, reduceIte, Nat.reduceEqDiff, Nat.reduceAdd, Nat.reduceLeDiff, Nat.reducePow, Nat.reduceDiv, Nat.reduceMod, decide_true]
  have hR := hb1 rfl
  have ok := hR.ok
  have hEs : e.length ≤ 2000 ∧ ∀ x ∈ e, x.data.length ≤ 65536 := by have := hb2 rfl; exact ⟨by have := this.1; omega, fun x hx => by have := this.2 x hx; omega⟩
  have okE : SmallEntries e := ⟨by omega, fun x hx => by have := hEs.2 x hx; omega⟩
  simp only [go_sem, reduceIte, Nat.reduceEqDiff, Nat.reduceAdd, Nat.reduceLeDiff, Nat.reducePow, Nat.reduceDiv, Nat.reduceMod, decide_true]
  refine wCall_use ⟨hcl.1, hcl.2 nof _ l _ (hL _) ok.2.2⟩ ?_
  rintro _ h1 ⟨_, rfl, hin, x1⟩
  obtain ⟨r, rfl, hin'⟩ := own_log hin
  have A1 := x1.get (bx10 _ _)
  simp only [go_sem, reduceIte, Nat.reduceEqDiff, Nat.reduceAdd, Nat.reduceLeDiff, Nat.reducePow, Nat.reduceDiv, Nat.reduceMod, decide_true, hin'.scalar]
  generalize hI : (some (.arr 3 [[.int .i64 l.base, .int .i64 l.bterm, r]] false) : Option ABlk) = I
  refine wCall_use ⟨hce.1, hce.2 nof _ e _ (hE _) okE⟩ ?_
  rintro m h2 ⟨hm, _, x2⟩
  have A2 := x2.get ((Ext.b1 I).get A1)
  have I2 := x2.get (bx10 h1 I)
  have in2 := (hin'.up (Ext.b1 I)).up x2
  subst hI
  simp only [go_sem, reduceIte, Nat.reduceEqDiff, Nat.reduceAdd, Nat.reduceLeDiff, Nat.reducePow, Nat.reduceDiv, Nat.reduceMod, decide_true, I2]
  refine wCall_use ⟨ha.1, ha.2 (fun _ => True) _ l _ i e _ (rd_log (Own.rd _ (fun _ _ => trivial) _ in2)) (Own.rd _ (fun _ _ => trivial) _ hm) ok okE⟩ ?_
  rintro _ h3 ⟨_, rfl, hx, x3⟩
  obtain ⟨rx, rfl, hx'⟩ := own_log hx
  have A3 := x3.get A2
  have I3 := x3.get I2
  simp only [go_sem, reduceIte, Nat.reduceEqDiff, Nat.reduceAdd, Nat.reduceLeDiff, Nat.reducePow, Nat.reduceDiv, Nat.reduceMod, decide_true, hx'.scalar]
  generalize hX : (some (.arr 3 [[.int .i64 (l.laid i e).base, .int .i64 (l.laid i e).bterm, rx]] false) : Option ABlk) = X
  have X3 := bx10 h3 X
  have A3' := (Ext.b1 X).get A3
  have I3' := (Ext.b1 X).get I3
  simp only [go_sem, reduceIte, Nat.reduceEqDiff, Nat.reduceAdd, Nat.reduceLeDiff, Nat.reducePow, Nat.reduceDiv, Nat.reduceMod, decide_true, A3']
  refine wCall_use ⟨ha'.1, ha'.2 nof _ l _ i e _ (hL _) (hE _) ok okE⟩ ?_
  rintro _ h4 ⟨_, rfl, hy, x4⟩
  obtain ⟨ry, rfl, hy'⟩ := own_log hy
  have A4 := x4.get A3'
  have I4 := x4.get I3'
  have X4 := x4.get X3
  simp only [go_sem, reduceIte, Nat.reduceEqDiff, Nat.reduceAdd, Nat.reduceLeDiff, Nat.reducePow, Nat.reduceDiv, Nat.reduceMod, decide_true, hy'.scalar]
  generalize hY : (some (.arr 3 [[.int .i64 (l.laid i e).base, .int .i64 (l.laid i e).bterm, ry]] false) : Option ABlk) = Y
  have Y4 := bx10 h4 Y
  have A4' := (Ext.b1 Y).get A4
  have I4' := (Ext.b1 Y).get I4
  have X4' := (Ext.b1 Y).get X4
  have in3 := in2.up x3
  have in4 := ((in3.up (Ext.b1 X)).up x4).up (Ext.b1 Y)
  simp only [go_sem, reduceIte, Nat.reduceEqDiff, Nat.reduceAdd, Nat.reduceLeDiff, Nat.reducePow, Nat.reduceDiv, Nat.reduceMod, decide_true, I4']
  refine wCall_use ⟨hc.1, hc.2 (fun _ => True) _ l _ i (rd_log (Own.rd _ (fun _ _ => trivial) _ in4)) ok⟩ ?_
  rintro _ h5 ⟨_, rfl, hcc, x5⟩
  obtain ⟨rc', rfl, hcc'⟩ := own_log hcc
  have A5 := x5.get A4'
  have I5 := x5.get I4'
  have X5 := x5.get X4'
  have Y5 := x5.get Y4
  simp only [go_sem, reduceIte, Nat.reduceEqDiff, Nat.reduceAdd, Nat.reduceLeDiff, Nat.reducePow, Nat.reduceDiv, Nat.reduceMod, decide_true, hcc'.scalar]
  generalize hC : (some (.arr 3 [[.int .i64 (l.cut i).base, .int .i64 (l.cut i).bterm, rc']] false) : Option ABlk) = C
  have C5 := bx10 h5 C
  have A5' := (Ext.b1 C).get A5
  have I5' := (Ext.b1 C).get I5
  have X5' := (Ext.b1 C).get X5
  have Y5' := (Ext.b1 C).get Y5
  simp only [go_sem, reduceIte, Nat.reduceEqDiff, Nat.reduceAdd, Nat.reduceLeDiff, Nat.reducePow, Nat.reduceDiv, Nat.reduceMod, decide_true, A5']
  refine wCall_use ⟨hc'.1, hc'.2 nof _ l _ i (hL _) ok⟩ ?_
  rintro _ h6 ⟨_, rfl, hd, x6⟩
  obtain ⟨rd', rfl, hd'⟩ := own_log hd
  have A6 := (Ext.b1 (some (.arr 3 [[.int .i64 (l.cut i).base, .int .i64 (l.cut i).bterm, rd']] false))).get (x6.get A5')
  have I6 := (Ext.b1 (some (.arr 3 [[.int .i64 (l.cut i).base, .int .i64 (l.cut i).bterm, rd']] false))).get (x6.get I5')
  have X6 := (Ext.b1 (some (.arr 3 [[.int .i64 (l.cut i).base, .int .i64 (l.cut i).bterm, rd']] false))).get (x6.get X5')
  have Y6 := (Ext.b1 (some (.arr 3 [[.int .i64 (l.cut i).base, .int .i64 (l.cut i).bterm, rd']] false))).get (x6.get Y5')
  have C6 := (Ext.b1 (some (.arr 3 [[.int .i64 (l.cut i).base, .int .i64 (l.cut i).bterm, rd']] false))).get (x6.get C5)
  have D6 := bx10 h6 (some (.arr 3 [[.int .i64 (l.cut i).base, .int .i64 (l.cut i).bterm, rd']] false))
  -- all objects at the last heap
  have e6 : Ext nof h5 (h6 ++ [some (.arr 3 [[.int .i64 (l.cut i).base, .int .i64 (l.cut i).bterm, rd']] false)]) := ((Ext.b1 C).tr x6).tr (Ext.b1 _)
  have e5 := ((Ext.b1 Y).tr x5).tr e6
  have e4 := ((Ext.b1 X).tr x4).tr e5
  have in6 := (Own.lt _ _ hin').up (((Ext.b1 _).tr x2).tr (x3.tr e4))
  have m6 := (Own.lt _ _ hm).up (x3.tr e4)
  have xx6 := (Own.lt _ _ hx').up e4
  have yy6 := hy'.up e5
  have cc6 := (Own.lt _ _ hcc').up e6
  have dd6 := hd'.up (Ext.b1 (some (.arr 3 [[.int .i64 (l.cut i).base, .int .i64 (l.cut i).bterm, rd']] false)))
  have L1 := x1.1
  have L2 := x2.1
  have L3 := x3.1
  have L4 := x4.1
  have L5 := x5.1
  have L6 := x6.1
  simp only [List.length_append, List.length_cons, List.length_nil] at L1 L2 L3 L4 L5 L6
  subst hX hY hC
  simp only [go_sem, reduceIte, Nat.reduceEqDiff, Nat.reduceAdd, Nat.reduceLeDiff, Nat.reducePow, Nat.reduceDiv, Nat.reduceMod, decide_true, hd'.scalar]
  generalize hH : h6 ++ [some (.arr 3 [[.int .i64 (l.cut i).base, .int .i64 (l.cut i).bterm, rd']] false)] = H at *
  have sx := laid_small hR hEs i
  have sc := cut_small ok.2.2 i
  simp only [go_sem, reduceIte, Nat.reduceEqDiff, Nat.reduceAdd, Nat.reduceLeDiff, Nat.reducePow, Nat.reduceDiv, Nat.reduceMod, decide_true, X6, Y6]
  refine wCall_use ⟨hsl.1, hsl.2 (fun _ => True) _ (l.laid i e) (l.laid i e) _ _ (rd_log (Own.rd _ (fun _ _ => trivial) _ xx6)) (rd_log (Own.rd _ (fun _ _ => trivial) _ yy6)) (by have := sx.1; omega) sx.2⟩ ?_
  rintro _ H ⟨rfl, e7⟩
  subst e7
  simp only [go_sem, reduceIte, Nat.reduceEqDiff, Nat.reduceAdd, Nat.reduceLeDiff, Nat.reducePow, Nat.reduceDiv, Nat.reduceMod, decide_true, decide_true, C6, D6]
  refine wCall_use ⟨hsl.1, hsl.2 (fun _ => True) _ (l.cut i) (l.cut i) _ _ (rd_log (Own.rd _ (fun _ _ => trivial) _ cc6)) (rd_log (Own.rd _ (fun _ _ => trivial) _ dd6)) (by have := sc.1; omega) sc.2⟩ ?_
  rintro _ H ⟨rfl, e7⟩
  subst e7
  simp only [go_sem, reduceIte, Nat.reduceEqDiff, Nat.reduceAdd, Nat.reduceLeDiff, Nat.reducePow, Nat.reduceDiv, Nat.reduceMod, decide_true, decide_true, X6]
  have tx := laid_small hR hEs i
  refine wCall_use ⟨hsp.1, hsp.2 _ _ _ (Own.ty _ _ _ (entries_ty sx) xx6)⟩ ?_
  rintro _ h7 ⟨x7, p7⟩
  have kp : ∀ {F : Nat → Prop} {m : Nat} {x : Option ABlk}, H[m]? = some x → (m < h2.length ∨ h3.length ≤ m) → h7[m]? = some x := fun h hm => x7.keepOff (F' := fun k => k < h2.length ∨ h3.length ≤ k) (fun m _ h1 h2 => by omega) _ hm _ h
  have C7 := kp (F := nof) C6 (by omega)
  have I7 := kp (F := nof) I6 (by omega)
  have in7 := in6.mono (F' := fun m => m < h1.length) _ (fun m hm => hm.2) (x7.keepOff (fun m _ hm hn => by omega)) 
  have m7 := m6.mono (F' := fun m => m < h2.length) _ (fun m hm => hm.2) (x7.keepOff (fun m _ hm hn => by omega)) 
  simp only [go_sem, reduceIte, Nat.reduceEqDiff, Nat.reduceAdd, Nat.reduceLeDiff, Nat.reducePow, Nat.reduceDiv, Nat.reduceMod, decide_true, C7]
  refine wCall_use ⟨hsp.1, hsp.2 _ _ _ (p7.1 _ _ _ (Own.ty _ _ _ (entries_ty sc) cc6))⟩ ?_
  rintro _ h8 ⟨x8, p8⟩
  have kp' : ∀ {m : Nat} {x : Option ABlk}, h7[m]? = some x → m < h4.length → h8[m]? = some x := fun h hm => x8.keepOff (F' := fun k => k < h4.length) (fun m _ h1 h2 => by have := h2.1; simp only [List.length_append, List.length_cons, List.length_nil] at this; omega) _ hm _ h
  have A7 := kp (F := nof) A6 (by omega)
  have A8 := kp' A7 (by omega)
  have I8 := kp' I7 (by omega)
  have in8 := in7.mono (F' := fun _ => True) _ (fun m _ => trivial) (x8.keepOff (fun m _ hm hn => by have := hn.1; simp only [List.length_append, List.length_cons, List.length_nil] at this; omega))
  have m8 := m7.mono (F' := fun _ => True) _ (fun m _ => trivial) (x8.keepOff (fun m _ hm hn => by have := hn.1; simp only [List.length_append, List.length_cons, List.length_nil] at this; omega))
  simp only [go_sem, reduceIte, Nat.reduceEqDiff, Nat.reduceAdd, Nat.reduceLeDiff, Nat.reducePow, Nat.reduceDiv, Nat.reduceMod, decide_true, I8, A8]
  refine wCall_use ⟨hsl.1, hsl.2 (fun _ => True) _ l l _ _ (rd_log (Own.rd _ (fun _ _ => trivial) _ in8)) (RdL.mono (fun m hm => hm.elim) (Keep.lt _ _) _ _ (hL h8)) (by have := ok.2.2.1; omega) ok.2.2.2⟩ ?_
  rintro _ H ⟨rfl, e7⟩
  subst e7
  simp only [go_sem, reduceIte, Nat.reduceEqDiff, Nat.reduceAdd, Nat.reduceLeDiff, Nat.reducePow, Nat.reduceDiv, Nat.reduceMod, decide_true, decide_true]
  refine wCall_use ⟨hse.1, hse.2 (fun _ => True) _ e e _ _ (Own.rd _ (fun _ _ => trivial) _ m8) (Rd.mono (fun m hm => hm.elim) (Keep.lt _ _) _ _ (hE _)) (by have := okE.1; omega) okE.2⟩ ?_
  rintro _ H ⟨rfl, e7⟩
  subst e7
  simp only [go_sem, reduceIte, Nat.reduceEqDiff, Nat.reduceAdd, Nat.reduceLeDiff, Nat.reducePow, Nat.reduceDiv, Nat.reduceMod, decide_true, decide_true]

end Glb
