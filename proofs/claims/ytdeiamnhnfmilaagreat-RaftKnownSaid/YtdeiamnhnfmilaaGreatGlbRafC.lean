/-
  A library of its own: its parts, one behind the other.
-/
import Derived.Test.YtdeiamnhnfmilaaGreatGlbRafB
import Derived.Test.YtdeiamnhnfmilaaGreatGlbImgE
set_option linter.unusedSimpArgs false
set_option linter.unusedVariables false
namespace Glb
open Go
open Nat (reduceAdd reduceDiv reduceEqDiff reduceLeDiff reduceMod reducePow)
set_option maxRecDepth 10000
set_option maxHeartbeats 8000000
def AC.hd : AC -> AC
 | .seq a _ => a
 | x => x
def AC.tl : AC -> AC
 | .seq _ b => b
 | x => x
theorem AC.hd_seq (a b : AC) : (AC.seq a b).hd = a := rfl
theorem AC.tl_seq (a b : AC) : (AC.seq a b).tl = b := rfl
theorem XTo.setO {W Q L h r o R out h' ma ca aa} {n : Int} {b : Bool} (T : XTo W Q L h r o ⟨R, out⟩ h') (row : h'[o]? = some (some (.arr 5 [[ma, ca, aa, .int .i64 out.first, .bool out.restore]] false))) (hW : ∀ k, k ≠ 0 -> W k) :
  XTo W Q L h r o ⟨R, { out with first := n, restore := b }⟩ (h'.set o (some (.arr 5 [[ma, ca, aa, .int .i64 n, .bool b]] false))) := by
 obtain ⟨L1, x1, l1, e1'⟩ := T
 obtain ⟨g1, f1, ra⟩ := x1.r
 obtain ⟨ma', ca', aa', oa⟩ := x1.o
 have := oa.row.symm.trans row
 simp only [Option.some.injEq, ABlk.arr.injEq, List.cons.injEq] at this
 obtain ⟨-, ⟨⟨rfl, rfl, rfl, -⟩, -⟩, -⟩ := this
 have lo := (List.getElem?_eq_some_iff.1 oa.row).1
 have ne : ∀ m, L1 m ≠ 7 -> (h'.set o (some (.arr 5 [[ma', ca', aa', .int .i64 n, .bool b]] false)))[m]? = h'[m]? := fun m hm => List.getElem?_set_ne (by rintro rfl; exact hm oa.lo)
 refine XTo.trans1 l1 e1' (fun _ _ y => y) ⟨L1, ⟨⟨g1, f1, ra.keep (fun _ _ _ => rfl) fun m hm y => ne m (by omega)⟩, ⟨ma', ca', aa', List.getElem?_set_self lo, ?_, ?_, ?_, ?_, ?_, oa.lo⟩, fun m hm => by rw [List.length_set]; exact x1.lt m hm⟩, fun _ _ _ => rfl, Ext.set _ fun _ => .inl (hW _ (by rw [oa.lo]; omega))⟩
 ·exact Own.mono _ (fun _ y => y) (fun m hm y hy => (ne m (by omega)).trans hy) _ oa.m
 ·exact oa.mc.keep oa.m (fun m hm y hy => (ne m (by omega)).trans hy)
 ·exact Own.mono _ (fun _ y => y) (fun m hm y hy => (ne m (by omega)).trans hy) _ oa.c
 ·exact oa.cc.keep oa.c (fun m hm y hy => (ne m (by omega)).trans hy)
 ·exact Own.mono _ (fun _ y => y) (fun m hm y hy => (ne m (by omega)).trans hy) _ oa.a
theorem XTo.setA {W Q L h r o R out h' h3 ma ca aa e} {l : List Entry} (T : XTo W Q L h r o ⟨R, out⟩ h') (X : Ext nof h' h3) (row : h'[o]? = some (some (.arr 5 [[ma, ca, aa, .int .i64 out.first, .bool out.restore]] false))) (he : Own (dEntries l) (fun m => h'.length <= m) h3 e) (hW : ∀ k, k ≠ 0 -> W k) :
  XTo W Q L h r o ⟨R, { out with apply := l }⟩ (h3.set o (some (.arr 5 [[ma, ca, e, .int .i64 out.first, .bool out.restore]] false))) := by
 obtain ⟨L1, x1, l1, e1'⟩ := T
 obtain ⟨g1, f1, ra⟩ := x1.r
 obtain ⟨ma', ca', aa', oa⟩ := x1.o
 have := oa.row.symm.trans row
 simp only [Option.some.injEq, ABlk.arr.injEq, List.cons.injEq] at this
 obtain ⟨-, ⟨⟨rfl, rfl, rfl, -⟩, -⟩, -⟩ := this
 have lo := (List.getElem?_eq_some_iff.1 oa.row).1
 have hl := X.1
 have st : ∀ m, m < h'.length -> L1 m ≠ 7 -> (h3.set o (some (.arr 5 [[ma', ca', e, .int .i64 out.first, .bool out.restore]] false)))[m]? = h'[m]? := fun m hm h7 => (List.getElem?_set_ne (by rintro rfl; exact h7 oa.lo)).trans (X.2 m hm (fun y => y))
 have old : ∀ {m}, m < h'.length -> relab L1 nof h'.length h3.length 5 m = L1 m := fun {m} hm => relab_old (.inr ⟨fun y => y, hm⟩)
 refine XTo.trans1 l1 e1' (fun _ _ y => y) ⟨relab L1 nof h'.length h3.length 5, ⟨⟨g1, f1, ra.keep (fun m hm _ => old hm) fun m hm y => st m hm (by omega)⟩, ⟨ma', ca', e, List.getElem?_set_self (by omega), ?_, ?_, ?_, ?_, ?_, (old lo).trans oa.lo⟩, fun m hm => by rw [List.length_set]; exact relab_lt (fun z => by have := x1.lt m z; omega) hm⟩, fun m hm _ => old hm, ?_⟩
 ·exact Own.mono _ (fun m hm => (old hm.2).trans hm.1) (fun m hm y hy => (st m hm.2 (by omega)).trans hy) _ (Own.lt _ _ oa.m)
 ·exact oa.mc.keep (Own.lt _ _ oa.m) (fun m hm y hy => (st m hm.2 (by omega)).trans hy)
 ·exact Own.mono _ (fun m hm => (old hm.2).trans hm.1) (fun m hm y hy => (st m hm.2 (by omega)).trans hy) _ (Own.lt _ _ oa.c)
 ·exact oa.cc.keep (Own.lt _ _ oa.c) (fun m hm y hy => (st m hm.2 (by omega)).trans hy)
 ·exact Own.mono _ (fun m hm => relab_new (x1.ge hm.1) hm.2 (.inr hm.1)) (fun m hm y hy => (List.getElem?_set_ne (by omega)).trans hy) _ (Own.lt _ _ he)
 ·exact X.trans (Ext.set (F := fun m => m = o) _ (fun _ => rfl)) (F'' := fun m => W (L1 m) \/ Q m) (fun _ _ y => y.elim) (fun m _ y => .inl (by rw [y]; exact hW _ (by rw [oa.lo]; omega)))
theorem XTo.rowO {W Q L h r o x h'} (T : XTo W Q L h r o x h') : ∃ ma ca aa, h'[o]? = some (some (.arr 5 [[ma, ca, aa, .int .i64 x.o.first, .bool x.o.restore]] false)) /\ ma.scalar = true /\ ca.scalar = true /\ aa.scalar = true := by
 obtain ⟨_, x1, _⟩ := T
 obtain ⟨ma, ca, aa, oa⟩ := x1.o
 exact ⟨ma, ca, aa, oa.row, oa.m.scalar, oa.c.scalar, oa.a.scalar⟩
theorem XAt.apart {L h r o x} (a : XAt L h r o x) : r < h.length /\ o < h.length /\ r ≠ o := by
 obtain ⟨⟨g, f, ra⟩, ⟨ma, ca, aa, oa⟩, lt⟩ := a
 exact ⟨lt r (by rw [ra.lr]; omega), lt o (by rw [oa.lo]; omega), fun e => by have := ra.lr; have := oa.lo; rw [e] at *; omega⟩
def REndOk (P : Program) (f : FuncId) : Prop := isFn P f = true /\ ∀ (L : Nat -> Nat) (h : AHeap) (r o : Nat) (x : RX) (k : Nat), XAt L h r o x -> x.r.fit k -> k <= 2^28 ->
 ACalls P f [.agg [.ptr r 21 0 0, .ptr o 5 0 0]] h fun _ h' => XTo wA nof L h r o x.ends h'
def REndD (P : Program) (f : FuncId) : Prop := isFn P f = true /\ ∀ (L : Nat -> Nat) (h : AHeap) (r o : Nat) (x : RX) (k : Nat), XAt L h r o x -> x.r.fit k -> k <= 2^28 ->
 DCalls P f [.agg [.ptr r 21 0 0, .ptr o 5 0 0]] h fun _ h' => XTo wA nof L h r o x.ends h'
theorem rend_vc {P : Program} {f1 f2 f3 f4 f5 : FuncId} (u1 : OfP P f1) (u2 : ListOk P f2 Conf.voters) (u3 : HasOk P f3) (u4 : FollowOk P f4) (u5 : SliceOk P f5) (L : Nat -> Nat) (h : AHeap) (r o : Nat) (x : RX) (k : Nat) (hx : XAt L h r o x) (hfit : x.r.fit k) (hk : k <= 2^28) :
  vc P (c_raft_call_end f1 f2 f3 f4 f5).code ⟨[(0, .agg [.ptr r 21 0 0, .ptr o 5 0 0])], [], h⟩ (atEnd (c_raft_call_end f1 f2 f3 f4 f5).res fun _ h' => XTo wA nof L h r o x.ends h') := by
 obtain ⟨R, out⟩ := x
 simp only at hfit
 have lt := hx.lt
 have hbase := hfit.base
 have hlast := hfit.last
 have hat := hfit.at'
 have second : ∀ (Le : Env) (H0 H : AHeap) (R1 : Raft), R.ends = R1 -> R1.fit k -> lk 1 Le = .ptr h.length 2 0 0 -> Ext nof h H0 -> H0[h.length]? = some (some (.arr 2 [[.ptr r 21 0 0, .ptr o 5 0 0]] false)) -> XTo wA nof L H0 r o ⟨R1, out⟩ H ->
   vc P (c_raft_call_end f1 f2 f3 f4 f5).code.tl.tl.tl ⟨Le, [], H⟩ (atEnd (c_raft_call_end f1 f2 f3 f4 f5).res fun _ h' => XTo wA nof L h r o (RX.ends ⟨R, out⟩) h') := by
  intro Le H0 H R1 e1 fit1 k1 X0 C0 T
  have hlast := fit1.last
  have hbase := fit1.base
  have hat := fit1.at'
  have z2 : ∀ m, h.length <= m -> ¬ wA (L m) := fun m e => by rw [hx.ge e]; exact wA0
  have b0 := T.keep (z2 _ (Nat.le_refl _)) (fun y => y) C0
  obtain ⟨g, ff, r0⟩ := T.rowR
  obtain ⟨ma, ca, aa, o0, sma, sca, saa⟩ := T.rowO
  have r0' := r0
  simp only [Raft.row] at r0'
  have lo := (List.getElem?_eq_some_iff.1 o0).1
  have lr := (List.getElem?_eq_some_iff.1 r0).1
  have eE : RX.ends ⟨R, out⟩ = if R1.commit <= R1.applied then ⟨R1, out⟩ else ⟨{ R1 with applied := R1.commit }, { out with first := R1.applied + 1, apply := R1.hard.log.slice (R1.applied + 1) (R1.commit - R1.applied) }⟩ := by
   unfold RX.ends; simp only [e1]
  rw [eE]
  simp only [c_raft_call_end, AC.tl_seq, go_sem, reduceEqDiff, reduceAdd, k1, b0, r0']
  by_cases c : R1.commit <= R1.applied
  ·simp only [go_sem, decide_eq_true c]
   rw [if_pos c]
   exact XTo.from X0 T
  ·have ew : IntKind.i64.wrap (R1.applied + 1) = R1.applied + 1 := wrap_i64 (by omega)
   have ew2 : IntKind.i64.wrap (R1.commit - R1.applied) = R1.commit - R1.applied := wrap_i64 (by omega)
   rw [if_neg c]
   obtain ⟨ap1, ap2, ap3⟩ := hx.apart
   have q1 : (o = h.length) = False := eq_false (by omega)
   have q2 : (o = r) = False := eq_false (by omega)
   have q3 : (r = o) = False := eq_false (by omega)
   have q4 : (r = h.length) = False := eq_false (by omega)
   simp only [go_sem, reduceEqDiff, reduceAdd, reduceLeDiff, reducePow, reduceDiv, reduceMod, decide_true, decide_eq_false c, k1, b0, r0', o0, ew, ew2, q1, q2, lo]
   have T1 := XTo.setO (n := R1.applied + 1) (b := out.restore) T o0 (fun _ z => z)
   generalize hH3 : H.set o _ = H3 at *
   have r3 : H3[r]? = some (some (.arr 21 [R1.row g ff] false)) := by rw [<- hH3]; exact (List.getElem?_set_ne (fun e => ap3 e.symm)).trans r0
   have o3 : H3[o]? = some (some (.arr 5 [[ma, ca, aa, .int .i64 (R1.applied + 1), .bool out.restore]] false)) := by rw [<- hH3]; exact List.getElem?_set_self lo
   have b3 := T1.keep (z2 _ (Nat.le_refl _)) (fun y => y) C0
   have sl := u5.2 nof H3 R1.hard.log _ (R1.applied + 1) (R1.commit - R1.applied) (rd_logv' R1.hard.log H3) (fit1.logOk hk)
   refine wCall_use ⟨u5.1, sl⟩ ?_
   rintro e H4 ⟨oe, -, X4⟩
   have se := oe.scalar
   have b4 := X4.get b3
   have r4 := X4.get r3
   have r4' := r4
   have o4 := X4.get o3
   have lo4 := (List.getElem?_eq_some_iff.1 o4).1
   have lr4 := (List.getElem?_eq_some_iff.1 r4).1
   simp only [Raft.row] at r4'
   have T2 := XTo.setA (l := R1.hard.log.slice (R1.applied + 1) (R1.commit - R1.applied)) T1 X4 o3 oe (fun _ z => z)
   rw [kDB_mk0]
   simp only [go_sem, reduceEqDiff, reduceAdd, reduceLeDiff, reducePow, reduceDiv, reduceMod, decide_true, k1, b4, r4', o4, se, cells_of se, q1, q2, q4, lo4, lr4, List.length_set]
   have r5 : (H4.set o (some (.arr 5 [[ma, ca, e, .int .i64 (R1.applied + 1), .bool out.restore]] false)))[r]? = some (some (.arr 21 [R1.row g ff] false)) := (List.getElem?_set_ne (fun e => ap3 e.symm)).trans r4
   have T3 := XTo.setR (R' := { R1 with applied := R1.commit }) T2 r5 rfl rfl (fun _ z => z)
   exact XTo.from X0 T3
 have e0 : (c_raft_call_end f1 f2 f3 f4 f5).code = .seq (c_raft_call_end f1 f2 f3 f4 f5).code.hd (.seq (c_raft_call_end f1 f2 f3 f4 f5).code.tl.hd (.seq (c_raft_call_end f1 f2 f3 f4 f5).code.tl.tl.hd (c_raft_call_end f1 f2 f3 f4 f5).code.tl.tl.tl)) := rfl
 rw [e0]
 generalize (c_raft_call_end f1 f2 f3 f4 f5).code.tl.tl.tl = D at second ⊢
 obtain ⟨g, ff, rr⟩ := hx.rowR
 have lr := (List.getElem?_eq_some_iff.1 rr).1
 simp only [Raft.row] at rr
 have R1 : ∀ a, (h ++ [a])[r]? = _ := fun a => (Ext.b1 a).get rr
 have R2 : ∀ a b, (h ++ [a] ++ [b])[r]? = _ := fun a b => (Ext.b2 a b).get rr
 have cof := fun H => u1.2 nof H R.hard _ (rd_hardv' R.hard H) (hfit.ofR hk)
 simp only [Conf.v_eq] at cof
 simp only [c_raft_call_end, AC.hd_seq, AC.tl_seq, go_sem, reduceEqDiff, reduceAdd, reduceLeDiff, R1]
 refine use1 u1.1 (cof _) ?_
 obtain ⟨H2, hH2⟩ : ∃ H2, H2 = h ++ [some (ABlk.arr 2 [[.ptr r 21 0 0, .ptr o 5 0 0]] false)] ++ [some (ABlk.arr 3 [[aints R.hard.of.1.old, aints R.hard.of.1.new, aints R.hard.of.1.learners]] false)] := ⟨_, rfl⟩
 have X2 : Ext nof h H2 := by rw [hH2]; exact Ext.b2 _ _
 have l2 : H2.length = h.length + 2 := by rw [hH2]; simp
 have C0 : H2[h.length]? = some (some (ABlk.arr 2 [[.ptr r 21 0 0, .ptr o 5 0 0]] false)) := by rw [hH2]; exact bx20 _ _ _
 have C1 : H2[h.length + 1]? = some (some (ABlk.arr 3 [[aints R.hard.of.1.old, aints R.hard.of.1.new, aints R.hard.of.1.learners]] false)) := by rw [hH2]; exact bx21 _ _ _
 have r2 := X2.get rr
 have hx2 := hx.up X2
 have fin : ∀ (Le : Env), R.ends = R -> lk 1 Le = .ptr h.length 2 0 0 -> vc P D ⟨Le, [], H2⟩ (atEnd (c_raft_call_end f1 f2 f3 f4 f5).res fun _ h' => XTo wA nof L h r o (RX.ends ⟨R, out⟩) h') := fun Le e k1 => second Le H2 H2 R e hfit k1 X2 C0 hx2.to
 simp only [c_raft_call_end] at fin
 simp only [go_sem, reduceEqDiff, reduceAdd, reduceLeDiff, R2]
 rw [<- hH2]
 by_cases c1 : R.role = 2
 ·simp only [go_sem, reduceEqDiff, reduceAdd, r2, C0, decide_eq_true c1]
  by_cases c2 : R.hard.of.2 <= R.commit
  ·simp only [go_sem, reduceEqDiff, reduceAdd, reduceLeDiff, r2, C0, C1, decide_eq_true c2]
   refine wCall_use ⟨u2.1, u2.2 nof H2 R.hard.of.1 _ (rd_confv' R.hard.of.1 H2) (hfit.nowFew (by decide))⟩ ?_
   rintro w H3 ⟨ow, X3⟩
   have C0' := X3.get C0
   have C1' := X3.get C1
   have r3 := X3.get r2
   rw [kDB_mk0]
   simp only [go_sem, reduceEqDiff, reduceAdd, reduceLeDiff, reducePow, reduceDiv, reduceMod, decide_true, r3, C0', C1']
   have vl := voters_len hfit.now
   refine use1 u3.1 (u3.2 (fun _ => True) H3 _ w R.id (Own.rd _ (fun _ _ => trivial) _ ow) (by have : R.hard.of.1.voters.length <= 14 := vl; omega)) ?_
   rw [kDB_mk0]
   have hx3 := hx2.up X3
   have snd := second
   simp only [c_raft_call_end] at snd
   cases c3 : decide (R.id ∈ R.hard.of.1.voters)
   ·simp only [go_sem, reduceEqDiff, reduceAdd, reduceLeDiff, reducePow, reduceDiv, reduceMod, decide_true, r3, C0', C1', Bool.not_false]
    refine wCall_use ⟨u4.1, u4.2 L H3 r o ⟨R, out⟩ 0 hx3⟩ ?_
    intro _ H4 T4
    simp only [go_sem]
    refine snd _ H3 H4 (R.follow 0) ?_ (hfit.follow 0) (by simp [lk_ins]) (X2.tr X3) C0' T4
    unfold Raft.ends; rw [if_pos ⟨c1, c2, c3⟩]
   ·simp only [go_sem, reduceEqDiff, reduceAdd, reduceLeDiff, reducePow, reduceDiv, reduceMod, decide_true, r3, C0', C1', Bool.not_true]
    refine snd _ H3 H3 R ?_ hfit (by simp [lk_ins]) (X2.tr X3) C0' hx3.to
    unfold Raft.ends; rw [if_neg (fun z => by have := z.2.2; unfold Raft.voter Raft.now at this; rw [c3] at this; cases this)]
  ·simp only [go_sem, reduceEqDiff, decide_eq_false c2]
   exact fin _ (by unfold Raft.ends; rw [if_neg (fun z => c2 z.2.1)]) (by simp [lk_ins])
 ·simp only [go_sem, reduceEqDiff, decide_eq_false c1]
  exact fin _ (by unfold Raft.ends; rw [if_neg (fun z => c1 z.1)]) (by simp [lk_ins])
theorem rend_ok {P : Program} {f f1 f2 f3 f4 f5 : FuncId} (hf : Is P f (c_raft_call_end f1 f2 f3 f4 f5)) (u1 : OfP P f1) (u2 : ListOk P f2 Conf.voters) (u3 : HasOk P f3) (u4 : FollowOk P f4) (u5 : SliceOk P f5) : REndOk P f :=
 ⟨hf.2, fun L h r o x k hx hfit hk => fun_sound hf.1 (Nat.le_of_ble_eq_true rfl) (rend_vc u1 u2 u3 u4 u5 L h r o x k hx hfit hk)⟩
theorem rend_d {P : Program} {f f1 f2 f3 f4 f5 : FuncId} (hf : Is P f (c_raft_call_end f1 f2 f3 f4 f5)) (u1 : OfP P f1) (u2 : ListOk P f2 Conf.voters) (u3 : HasOk P f3) (u4 : FollowOk P f4) (u5 : SliceOk P f5) : REndD P f :=
 ⟨hf.2, fun L h r o x k hx hfit hk => dcall_sound hf.1 (Nat.le_of_ble_eq_true rfl) (rend_vc u1 u2 u3 u4 u5 L h r o x k hx hfit hk)⟩
end Glb
namespace Glb
open Go
open Nat (reduceAdd reduceDiv reduceEqDiff reduceLeDiff reduceMod reducePow)
set_option maxRecDepth 10000
set_option maxHeartbeats 8000000
theorem OwnO.at' {lo : Nat} {h : AHeap} {sz : Nat} {a : AV} {es : List (List AV)} {e : List AV} {i : Nat} (ho : OwnO lo h sz a es) (hi : es[i]? = some e) :
  ∃ n j row g, aindex sz a (.int .i64 i) = some (.ptr n sz j 0) /\ lo <= n /\ h[n]? = some (some (.arr sz row g)) /\ row[j]? = some e := by
 have hil := (List.getElem?_eq_some_iff.1 hi).1
 rcases ho with ⟨rfl, rfl⟩ | ⟨n, off, cap, row, g, rfl, hn, hrow, hle, hcl, h5, h6, h7⟩
 ·simp at hil
 ·refine ⟨n, off + i, row, g, ?_, hn, hrow, ?_⟩
  ·simp only [aindex]; rw [if_pos ⟨trivial, by omega, by omega⟩]; simp
  ·rw [<- h7, List.getElem?_take, if_pos hil, List.getElem?_drop] at hi; exact hi
theorem OwnO.len {lo : Nat} {h : AHeap} {sz : Nat} {a : AV} {es : List (List AV)} (ho : OwnO lo h sz a es) : alen a = some (.int .i64 es.length) /\ a.scalar = true := by
 rcases ho with ⟨rfl, rfl⟩ | ⟨n, off, cap, row, g, rfl, hn, hrow, hle, hcl, h5, h6, h7⟩
 ·exact ⟨rfl, rfl⟩
 ·exact ⟨rfl, rfl⟩
theorem XTo.setG {W Q L h r o R R' out h' h1 g f gv} (T : XTo W Q L h r o ⟨R, out⟩ h') (X : Ext nof h' h1) (row : h'[r]? = some (some (.arr 21 [R.row g f] false))) (ho : Own (dInts R'.granted) (fun m => h'.length <= m) h1 gv) (hc : canApp h1 gv) (e2 : R'.flows = R.flows) (hW : ∀ k, k ≠ 0 -> W k) :
  XTo W Q L h r o ⟨R', out⟩ (h1.set r (some (.arr 21 [R'.row gv f] false))) := by
 obtain ⟨L1, x1, l1, e1'⟩ := T
 obtain ⟨g1, f1, ra⟩ := x1.r
 obtain ⟨ma, ca, aa, oa⟩ := x1.o
 have := ra.row.symm.trans row
 simp only [Option.some.injEq, ABlk.arr.injEq, List.cons.injEq, Raft.row] at this
 obtain ⟨-, ⟨⟨-, -, -, -, -, -, -, -, -, -, -, -, -, -, -, -, -, rfl, rfl, -⟩, -⟩, -⟩ := this
 have lr := (List.getElem?_eq_some_iff.1 ra.row).1
 have lr1 : r < h1.length := by have := X.1; omega
 have ne : ∀ m, m ≠ r -> (h1.set r (some (.arr 21 [R'.row gv f1] false)))[m]? = h1[m]? := fun m hm => List.getElem?_set_ne (fun e => hm e.symm)
 have st : ∀ m, m < h'.length -> m ≠ r -> (h1.set r (some (.arr 21 [R'.row gv f1] false)))[m]? = h'[m]? := fun m hm hr => (ne m hr).trans (X.2 m hm (fun y => y))
 have old : ∀ {m}, m < h'.length -> relab L1 nof h'.length h1.length 1 m = L1 m := fun {m} hm => relab_old (.inr ⟨fun y => y, hm⟩)
 have nr : ∀ m, L1 m ≠ 6 -> m ≠ r := fun m hm e => hm (e ▸ ra.lr)
 have hl := X.1
 refine XTo.trans1 l1 e1' (fun _ _ y => y) ⟨relab L1 nof h'.length h1.length 1, ⟨⟨gv, f1, List.getElem?_set_self lr1, ?_, ?_, ?_, ?_, (old lr).trans ra.lr⟩, ⟨ma, ca, aa, oa.keep (fun m hm _ => old hm) fun m hm c => st m hm (nr m (by omega))⟩, fun m hm => by rw [List.length_set]; exact relab_lt (fun z => by have := x1.lt m z; omega) hm⟩, fun m hm _ => old hm, ?_⟩
 ·exact Own.mono _ (fun m hm => relab_new (x1.ge hm.1) hm.2 (.inr hm.1)) (fun m hm y hy => (ne m (by omega)).trans hy) _ (Own.lt _ _ ho)
 ·exact hc.keep ho (fun m hm y hy => (ne m (by omega)).trans hy)
 ·rw [e2]
  exact Own.mono _ (fun m hm => (old hm.2).trans hm.1) (fun m hm y hy => (st m hm.2 (nr m (by omega))).trans hy) _ (Own.lt _ _ ra.fo)
 ·exact ra.fc.keep (Own.lt _ _ ra.fo) (fun m hm y hy => (st m hm.2 (nr m (by omega))).trans hy)
 ·exact X.trans (Ext.set (F := fun m => m = r) _ (fun _ => rfl)) (F'' := fun m => W (L1 m) \/ Q m) (fun _ _ y => y.elim) (fun m _ y => .inl (by rw [y]; exact hW _ (by rw [ra.lr]; omega)))
theorem sends_snoc (x : RX) (l : List Msg) (w : Msg) : x.sends (l ++ [w]) = (x.sends l).send w := by unfold RX.sends; rw [List.foldl_append]; rfl
def RStandOk (P : Program) (f : FuncId) : Prop := isFn P f = true /\ ∀ (L : Nat -> Nat) (h : AHeap) (r o : Nat) (x : RX) (k j : Nat) (draw : Int), XAt L h r o x -> x.r.fit k -> k < 2^28 -> x.few j -> j + 1 < 2^20 -> x.r.hard.term < 2^40 ->
 ACalls P f [.agg [.ptr r 21 0 0, .ptr o 5 0 0], .int .i64 draw] h fun _ h' => XTo wA nof L h r o (x.stand draw) h'
theorem rstand_ok {P : Program} {f f1 f2 f3 f4 f5 f6 f7 f8 : FuncId} (hf : Is P f (c_raft_call_stand f1 f2 f3 f4 f5 f6 f7 f8)) (u1 : TermSOk P f1) (u2 : FollowOk P f2) (u3 : TimeOk P f3) (u4 : NowOk P f4) (u5 : WonOk P f5) (u6 : RLeadOk P f6) (u7 : AsksOk P f7) (u8 : SendOk P f8) : RStandOk P f := by
 refine ⟨hf.2, fun L h r o x k j draw hx hfit hk hj hj2 hterm => fun_sound hf.1 (Nat.le_of_ble_eq_true rfl) ?_⟩
 show vc P (c_raft_call_stand f1 f2 f3 f4 f5 f6 f7 f8).code ⟨[(0, .agg [.ptr r 21 0 0, .ptr o 5 0 0]), (1, .int .i64 draw)], [], h⟩ (atEnd (c_raft_call_stand f1 f2 f3 f4 f5 f6 f7 f8).res _)
 have ap := hx.apart
 obtain ⟨R, out⟩ := x
 simp only at hfit hterm
 have X1 := Ext.b1 (h := h) (some (ABlk.arr 2 [[.ptr r 21 0 0, .ptr o 5 0 0]] false))
 have hx1 := hx.up X1
 have z2 : ∀ m, h.length <= m -> ¬ wA (L m) := fun m e => by rw [hx.ge e]; exact wA0
 have B1 := bx10 h (some (ABlk.arr 2 [[.ptr r 21 0 0, .ptr o 5 0 0]] false))
 obtain ⟨g, ff, rr⟩ := hx1.rowR
 have rr' := rr
 simp only [Raft.row] at rr'
 have ht := hfit.term
 have ew : IntKind.i64.wrap (R.hard.term + 1) = R.hard.term + 1 := wrap_i64 (by omega)
 simp only [c_raft_call_stand, go_sem, reduceEqDiff, reduceAdd, reduceLeDiff, rr', B1, ew]
 have t1 := u1.2 L _ r o ⟨R, out⟩ (R.hard.term + 1) R.id hx1 (by have := hj.2; show (out.changes.length + 1) * 216 <= 2^46; have a : out.changes.length + 1 <= 2^21 := by { have b : out.changes.length <= j := this; omega }; exact Nat.le_trans (Nat.mul_le_mul_right 216 a) (by decide))
 refine wCall_use ⟨u1.1, t1⟩ ?_
 intro _ H2 T2
 have D2 := T2.keep (z2 _ (Nat.le_refl _)) (fun y => y) B1
 rw [kDB_mk0]
 simp only [go_sem, reduceEqDiff, reduceAdd, reduceLeDiff, reducePow, reduceDiv, reduceMod, decide_true, D2]
 have t2 := XTo.callM (Q' := nof) T2 (Ext.refl _ _) (fun _ _ y => y) fun L1 x1 => u2.2 L1 H2 r o _ 0 x1
 refine wCall_use ⟨u2.1, t2⟩ ?_
 intro _ H3 T3
 have D3 := T3.keep (z2 _ (Nat.le_refl _)) (fun y => y) B1
 obtain ⟨y, hy⟩ : ∃ y, y = ((({ r := R, o := out } : RX).term (R.hard.term + 1) R.id).follow 0) := ⟨_, rfl⟩
 have yfit : y.r.fit k := by
  rw [hy]
  have := (hfit.setTerm (t := R.hard.term + 1) (v := R.id) ⟨by omega, by omega⟩ ⟨by have := hfit.id; omega, by have := hfit.id; omega⟩).follow 0
  exact this
 have yfew : y.few (j + 1) := by
  rw [hy]
  have := RX.few.tell (x := ({ r := { R with hard := { R.hard with term := R.hard.term + 1, vote := R.id } }, o := out } : RX)) hj { Change.zero with kind := 1, term := R.hard.term + 1, voted := R.id }
  exact this
 have yid : y.r.id = R.id := by rw [hy]; rfl
 have est : (({ r := R, o := out } : RX).stand draw) = (let z : RX := { y with r := { y.r with role := 1, elapsed := 0, timeout := wait draw, granted := [y.r.id] } }
  if z.r.now.won z.r.granted then z.lead else z.sends (asks z.r.id z.r.hard.group z.r.hard.term z.r.hard.log z.r.now)) := by rw [hy]; rfl
 rw [est]
 rw [<- hy] at T3
 clear hy est T2 t2 t1
 obtain ⟨Y, yo⟩ := y
 obtain ⟨g3, f3', r3⟩ := T3.rowR
 have r3' := r3
 simp only [Raft.row] at r3'
 simp only at yfit
 obtain ⟨ap1, ap2, ap3⟩ := ap
 have lh3 := (List.getElem?_eq_some_iff.1 D3).1
 have lr3 := (List.getElem?_eq_some_iff.1 r3).1
 have D3n : ∀ a, (H3 ++ [a])[h.length]? = _ := fun a => (Ext.b1 a).get D3
 have r3n : ∀ a, (H3 ++ [a])[r]? = _ := fun a => (Ext.b1 a).get r3'
 have NR : ∀ sz i o', notRes H3.length 1 (.ptr r sz i o') = true := fun sz i o' => notRes_lt lr3
 have NB : ∀ sz i o', notRes H3.length 1 (.ptr h.length sz i o') = true := fun sz i o' => notRes_lt lh3
 have q0 : (r = h.length) = False := eq_false (by omega)
 have q1 : (r = H3.length) = False := eq_false (by omega)
 have q2 : r < H3.length + 1 := by omega
 have q3 : (h.length = r) = False := eq_false (by omega)
 have q4 : (h.length = H3.length) = False := eq_false (by omega)
 have SA : ∀ x v, (H3 ++ [x]).set r v = H3.set r v ++ [x] := fun x v => by rw [List.set_append_left _ _ lr3]
 have SB : ∀ v x y, (H3.set r v ++ [x]).set H3.length y = H3.set r v ++ [y] := fun v x y => by rw [List.set_append_right _ _ (by rw [List.length_set]; exact Nat.le_refl _)]; simp
 have SC : ∀ v w x, (H3.set r v ++ [x]).set r w = H3.set r w ++ [x] := fun v w x => by rw [List.set_append_left _ _ (by rw [List.length_set]; exact lr3), List.set_set]
 have GA : ∀ v x, (H3.set r v ++ [x])[r]? = some v := fun v x => by rw [List.getElem?_append_left (by rw [List.length_set]; exact lr3), List.getElem?_set_self lr3]
 have GB : ∀ v x, (H3.set r v ++ [x])[h.length]? = some (some (ABlk.arr 2 [[.ptr r 21 0 0, .ptr o 5 0 0]] false)) := fun v x => by rw [List.getElem?_append_left (by rw [List.length_set]; exact lh3), List.getElem?_set_ne (by omega)]; exact D3
 have GC : ∀ v x, (H3.set r v ++ [x])[H3.length]? = some x := fun v x => by rw [List.getElem?_append_right (by rw [List.length_set]; exact Nat.le_refl _), List.length_set]; simp
 have GN : (H3 ++ [none])[H3.length]? = some none := by simp
 simp only [go_sem, reduceEqDiff, reduceAdd, reducePow, reduceDiv, reduceMod, loose_cons, D3n, r3n, NR, NB]
 refine use1 u3.1 (u3.2 _ draw) ?_
 simp only [go_sem, reduceEqDiff, reduceAdd, reduceLeDiff, reducePow, reduceDiv, reduceMod, decide_true, loose_cons, D3n, r3n, SA, SB, SC, GA, GB, GC, GN, List.length_set, List.length_append, Bool.or_true, Bool.true_or]
 have og : Own (dInts [Y.id]) (fun m => H3.length <= m) (H3 ++ [some (ABlk.arr 1 [[.int .i64 Y.id]] false)]) (.ref H3.length 1 0 1 (some 1)) := .inr (.inr ⟨_, 0, some 1, _, _, rfl, Nat.le_refl _, bx10 _ _, by simp, (fun c hc => by cases hc; simp), by simp [OwnLL, OwnL, Own]⟩)
 have cg : canApp (H3 ++ [some (ABlk.arr 1 [[.int .i64 Y.id]] false)]) (.ref H3.length 1 0 1 (some 1)) := ⟨_, _, bx10 _ _, (fun e => by cases e), (fun c hc => by cases hc; simp)⟩
 have T4 := XTo.setG (R' := { Y with role := 1, elapsed := 0, timeout := wait draw, granted := [Y.id] }) T3 (Ext.b1 (some (ABlk.arr 1 [[.int .i64 Y.id]] false))) r3 og cg rfl (fun _ z => z)
 rw [SA] at T4
 obtain ⟨Z, hZ⟩ : ∃ Z : Raft, Z = { Y with role := 1, elapsed := 0, timeout := wait draw, granted := [Y.id] } := ⟨_, rfl⟩
 have zfit : Z.fit k := by
  rw [hZ]
  obtain ⟨g1, g2, g3, g4, g5, g6, g7, g8, g9, g10, g11, g12, g13, g14, g15⟩ := yfit
  exact ⟨g1, g2, g3, g4, g5, g6, g7, g8, g9, ⟨Int.le_refl _, by show (0 : Int) <= k; omega⟩, g11, g12, by show [Y.id].length <= k + 1; simp, g14, g15⟩
 have zg : Z.granted = [Y.id] := by rw [hZ]
 have zrow : ∀ g f, Z.row g f = [.int .i64 Y.id, .int .i64 Y.hard.group, .int .i64 Y.hard.term, .int .i64 Y.hard.vote, .int .i64 Y.hard.log.base, .int .i64 Y.hard.log.bterm, aentries Y.hard.log.es, aints Y.hard.conf.old, aints Y.hard.conf.new, aints Y.hard.conf.learners, abytes Y.hard.snap,
  .int .i64 Y.commit, .int .i64 Y.applied, .int .i64 1, .int .i64 Y.leader, .int .i64 0, .int .i64 (wait draw), g, f, .int .i64 Y.round, .int .i64 Y.beat] := fun g f => by rw [hZ]; rfl
 have rg4 : Rd (fun _ => True) (H3.set r (some (.arr 21 [Z.row (.ref H3.length 1 0 1 (some 1)) f3'] false)) ++ [some (ABlk.arr 1 [[.int .i64 Y.id]] false)]) (dInts Z.granted) (.ref H3.length 1 0 1 (some 1)) := by
  rw [zg]
  exact ⟨_, .inr (.inr ⟨_, 0, 1, some 1, _, _, rfl, trivial, GC _ _, by simp, (fun c hc => by cases hc; simp), rfl⟩), by simp [RdLL, RdL, Rd]⟩
 have r4 := GA (some (.arr 21 [Z.row (.ref H3.length 1 0 1 (some 1)) f3'] false)) (some (ABlk.arr 1 [[.int .i64 Y.id]] false))
 rw [<- hZ] at T4
 have zrow' := zrow (.ref H3.length 1 0 1 (some 1)) f3'
 rw [zrow'] at T4 rg4 r4
 generalize hH4 : (H3.set r _ ++ _ : AHeap) = H4 at *
 have C4 := T4.keep (z2 _ (Nat.le_refl _)) (fun y => y) B1
 have ez : Z.id = Y.id /\ Z.hard = Y.hard := by rw [hZ]; exact ⟨rfl, rfl⟩
 have zfew : (⟨Z, yo⟩ : RX).few (j + 1) := yfew
 have stz : ((let z : RX := { ({ r := Y, o := yo } : RX) with r := { Y with role := 1, elapsed := 0, timeout := wait draw, granted := [Y.id] } }
  if z.r.now.won z.r.granted then z.lead else z.sends (asks z.r.id z.r.hard.group z.r.hard.term z.r.hard.log z.r.now))) = if Z.now.won Z.granted then RX.lead ⟨Z, yo⟩ else RX.sends ⟨Z, yo⟩ (asks Z.id Z.hard.group Z.hard.term Z.hard.log Z.now) := by rw [hZ]
 rw [stz]
 clear stz
 refine use1 u4.1 (u4.2 H4 r Z T4.rowR (zfit.ofR (by omega))) ?_
 rw [kDB_mk0]
 simp only [go_sem, reduceEqDiff, reducePow, reduceDiv, reduceMod, decide_true, C4, r4, Conf.v_eq]
 refine use1 u5.1 (u5.2 nof (fun _ => True) H4 Z.now Z.granted _ _ (rd_confv' Z.now H4) rg4 (zfit.nowFew (by decide)) (by rw [zg]; simp)) ?_
 rw [kDB_mk0]
 simp only [go_sem, reduceEqDiff, reducePow, reduceDiv, reduceMod, decide_true, C4, r4]
 cases cw : Z.now.won Z.granted
 ·simp only [go_sem, reduceEqDiff, reduceAdd, reduceLeDiff, C4, r4, Bool.false_eq_true, if_false]
  refine use1 u4.1 (u4.2 H4 r Z T4.rowR (zfit.ofR (by omega))) ?_
  rw [kDB_mk0]
  simp only [go_sem, reduceEqDiff, reduceAdd, reduceLeDiff, reducePow, reduceDiv, reduceMod, decide_true, C4, r4, Conf.v_eq]
  have ak := u7.2 nof nof H4 Z.id Z.hard.group Z.hard.term Z.hard.log Z.now _ _ (rd_logv' Z.hard.log H4) (rd_confv' Z.now H4) (zfit.logOk (by omega)) (zfit.nowFew (by decide))
  rw [ez.1, ez.2] at ak ⊢
  refine wCall_use ⟨u7.1, ak⟩ ?_
  rintro a H5 ⟨oo, X5⟩
  have hno := asks_no (id := Y.id) (group := Y.hard.group) (term := Y.hard.term) (l := Y.hard.log) (c := Z.now)
  have hal : (asks Y.id Y.hard.group Y.hard.term Y.hard.log Z.now).length <= 14 := Nat.le_trans (asks_len _ _ _ _ _) (voters_len zfit.now)
  generalize asks Y.id Y.hard.group Y.hard.term Y.hard.log Z.now = ms at *
  obtain ⟨lna, sa⟩ := oo.len
  have C5 := X5.get C4
  have r5 := X5.get r4
  simp only [List.length_map] at lna
  rw [kDB_mk0]
  simp only [go_sem, reduceEqDiff, reduceAdd, reduceLeDiff, reducePow, reduceDiv, reduceMod, decide_true, C5, r5, lna]
  obtain ⟨L5, x4, l5, e4⟩ := T4
  have x5 := x4.up X5
  have e5 : Ext (fun m => wA (L m) \/ nof m) (h ++ [some (ABlk.arr 2 [[.ptr r 21 0 0, .ptr o 5 0 0]] false)]) H5 := e4.trans X5 (fun _ _ z => z) (fun _ _ z => z.elim)
  have lh4 := (List.getElem?_eq_some_iff.1 C4).1
  have z5 : ∀ m, H4.length <= m -> ¬ wO (L5 m) := fun m hm => by rw [x4.ge hm]; unfold wO; omega
  have zb : ¬ wO (L5 h.length) := by
   rw [l5 h.length (by simp) (.inr (fun z => z)), hx.ge (Nat.le_refl _)]; unfold wO; omega
  obtain ⟨I, hI⟩ : ∃ I : Nat -> Env -> AHeap -> Prop, ∀ m Le h', I m Le h' ↔ ∃ i : Nat, lk 2 Le = .ptr h.length 2 0 0 /\ lk 84 Le = a /\ lk 85 Le = .int .i64 ms.length /\ lk 86 Le = .int .i64 i /\ XTo wO nof L5 H5 r o (RX.sends ⟨Z, yo⟩ (ms.take i)) h' /\ i <= ms.length /\ m = ms.length - i := ⟨_, fun _ _ _ => Iff.rfl⟩
  refine vc_loop I ms.length ((hI _ _ _).2 ⟨0, by simp [lk_ins], by simp [lk_ins], by simp [lk_ins], by simp [lk_ins], x5.to, by omega, by omega⟩) ?_
  intro m Le h' hh
  obtain ⟨i, k2, k84, k85, k86, T, hi, rfl⟩ := (hI _ _ _).1 hh
  simp only [c_raft_call_stand_l0, go_sem, k85, k86]
  refine wCond_split (fun ci => ?_) (fun ci => ?_)
  ·simp at ci
   have ci : i < ms.length := by omega
   have ew : IntKind.i64.wrap ((i : Int) + 1) = ((i + 1 : Nat) : Int) := by rw [wrap_i64 (by omega)]; omega
   obtain ⟨n, q, row, gr, i1, i2, i3, i4⟩ := oo.at' (i := i) (e := mrow ms[i]) (by rw [List.getElem?_map, List.getElem?_eq_getElem ci]; rfl)
   have tk : ms.take (i + 1) = ms.take i ++ [ms[i]] := List.take_succ_eq_append_getElem ci
   obtain ⟨ne1, ne2⟩ := hno _ (List.getElem_mem ci)
   have sr := sends_r (ms.take i) ⟨Z, yo⟩
   have tl := List.length_take_le i ms
   have sn := sends_snoc ⟨Z, yo⟩ (ms.take i) ms[i]
   generalize ms[i] = m at *
   have i5 := T.keep (z5 n i2) (fun z => z) i3
   have C6 := T.keep zb (fun z => z) C5
   have ld : aload h' true 17 (.ptr n 17 q 0) = some (.agg (mrow m)) := by rw [aload_p (cs := mrow m) (by simp [pcells, i5, i4])]; rfl
   have C6' : ∀ b, (h' ++ [b])[h.length]? = _ := fun b => (Ext.b1 b).get C6
   simp only [mrow, Msg.cells] at ld
   simp only [go_sem, reduceEqDiff, reduceAdd, reduceLeDiff, k2, k84, k86, i1, ld, C6']
   have sd := XTo.callM (Q' := nof) (h3 := h' ++ [some (ABlk.arr 17 [mrow m] false)]) T (Ext.b1 _) (fun _ _ y => y) fun L1 x1 => u8.2 nof L1 (h' ++ [some (ABlk.arr 17 [mrow m] false)]) r o _ m .nils .nils (x1.up (Ext.b1 _)) (by rw [ne1]; exact Own.nils 3) (by rw [ne2]; exact Own.nils 1) (fun _ z => z.elim) (by
    have h1 := sr.2.2; have h2 := zfew.1
    have a : (RX.sends ⟨Z, yo⟩ (ms.take i)).o.msgs.length + 1 <= 2^21 := by
     have h3 : yo.msgs.length <= j + 1 := h2
     have h4 : (RX.sends ⟨Z, yo⟩ (ms.take i)).o.msgs.length = yo.msgs.length + (ms.take i).length := h1
     omega
    exact Nat.le_trans (Nat.mul_le_mul_right 168 a) (by decide))
   simp only [mrow, Msg.cells] at sd
   refine wCall_use ⟨u8.1, sd⟩ ?_
   intro _ h2 T2
   simp only [go_sem, reduceEqDiff, k86, ew]
   exact ⟨_, by omega, (hI _ _ _).2 ⟨i + 1, by simp [lk_ins, k2], by simp [lk_ins, k84], by simp [lk_ins, k85], by simp [lk_ins], by rw [tk, sn]; exact T2, by omega, rfl⟩⟩
  ·simp at ci
   obtain rfl : i = ms.length := by omega
   rw [List.take_length] at T
   simp only [go_sem]
   exact XTo.from X1 (XTo.trans1 l5 e5 (fun _ _ y => y) (T.weakW wO_wA))
 ·simp only [go_sem, reduceEqDiff, reduceAdd, reduceLeDiff, C4, if_true]
  have t6 := XTo.callM (Q' := nof) T4 (Ext.refl _ _) (fun _ _ y => y) fun L1 x1 => u6.2 L1 H4 r o ⟨Z, yo⟩ k (j + 1) x1 zfit hk zfew hj2
  refine wCall_use ⟨u6.1, t6⟩ ?_
  intro _ H5 T5
  simp only [go_sem]
  exact XTo.from X1 T5
end Glb
namespace Glb
open Go
open Nat (reduceAdd reduceDiv reduceEqDiff reduceLeDiff reduceMod reducePow)
set_option maxRecDepth 10000
set_option maxHeartbeats 8000000
def MsgAt (L : Nat -> Nat) (h : AHeap) (m : Msg) (a : List AV) : Prop := ∃ G : Nat -> Prop, RdL G h m.c a /\ ∀ n, G n -> L n = 0
theorem MsgAt.to {W : Nat -> Prop} {L h r o x h' m a} (hm : MsgAt L h m a) {L1} (x1 : XAt L1 h' r o x) (l1 : ∀ m, m < h.length -> L m ≠ 0 \/ ¬ nof m -> L1 m = L m) (e1 : Ext (fun m => W (L m) \/ nof m) h h') (hW : ¬ W 0) : MsgAt L1 h' m a := by
 obtain ⟨G, hr, h0⟩ := hm
 exact ⟨fun n => G n /\ n < h.length, RdL.mono (fun _ y => y) (fun n hn y hy => (e1.2 n hn.2 (fun z => by rcases z with z | z; rw [h0 n hn.1] at z; exact hW z; exact z)).trans hy) _ _ (RdL.lt _ _ hr), fun n hn => (l1 n hn.2 (.inr (fun z => z))).trans (h0 n hn.1)⟩
theorem XTo.callK {P : Program} {f : FuncId} {avs : List AV} {W L h r o x h' x' m a} (T : XTo W nof L h r o x h') (hm : MsgAt L h m a) (hW : ¬ W 0)
  (hc : ∀ L1, XAt L1 h' r o x -> MsgAt L1 h' m a -> ACalls P f avs h' fun _ h'' => XTo W nof L1 h' r o x' h'') : ACalls P f avs h' fun _ h'' => XTo W nof L h r o x' h'' := by
 obtain ⟨L1, x1, l1, e1⟩ := T
 exact (hc L1 x1 (hm.to x1 l1 e1 hW)).mono fun _ _ b => XTo.trans1 l1 e1 (fun _ _ y => y) b
def RAskedOk (P : Program) (f : FuncId) : Prop := isFn P f = true /\ ∀ (L : Nat -> Nat) (h : AHeap) (r o : Nat) (x : RX) (k j : Nat) (m : Msg) (a : List AV), XAt L h r o x -> x.r.fit k -> k <= 2^28 -> x.few j -> j + 1 < 2^20 -> MsgAt L h m a ->
 ACalls P f [.agg [.ptr r 21 0 0, .ptr o 5 0 0], .agg a] h fun _ h' => XTo wA nof L h r o (x.asked m) h'
theorem few_b {n j : Nat} (h : n <= j) (hj : j < 2^20) (b : Nat) (hb : b <= 216) : (n + 1) * b <= 2^46 := Nat.le_trans (Nat.mul_le_mul (show n + 1 <= 2^20 by omega) hb) (by decide)
theorem rasked_ok {P : Program} {f f1 f2 f3 : FuncId} (hf : Is P f (c_raft_call_asked f1 f2 f3)) (u1 : GrantsOk P f1) (u2 : TermSOk P f2) (u3 : SendOk P f3) : RAskedOk P f := by
 refine ⟨hf.2, fun L h r o x k j m a hx hfit hk hj hj2 hm => fun_sound hf.1 (Nat.le_of_ble_eq_true rfl) ?_⟩
 show vc P (c_raft_call_asked f1 f2 f3).code ⟨[(0, .agg [.ptr r 21 0 0, .ptr o 5 0 0]), (1, .agg a)], [], h⟩ (atEnd (c_raft_call_asked f1 f2 f3).res _)
 obtain ⟨G, hr, h0⟩ := id hm
 obtain ⟨e, d, rfl, he, hd⟩ := rd_msgL hr
 have ap := hx.apart
 obtain ⟨R, out⟩ := x
 simp only at hfit
 obtain ⟨H, hH⟩ : ∃ H, H = h ++ [some (ABlk.arr 2 [[.ptr r 21 0 0, .ptr o 5 0 0]] false)] ++ [some (ABlk.arr 17 [m.cells e d] false)] := ⟨_, rfl⟩
 have X1 : Ext nof h H := by rw [hH]; exact Ext.b2 _ _
 have C0 : H[h.length]? = some (some (ABlk.arr 2 [[.ptr r 21 0 0, .ptr o 5 0 0]] false)) := by rw [hH]; exact bx20 _ _ _
 have C1 : H[h.length + 1]? = some (some (ABlk.arr 17 [m.cells e d] false)) := by rw [hH]; exact bx21 _ _ _
 have hx1 := hx.up X1
 have z2 : ∀ m, h.length <= m -> ¬ wA (L m) := fun m e => by rw [hx.ge e]; exact wA0
 have second : ∀ (Le : Env) (H' : AHeap) (y : RX) (ok : Bool), (RX.asked ⟨R, out⟩ m) = y.send { Msg.zero with kind := 2, to := m.from_, ok := ok } -> y.few (j + 1) -> lk 2 Le = .ptr h.length 2 0 0 -> lk 3 Le = .ptr (h.length + 1) 17 0 0 -> lk 4 Le = .bool ok -> XTo wA nof L H r o y H' ->
   vc P (c_raft_call_asked f1 f2 f3).code.tl.tl.tl ⟨Le, [], H'⟩ (atEnd (c_raft_call_asked f1 f2 f3).res fun _ h' => XTo wA nof L h r o (RX.asked ⟨R, out⟩ m) h') := by
  intro Le H' y ok ey yf k2 k3 k4 T
  have D0 := T.keep (z2 _ (Nat.le_refl _)) (fun y => y) C0
  have D1 := T.keep (z2 _ (by omega)) (fun y => y) C1
  simp only [Msg.cells] at D1
  rw [ey]
  simp only [c_raft_call_asked, AC.tl_seq, go_sem, reduceEqDiff, reduceAdd, reduceLeDiff, k2, k3, k4, D0, D1]
  have sd := XTo.callM (Q' := nof) T (Ext.refl _ _) (fun _ _ y => y) fun L1 x1 => (u3.2 nof L1 H' r o y { Msg.zero with kind := 2, to := m.from_, ok := ok } .nils .nils x1 (Own.nils 3) (Own.nils 1) (fun _ z => z.elim) (few_b yf.1 hj2 168 (by omega))).mono fun _ _ b => b.weakW wO_wA
  refine wCall_use ⟨u3.1, sd⟩ ?_
  intro _ H2 T2
  simp only [go_sem]
  exact XTo.from X1 T2
 have e0 : (c_raft_call_asked f1 f2 f3).code = .seq (c_raft_call_asked f1 f2 f3).code.hd (.seq (c_raft_call_asked f1 f2 f3).code.tl.hd (.seq (c_raft_call_asked f1 f2 f3).code.tl.tl.hd (c_raft_call_asked f1 f2 f3).code.tl.tl.tl)) := rfl
 rw [e0]
 generalize (c_raft_call_asked f1 f2 f3).code.tl.tl.tl = D at second ⊢
 obtain ⟨g, ff, rr⟩ := hx1.rowR
 have rr' := rr
 have C1' := C1
 simp only [Raft.row] at rr'
 simp only [Msg.cells] at C1' hH
 simp only [c_raft_call_asked, AC.hd_seq, AC.tl_seq, go_sem, reduceEqDiff, reduceAdd, Msg.cells, he.scalar, hd.scalar]
 rw [<- hH]
 clear hH
 simp only [go_sem, reduceEqDiff, reduceAdd, reduceLeDiff, rr', C0, C1']
 have gr := u1.2 nof G H R.hard.term R.hard.vote R.hard.log m _ _ (rd_logv' R.hard.log H) (RdL.mono (fun _ y => y) (X1.keep _) _ _ hr) (hfit.logOk hk)
 simp only [Msg.cells] at gr
 refine use1 u1.1 gr ?_
 rw [kDB_mk0]
 have snd := second
 simp only [c_raft_call_asked] at snd
 have lr := (List.getElem?_eq_some_iff.1 rr).1
 have q0 : (h.length = r) = False := eq_false (by omega)
 have q1 : (h.length + 1 = r) = False := eq_false (by omega)
 have q2 : (r = h.length) = False := eq_false (by omega)
 have q3 : (r = h.length + 1) = False := eq_false (by omega)
 simp only [go_sem, reduceEqDiff, reduceAdd, reduceLeDiff, reducePow, reduceDiv, reduceMod, decide_true, rr', C0, C1']
 have easked : (RX.asked ⟨R, out⟩ m) = (if grants R.hard.term R.hard.vote R.hard.log m then (let z : RX := ⟨{ R with elapsed := 0 }, out⟩; if z.r.hard.vote = m.from_ then z else z.term z.r.hard.term m.from_) else ⟨R, out⟩).send { Msg.zero with kind := 2, to := m.from_, ok := grants R.hard.term R.hard.vote R.hard.log m } := rfl
 cases cg : grants R.hard.term R.hard.vote R.hard.log m
 ·rw [cg] at easked
  simp only [go_sem]
  refine snd _ H ⟨R, out⟩ false easked (hj.mono (by omega)) ?_ ?_ ?_ hx1.to <;> simp [lk_ins]
 ·rw [cg] at easked
  have T0 := XTo.setR (R' := { R with elapsed := 0 }) (hx1.to (W := wA) (Q := nof)) rr rfl rfl (fun _ z => z)
  simp only [Raft.row] at T0
  simp only [go_sem, reduceEqDiff, reduceAdd, reduceLeDiff, rr', C0, C1', q2, q3, lr]
  generalize hH2 : H.set r _ = H2 at *
  have D0 := T0.keep (z2 _ (Nat.le_refl _)) (fun y => y) C0
  have D1 := T0.keep (z2 _ (by omega)) (fun y => y) C1'
  have rE : H2[r]? = some (some (.arr 21 [({ R with elapsed := 0 } : Raft).row g ff] false)) := by rw [<- hH2]; exact List.getElem?_set_self lr
  simp only [Raft.row] at rE
  simp only [if_true] at easked
  by_cases cv : R.hard.vote = m.from_
  ·simp only [if_pos cv] at easked
   simp only [go_sem, decide_eq_true cv, Bool.not_true]
   refine snd _ H2 ⟨{ R with elapsed := 0 }, out⟩ true easked (RX.few.mono (x := ⟨{ R with elapsed := 0 }, out⟩) hj (by omega)) ?_ ?_ ?_ T0 <;> simp [lk_ins]
  ·simp only [if_neg cv] at easked
   simp only [go_sem, reduceEqDiff, reduceAdd, reduceLeDiff, rE, D0, D1, decide_eq_false cv, Bool.not_false]
   have tm := XTo.callM (Q' := nof) T0 (Ext.refl _ _) (fun _ _ y => y) fun L1 x1 => u2.2 L1 H2 r o _ R.hard.term m.from_ x1 (few_b (show out.changes.length <= j from hj.2) (by omega) 216 (by omega))
   refine wCall_use ⟨u2.1, tm⟩ ?_
   intro _ H3 T3
   rw [kDB_mk0]
   simp only [go_sem, reducePow, reduceDiv, reduceMod, decide_true]
   refine snd _ H3 _ true easked (RX.few.tell (x := ({ r := { R with elapsed := 0, hard := { R.hard with vote := m.from_ } }, o := out } : RX)) hj { Change.zero with kind := 1, term := R.hard.term, voted := m.from_ }) ?_ ?_ ?_ T3 <;> simp [lk_ins]
end Glb
namespace Glb
open Go
open Nat (reduceAdd reduceDiv reduceEqDiff reduceLeDiff reduceMod reducePow)
set_option maxRecDepth 10000
set_option maxHeartbeats 8000000
theorem XTo.addG {W : Nat -> Prop} {L h r o R out H g f n} {Hb : AHeap} (T : XTo W nof L h r o ⟨R, out⟩ H) (row : H[r]? = some (some (.arr 21 [R.row g f] false))) (X : Ext nof H Hb) (hW : ∀ k, k ≠ 0 -> W k) (hb : R.granted.length <= 2^30) :
  ∃ g' H', aappendY Hb 1 8 g [[.int .i64 n]] = some (g', H') /\ g'.scalar = true /\ Hb.length <= H'.length /\ (∀ m, L m = 0 -> m < h.length \/ H.length <= m -> m < Hb.length -> H'[m]? = Hb[m]?) /\ H'[r]? = some (some (.arr 21 [R.row g f] false)) /\
   canApp H' g' /\ Rd (fun _ => True) H' (dInts (R.granted ++ [n])) g' /\
   XTo W nof L h r o ⟨{ R with granted := R.granted ++ [n] }, out⟩ (H'.set r (some (.arr 21 [({ R with granted := R.granted ++ [n] } : Raft).row g' f] false))) := by
 obtain ⟨L1, x1, l1, e1'⟩ := T
 obtain ⟨g1, f1, ra⟩ := x1.r
 obtain ⟨ma, ca, aa, oa⟩ := x1.o
 have := ra.row.symm.trans row
 simp only [Option.some.injEq, ABlk.arr.injEq, List.cons.injEq, Raft.row] at this
 obtain ⟨-, ⟨⟨-, -, -, -, -, -, -, -, -, -, -, -, -, -, -, -, -, rfl, rfl, -⟩, -⟩, -⟩ := this
 have lr := (List.getElem?_eq_some_iff.1 ra.row).1
 have hl := X.1
 have kg : Keep (fun m => L1 m = 1 /\ m < H.length) H Hb := fun m hm y hy => X.get hy
 have og : Own (dInts R.granted) (fun m => (L1 m = 1 /\ m < H.length) \/ Hb.length <= m) Hb g1 := Own.mono _ (fun m hm => .inl hm) kg _ (Own.lt _ _ ra.go)
 have cg : canApp Hb g1 := ra.gc.keep (Own.lt _ _ ra.go) kg
 obtain ⟨g', H', s1, s2, s3, s4⟩ := own_appF (bytes := 8) (es := [[.int .i64 n]]) (ys := [[.int .i64 n]]) og cg (Ext.refl _ _) (by simp [OwnLL, OwnL, Own]) (fun m hm => .inr hm) (by simp; omega)
 have kk : ∀ m, m < Hb.length -> L1 m ≠ 1 -> H'[m]? = Hb[m]? := fun m hm hn => s4.2 m hm (fun z => by rcases z with z | z; exact hn z.1; omega)
 have hl' := s4.1
 have e4 : dInts (R.granted ++ [n]) = .sl 1 (R.granted.map (fun n => [D.int .i64 n]) ++ [[.int .i64 n]]) := by simp [dInts]
 have rr : H'[r]? = some (some (.arr 21 [R.row g1 f1] false)) := (kk r (by omega) (by rw [ra.lr]; omega)).trans (X.get ra.row)
 have ne : ∀ m, m ≠ r -> (H'.set r (some (.arr 21 [({ R with granted := R.granted ++ [n] } : Raft).row g' f1] false)))[m]? = H'[m]? := fun m hm => List.getElem?_set_ne (fun e => hm e.symm)
 have st : ∀ m, m < H.length -> L1 m ≠ 1 -> m ≠ r -> (H'.set r (some (.arr 21 [({ R with granted := R.granted ++ [n] } : Raft).row g' f1] false)))[m]? = H[m]? := fun m hm h1 hr => (ne m hr).trans ((kk m (by omega) h1).trans (X.2 m hm (fun y => y)))
 have nr : ∀ m, L1 m ≠ 6 -> m ≠ r := fun m hm e => hm (e ▸ ra.lr)
 have old : ∀ {m}, m < H.length -> relab L1 nof Hb.length H'.length 1 m = L1 m := fun {m} hm => relab_old (.inr ⟨fun y => y, by omega⟩)
 have s2l := Own.lt _ _ s2
 have kf : Keep (fun m => L1 m = 2 /\ m < H.length) H (H'.set r (some (.arr 21 [({ R with granted := R.granted ++ [n] } : Raft).row g' f1] false))) := fun m hm y hy => (st m hm.2 (by omega) (nr m (by omega))).trans hy
 have kn : Keep (fun m => ((L1 m = 1 /\ m < H.length) \/ Hb.length <= m) /\ m < H'.length) H' (H'.set r (some (.arr 21 [({ R with granted := R.granted ++ [n] } : Raft).row g' f1] false))) := fun m hm y hy => (ne m (by rcases hm.1 with z | z; exact nr m (by omega); omega)).trans hy
 refine ⟨g', H', s1, s2.scalar, hl', fun m h0 hlt hm => kk m hm ?_, rr, s3, ?_, XTo.trans1 l1 e1' (fun _ _ y => y) ⟨relab L1 nof Hb.length H'.length 1, ⟨⟨g', f1, List.getElem?_set_self (by omega), ?_, ?_, ?_, ?_, (old lr).trans ra.lr⟩, ⟨ma, ca, aa, oa.keep (fun m hm _ => old hm) fun m hm c => st m hm (by omega) (nr m (by omega))⟩, fun m hm => by rw [List.length_set]; exact relab_lt (fun z => by have := x1.lt m z; omega) hm⟩, fun m hm _ => old hm, ?_⟩⟩
 ·rcases hlt with hlt | hlt
  ·rw [l1 m hlt (.inr (fun z => z)), h0]; omega
  ·rw [x1.ge hlt]; omega
 ·rw [e4]; exact Own.rd _ (fun _ _ => trivial) _ s2
 ·show Own (dInts (R.granted ++ [n])) _ _ _
  rw [e4]
  refine Own.mono _ (fun m hm => ?_) kn _ s2l
  rcases hm.1 with z | z
  ·exact (old z.2).trans z.1
  ·exact relab_new (x1.ge (by omega)) hm.2 (.inr z)
 ·exact s3.keep s2l kn
 ·exact Own.mono _ (fun m hm => (old hm.2).trans hm.1) kf _ (Own.lt _ _ ra.fo)
 ·exact ra.fc.keep (Own.lt _ _ ra.fo) kf
 ·refine (X.trans s4 (F'' := fun m => W (L1 m) \/ nof m) (fun _ _ y => y.elim) (fun m hm y => .inl (by rcases y with y | y; exact hW _ (by rw [y.1]; omega); omega))).trans (Ext.set (F := fun m => m = r) _ (fun _ => rfl)) (fun _ _ y => y) (fun m _ y => .inl (by rw [y]; exact hW _ (by rw [ra.lr]; omega)))
def RVotedOk (P : Program) (f : FuncId) : Prop := isFn P f = true /\ ∀ (L : Nat -> Nat) (h : AHeap) (r o : Nat) (x : RX) (k j : Nat) (m : Msg) (a : List AV), XAt L h r o x -> x.r.fit k -> k + 1 < 2^28 -> x.few j -> j < 2^20 -> MsgAt L h m a ->
 ACalls P f [.agg [.ptr r 21 0 0, .ptr o 5 0 0], .agg a] h fun _ h' => XTo wA nof L h r o (x.voted m) h'
theorem rvoted_ok {P : Program} {f f1 f2 f3 f4 f5 : FuncId} (hf : Is P f (c_raft_call_voted f1 f2 f3 f4 f5)) (u1 : HasOk P f1) (u2 : VoterOk P f2) (u3 : NowOk P f3) (u4 : WonOk P f4) (u5 : RLeadOk P f5) : RVotedOk P f := by
 refine ⟨hf.2, fun L h r o x k j m a hx hfit hk hj hj2 hm => fun_sound hf.1 (Nat.le_of_ble_eq_true rfl) ?_⟩
 show vc P (c_raft_call_voted f1 f2 f3 f4 f5).code ⟨[(0, .agg [.ptr r 21 0 0, .ptr o 5 0 0]), (1, .agg a)], [], h⟩ (atEnd (c_raft_call_voted f1 f2 f3 f4 f5).res _)
 obtain ⟨G, hr, h0⟩ := id hm
 obtain ⟨e, d, rfl, he, hd⟩ := rd_msgL hr
 have ap := hx.apart
 obtain ⟨R, out⟩ := x
 simp only at hfit
 obtain ⟨H, hH⟩ : ∃ H, H = h ++ [some (ABlk.arr 2 [[.ptr r 21 0 0, .ptr o 5 0 0]] false)] ++ [some (ABlk.arr 17 [m.cells e d] false)] := ⟨_, rfl⟩
 have X1 : Ext nof h H := by rw [hH]; exact Ext.b2 _ _
 have lH : H.length = h.length + 2 := by rw [hH]; simp
 have C0 : H[h.length]? = some (some (ABlk.arr 2 [[.ptr r 21 0 0, .ptr o 5 0 0]] false)) := by rw [hH]; exact bx20 _ _ _
 have C1 : H[h.length + 1]? = some (some (ABlk.arr 17 [m.cells e d] false)) := by rw [hH]; exact bx21 _ _ _
 have hx1 := hx.up X1
 have z2 : ∀ m, h.length <= m -> ¬ wA (L m) := fun m e => by rw [hx.ge e]; exact wA0
 obtain ⟨g, ff, ra⟩ := hx1.r
 have rr := ra.row
 have rr' := rr
 have C1' := C1
 have rg := Own.rd _ (F' := fun _ => True) (fun _ _ => trivial) _ ra.go
 have sg := ra.go.scalar
 simp only [Raft.row] at rr'
 simp only [Msg.cells] at C1' hH
 have gl := hfit.granted
 simp only [c_raft_call_voted, go_sem, reduceEqDiff, reduceAdd, Msg.cells, he.scalar, hd.scalar]
 rw [<- hH]
 clear hH
 have ex : ∀ (c : ¬ R.role = 1 \/ m.ok = false \/ m.from_ ∈ R.granted \/ R.voter m.from_ = false), (RX.voted ⟨R, out⟩ m) = ⟨R, out⟩ := fun c => if_pos c
 by_cases c1 : R.role = 1
 ·simp only [go_sem, reduceEqDiff, reduceAdd, rr', C1', decide_eq_true c1, Bool.not_true]
  cases c2 : m.ok
  ·simp only [go_sem, reduceEqDiff, Bool.not_false]
   rw [ex (.inr (.inl c2))]
   exact XTo.from X1 hx1.to
  ·simp only [go_sem, reduceEqDiff, reduceAdd, rr', C0, C1', c2, Bool.not_true]
   refine use1 u1.1 (u1.2 (fun _ => True) H R.granted g m.from_ rg (by omega)) ?_
   rw [kDB_mk0]
   cases c3 : decide (m.from_ ∈ R.granted)
   ·simp only [go_sem, reduceEqDiff, reduceAdd, reducePow, reduceDiv, reduceMod, decide_true, rr', C0, C1']
    refine use1 u2.1 (u2.2 H r R m.from_ ⟨g, ff, rr⟩ (hfit.ofR (by omega)) (hfit.nowFew (by decide))) ?_
    rw [kDB_mk0]
    cases c4 : R.voter m.from_
    ·simp only [go_sem, reduceEqDiff, reducePow, reduceDiv, reduceMod, decide_true, rr', C0, C1', Bool.not_false, c2]
     rw [ex (.inr (.inr (.inr c4)))]
     exact XTo.from X1 hx1.to
    ·have n4 : ¬ (¬ R.role = 1 \/ m.ok = false \/ m.from_ ∈ R.granted \/ R.voter m.from_ = false) := by
      rintro (z | z | z | z)
      ·exact z c1
      ·rw [c2] at z; cases z
      ·simp at c3; exact c3 z
      ·rw [c4] at z; cases z
     have ev : (RX.voted ⟨R, out⟩ m) = (let y : RX := ⟨{ R with granted := R.granted ++ [m.from_] }, out⟩; if y.r.now.won y.r.granted then y.lead else y) := if_neg n4
     rw [ev]
     clear ex ev
     have R3 : ∀ b, (H ++ [b])[r]? = _ := fun b => (Ext.b1 b).get rr'
     have D0 : ∀ b, (H ++ [b])[h.length]? = _ := fun b => (Ext.b1 b).get C0
     have D1 : ∀ b, (H ++ [b])[h.length + 1]? = _ := fun b => (Ext.b1 b).get C1'
     have NR : ∀ s sz i o' n, s < H.length -> notRes H.length n (.ptr s sz i o') = true := fun s sz i o' n hs => notRes_lt hs
     have N1 : ∀ sz i o', notRes (h.length + 1 + 1) 1 (.ptr r sz i o') = true := fun sz i o' => notRes_lt (by omega)
     have N2 : ∀ sz i o', notRes (h.length + 1 + 1) 1 (.ptr h.length sz i o') = true := fun sz i o' => notRes_lt (by omega)
     have N3 : ∀ sz i o', notRes (h.length + 1 + 1) 1 (.ptr (h.length + 1) sz i o') = true := fun sz i o' => notRes_lt (by omega)
     simp only [go_sem, reduceEqDiff, reduceAdd, reducePow, reduceDiv, reduceMod, decide_true, loose_cons, rr', C0, C1', Bool.not_true, c2, R3, D0, D1, lH, N1, N2, N3]
     have eset : ∀ b, (H ++ [none]).set (h.length + 2) b = H ++ [b] := fun b => by rw [List.set_append_right _ _ (by omega), lH]; simp
     rw [eset]
     obtain ⟨g', H', s1, s2, s3, s4, s5, s6, s7, s8⟩ := XTo.addG (n := m.from_) (hx1.to (W := wA)) rr (Ext.b1 (some (ABlk.arr 1 [[.int .i64 m.from_]] false))) (fun _ z => z) (by omega)
     rw [<- aappend_of (aelems_new H 1 [_] false (some 1) (len := 1) rfl), lH] at s1
     rw [s1]
     obtain ⟨R', hR'⟩ : ∃ R' : Raft, R' = { R with granted := R.granted ++ [m.from_] } := ⟨_, rfl⟩
     have fit' : R'.fit (k + 1) := by
      rw [hR']
      obtain ⟨g1, g2, g3, g4, g5, g6, g7, g8, g9, g10, g11, g12, g13, g14, g15⟩ := hfit.mono (Nat.le_succ k)
      exact ⟨g1, g2, g3, g4, g5, g6, g7, g8, g9, g10, g11, g12, by show (R.granted ++ [m.from_]).length <= k + 1 + 1; simp; omega, g14, g15⟩
     have eg' : R'.granted = R.granted ++ [m.from_] := by rw [hR']
     have zrow : ∀ g f, R'.row g f = R.row g f := fun g f => by rw [hR']; rfl
     have K0 := (s4 h.length (hx.ge (Nat.le_refl _)) (.inl (by omega)) (by simp; omega)).trans (D0 _)
     have K1 := (s4 (h.length + 1) (hx.ge (by omega)) (.inl (by omega)) (by simp; omega)).trans (D1 _)
     have b2 := bx10 H (some (ABlk.arr 1 [[.int .i64 m.from_]] false))
     rw [lH] at b2
     have K2 := (s4 (h.length + 2) (hx.ge (by omega)) (.inr (by omega)) (by simp [lH])).trans b2
     have lr5 := (List.getElem?_eq_some_iff.1 s5).1
     have s5' := s5
     simp only [Raft.row] at s5'
     have w1 : (h.length = r) = False := eq_false (by omega)
     have w2 : (r = h.length) = False := eq_false (by omega)
     have w3 : (h.length + 2 = r) = False := eq_false (by omega)
     have w4 : (r = h.length + 2) = False := eq_false (by omega)
     have w5 : (r = h.length + 1) = False := eq_false (by omega)
     have w6 : (h.length + 1 = r) = False := eq_false (by omega)
     rw [<- hR'] at s8
     have l8 : r < H'.length := lr5
     have r8 : (H'.set r (some (.arr 21 [R'.row g' ff] false)))[r]? = some (some (.arr 21 [R'.row g' ff] false)) := List.getElem?_set_self l8
     have g8 : Rd (fun m => m ≠ r) (H'.set r (some (.arr 21 [R'.row g' ff] false))) (dInts R'.granted) g' := by
      rw [eg']
      obtain ⟨L8, x8, -⟩ := s8
      obtain ⟨g9, f9, ra9⟩ := x8.r
      have := ra9.row.symm.trans r8
      simp only [Option.some.injEq, ABlk.arr.injEq, List.cons.injEq, Raft.row] at this
      obtain ⟨-, ⟨⟨-, -, -, -, -, -, -, -, -, -, -, -, -, -, -, -, -, rfl, -⟩, -⟩, -⟩ := this
      rw [<- eg']
      exact Own.rd _ (fun m hm => by rintro rfl; rw [ra9.lr] at hm; omega) _ ra9.go
     have E0 := s8.keep (z2 _ (Nat.le_refl _)) (fun z => z) C0
     have E1 := s8.keep (z2 _ (by omega)) (fun z => z) C1'
     rw [zrow] at s8 r8 g8 E0 E1
     have r8' := r8
     simp only [Raft.row] at s8 r8' g8 E0 E1
     have ez : (let y : RX := ⟨{ R with granted := R.granted ++ [m.from_] }, out⟩; if y.r.now.won y.r.granted then y.lead else y) = if R'.now.won R'.granted then RX.lead ⟨R', out⟩ else ⟨R', out⟩ := by rw [hR']
     rw [ez]
     simp only [go_sem, reduceEqDiff, reduceAdd, reduceLeDiff, reducePow, reduceDiv, reduceMod, decide_true, loose_cons, K0, K1, K2, s5', s2, cells_of s2, w2, w4, w5, lr5, Bool.true_or, List.length_set]
     generalize H'.set r _ = H2 at *
     refine use1 u3.1 (u3.2 H2 r R' s8.rowR (fit'.ofR (by omega))) ?_
     rw [kDB_mk0]
     simp only [go_sem, reduceEqDiff, reducePow, reduceDiv, reduceMod, decide_true, E0, r8', Conf.v_eq]
     refine use1 u4.1 (u4.2 nof _ H2 R'.now R'.granted _ _ (rd_confv' R'.now H2) g8 (fit'.nowFew (by decide)) (by rw [eg']; simp; omega)) ?_
     rw [kDB_mk0]
     cases cw : R'.now.won R'.granted
     ·simp only [go_sem, reduceEqDiff, reducePow, reduceDiv, reduceMod, decide_true, E0, r8', Bool.false_eq_true, if_false]
      exact XTo.from X1 s8
     ·simp only [go_sem, reduceEqDiff, reduceAdd, reduceLeDiff, reducePow, reduceDiv, reduceMod, decide_true, E0, r8', if_true]
      have ld := XTo.callM (Q' := nof) s8 (Ext.refl _ _) (fun _ _ y => y) fun L1 x1 => u5.2 L1 H2 r o _ (k + 1) j x1 fit' hk (RX.few.mono (x := ⟨R', out⟩) hj (Nat.le_refl _)) hj2
      refine wCall_use ⟨u5.1, ld⟩ ?_
      intro _ H3 T3
      simp only [go_sem]
      exact XTo.from X1 T3
   ·simp only [go_sem, reduceEqDiff, reducePow, reduceDiv, reduceMod, decide_true, rr', C0, C1', c2]
    rw [ex (.inr (.inr (.inl (by simpa using c3))))]
    exact XTo.from X1 hx1.to
 ·simp only [go_sem, reduceEqDiff, rr', decide_eq_false c1, Bool.not_false]
  rw [ex (.inl c1)]
  exact XTo.from X1 hx1.to
end Glb
namespace Glb
open Go
open Nat (reduceAdd reduceDiv reduceEqDiff reduceLeDiff reduceMod reducePow)
set_option maxRecDepth 10000
set_option maxHeartbeats 8000000
def RAnswerOk (P : Program) (f : FuncId) : Prop := isFn P f = true /\ ∀ (L : Nat -> Nat) (h : AHeap) (r o : Nat) (x : RX) (j : Nat) (m : Msg) (a : List AV) (G : Nat -> Prop) (ok : Bool) (index : Int), XAt L h r o x -> x.few j -> j < 2^20 -> RdL G h m.c a ->
 ACalls P f [.agg [.ptr r 21 0 0, .ptr o 5 0 0], .agg a, .bool ok, .int .i64 index] h fun _ h' => XTo wO nof L h r o (x.answer m ok index) h'
theorem ranswer_ok {P : Program} {f f1 : FuncId} (hf : Is P f (c_raft_call_answer f1)) (u1 : SendOk P f1) : RAnswerOk P f := by
 refine ⟨hf.2, fun L h r o x j m a G ok index hx hj hj2 hr => fun_sound hf.1 (Nat.le_of_ble_eq_true rfl) ?_⟩
 show vc P (c_raft_call_answer f1).code ⟨[(0, .agg [.ptr r 21 0 0, .ptr o 5 0 0]), (1, .agg a), (2, .bool ok), (3, .int .i64 index)], [], h⟩ (atEnd (c_raft_call_answer f1).res _)
 obtain ⟨e, d, rfl, he, hd⟩ := rd_msgL hr
 simp only [c_raft_call_answer, go_sem, reduceEqDiff, reduceAdd, reduceLeDiff, Msg.cells, he.scalar, hd.scalar]
 obtain ⟨H, hH⟩ : ∃ H, H = h ++ [some (ABlk.arr 2 [[.ptr r 21 0 0, .ptr o 5 0 0]] false)] ++ [some (ABlk.arr 17 [m.cells e d] false)] := ⟨_, rfl⟩
 have X1 : Ext nof h H := by rw [hH]; exact Ext.b2 _ _
 simp only [Msg.cells] at hH
 rw [<- hH]
 have sd := u1.2 nof L H r o x { Msg.zero with kind := 4, to := m.from_, ok := ok, index := index, round := m.round } .nils .nils (hx.up X1) (Own.nils 3) (Own.nils 1) (fun _ z => z.elim) (few_b hj.1 hj2 168 (by omega))
 refine wCall_use ⟨u1.1, sd⟩ ?_
 intro _ H2 T2
 simp only [go_sem]
 exact XTo.from X1 T2
theorem XTo.setW {W : Nat -> Prop} {L h r o R out H g f} (T : XTo W nof L h r o ⟨R, out⟩ H) (row : H[r]? = some (some (.arr 21 [R.row g f] false))) (hW : ∀ k, k ≠ 0 -> W k) {i : Nat} (hi : i < R.flows.length) :
  ∃ n j rw gr, aindex 4 f (.int .i64 i) = some (.ptr n 4 j 0) /\ H[n]? = some (some (.arr 4 rw gr)) /\ rw[j]? = some (R.flows[i]).cells /\ n ≠ r /\ n < H.length /\ (∀ m, L m = 0 -> m < h.length \/ H.length <= m -> m ≠ n) /\
   ∀ w : Flow, XTo W nof L h r o ⟨{ R with flows := R.flows.set i w }, out⟩ (H.set n (some (.arr 4 (rw.set j w.cells) gr))) := by
 obtain ⟨L1, x1, l1, e1'⟩ := T
 obtain ⟨g1, f1, ra⟩ := x1.r
 obtain ⟨ma, ca, aa, oa⟩ := x1.o
 have := ra.row.symm.trans row
 simp only [Option.some.injEq, ABlk.arr.injEq, List.cons.injEq, Raft.row] at this
 obtain ⟨-, ⟨⟨-, -, -, -, -, -, -, -, -, -, -, -, -, -, -, -, -, rfl, rfl, -⟩, -⟩, -⟩ := this
 obtain ⟨n, off, rw, gr, cs, len, cap, e1, hn, ix, hrow, hcs, hd, wr⟩ := own_item (j := i) (d0 := (R.flows[i]).c) ra.fo (by rw [List.getElem?_map, List.getElem?_eq_getElem hi]; rfl)
 have ecs : cs = (R.flows[i]).cells := rd_flow (OwnL.rd _ (F' := fun _ => True) (fun _ _ => trivial) _ hd)
 subst ecs
 have hlt := (List.getElem?_eq_some_iff.1 hrow).1
 have ne : ∀ m, L1 m ≠ 2 -> m ≠ n := fun m hm e => hm (e ▸ hn)
 refine ⟨n, off + i, rw, gr, ix, hrow, hcs, fun e => by rw [e, ra.lr] at hn; omega, hlt, fun m h0 hm => ?_, fun w => ?_⟩
 ·rcases hm with hm | hm
  ·exact ne m (by rw [l1 m hm (.inr (fun z => z)), h0]; omega)
  ·omega
 ·have st : ∀ m, L1 m ≠ 2 -> (H.set n (some (.arr 4 (rw.set (off + i) w.cells) gr)))[m]? = H[m]? := fun m hm => List.getElem?_set_ne (fun e => ne m hm e.symm)
  have hown := wr (fun m => L1 m = 2) H w.c w.cells (fun _ z => z) (fun _ _ _ y => y) rfl (by simp only [Flow.c, Flow.cells, OwnL, Own]; exact ⟨_, _, rfl, rfl, _, _, rfl, rfl, _, _, rfl, rfl, _, _, rfl, rfl, rfl⟩)
  refine XTo.trans1 l1 e1' (fun _ _ y => y) ⟨L1, ⟨⟨g1, f1, (st r (by rw [ra.lr]; omega)).trans ra.row, ?_, ?_, ?_, ?_, ra.lr⟩, ⟨ma, ca, aa, oa.keep (fun _ _ _ => rfl) fun m hm c => st m (by omega)⟩, fun m hm => by rw [List.length_set]; exact x1.lt m hm⟩, fun _ _ _ => rfl, Ext.set _ fun _ => .inl (hW _ (by rw [hn]; omega))⟩
  ·exact Own.mono _ (fun _ y => y) (fun m hm y hy => (st m (by omega)).trans hy) _ ra.go
  ·exact ra.gc.keep ra.go (fun m hm y hy => (st m (by omega)).trans hy)
  ·show Own (.sl 4 ((R.flows.set i w).map Flow.c)) _ _ _
   rw [List.map_set]
   exact hown
  ·have hc := ra.fc
   subst e1
   obtain ⟨row', g', hr', h1, h2⟩ := hc
   rw [hrow] at hr'
   simp only [Option.some.injEq, ABlk.arr.injEq, true_and] at hr'
   obtain ⟨rfl, rfl⟩ := hr'
   exact ⟨_, _, List.getElem?_set_self hlt, h1, fun c hc => by rw [List.length_set]; exact h2 c hc⟩
theorem heard_f1_ok {P : Program} {f : FuncId} (hf : Is P f c_raft_call_heard_f1) {h : AHeap} {n : Nat} {m : Msg} {e d : AV} (hq : h[n]? = some (some (.arr 17 [m.cells e d] false))) (w : Flow) :
  ACalls P f [.agg w.cells, .ptr n 17 0 0] h fun r h' => r = .bool (decide (w.node = m.from_)) /\ h' = h := by
 refine obs (upto_bool _ _) (fun_sound hf.1 (Nat.le_of_ble_eq_true rfl) ?_)
 show vc P c_raft_call_heard_f1.code ⟨[(0, .agg w.cells), (1, .ptr n 17 0 0)], [], h⟩ (atEnd c_raft_call_heard_f1.res _)
 have hq2 : ∀ b, (h ++ [b])[n]? = _ := fun b => (Ext.b1 b).get hq
 simp only [Msg.cells] at hq2
 simp only [c_raft_call_heard_f1, Flow.cells, go_sem, reduceEqDiff, reduceAdd, hq2]
 exact Ext.b1 _
theorem Flow.well.heard {w : Flow} (h : w.well) (m : Msg) (hi : 0 <= m.index /\ m.index <= 2^40) : (w.heard m).well := by
 obtain ⟨h1, ⟨h2, h3⟩, h4, h5⟩ := h
 unfold Flow.heard
 split
 ·split
  ·exact ⟨h1, ⟨by show 0 <= max w.next (max w.mat m.index + 1); omega, by show max w.next (max w.mat m.index + 1) <= _; omega⟩, by show 0 <= max w.mat m.index; omega, by show max w.mat m.index <= _; omega⟩
  ·exact ⟨h1, ⟨by show 0 <= max (w.mat + 1) (min (w.next - 1) (m.index + 1)); omega, by show max (w.mat + 1) (min (w.next - 1) (m.index + 1)) <= _; omega⟩, h4, h5⟩
 ·exact ⟨h1, ⟨h2, h3⟩, h4, h5⟩
theorem Raft.fit.setFlow {k : Nat} {x : Raft} (h : x.fit k) (i : Nat) {w : Flow} (hw : w.well) : ({ x with flows := x.flows.set i w } : Raft).fit k := by
 obtain ⟨g1, g2, g3, g4, g5, g6, g7, g8, g9, g10, g11, g12, g13, g14, g15⟩ := h
 refine ⟨g1, g2, g3, g4, g5, g6, g7, g8, g9, g10, g11, g12, g13, ⟨by show (x.flows.set i w).length <= 21; rw [List.length_set]; exact g14.1, fun y hy => ?_⟩, g15⟩
 rcases List.mem_or_eq_of_mem_set hy with z | z
 ·exact g14.2 y z
 ·rw [z]; exact hw
def RHeardOk (P : Program) (f : FuncId) : Prop := isFn P f = true /\ ∀ (L : Nat -> Nat) (h : AHeap) (r o : Nat) (x : RX) (k j : Nat) (m : Msg) (a : List AV), XAt L h r o x -> x.r.fit k -> k <= 2^28 -> x.few j -> j < 2^20 -> MsgAt L h m a -> 0 <= m.index /\ m.index <= 2^40 ->
 ACalls P f [.agg [.ptr r 21 0 0, .ptr o 5 0 0], .agg a] h fun _ h' => XTo wA nof L h r o (x.heard m) h'
theorem rheard_ok {P : Program} {f f1 f2 f3 f4 f5 f6 : FuncId} (hf : Is P f (c_raft_call_heard f1 f2 f3 f4 f5 f6)) (u1 : Is P f1 c_raft_call_heard_f1) (u2 : IndexFlowOk P f2) (u3 : HeardOk P f3) (u4 : RSettleOk P f4) (u5 : RLastOk P f5) (u6 : ToOk P f6) : RHeardOk P f := by
 refine ⟨hf.2, fun L h r o x k j m a hx hfit hk hj hj2 hm hmi => fun_sound hf.1 (Nat.le_of_ble_eq_true rfl) ?_⟩
 show vc P (c_raft_call_heard f1 f2 f3 f4 f5 f6).code ⟨[(0, .agg [.ptr r 21 0 0, .ptr o 5 0 0]), (1, .agg a)], [], h⟩ (atEnd (c_raft_call_heard f1 f2 f3 f4 f5 f6).res _)
 obtain ⟨G, hr, h0⟩ := id hm
 obtain ⟨e, d, rfl, he, hd⟩ := rd_msgL hr
 have ap := hx.apart
 obtain ⟨R, out⟩ := x
 simp only at hfit
 obtain ⟨H, hH⟩ : ∃ H, H = h ++ [some (ABlk.arr 2 [[.ptr r 21 0 0, .ptr o 5 0 0]] false)] ++ [some (ABlk.arr 17 [m.cells e d] false)] := ⟨_, rfl⟩
 have X1 : Ext nof h H := by rw [hH]; exact Ext.b2 _ _
 have lH : H.length = h.length + 2 := by rw [hH]; simp
 have C0 : H[h.length]? = some (some (ABlk.arr 2 [[.ptr r 21 0 0, .ptr o 5 0 0]] false)) := by rw [hH]; exact bx20 _ _ _
 have C1 : H[h.length + 1]? = some (some (ABlk.arr 17 [m.cells e d] false)) := by rw [hH]; exact bx21 _ _ _
 have hx1 := hx.up X1
 have z2 : ∀ m, h.length <= m -> ¬ wA (L m) := fun m e => by rw [hx.ge e]; exact wA0
 obtain ⟨g, ff, ra⟩ := hx1.r
 have rr := ra.row
 have rr' := rr
 have C1' := C1
 have rf := Own.rd _ (F' := fun m => L m = 2) (fun _ y => y) _ ra.fo
 have hfl := hfit.flows
 simp only [Raft.row] at rr'
 simp only [Msg.cells] at C1' hH
 simp only [c_raft_call_heard, go_sem, reduceEqDiff, reduceAdd, Msg.cells, he.scalar, hd.scalar]
 rw [<- hH]
 clear hH
 simp only [go_sem, reduceEqDiff, rr']
 refine use1 u2.1 (u2.2 _ H R.flows ff f1 [] [.ptr (h.length + 1) 17 0 0] (fun w => decide (w.node = m.from_)) rf (by omega) u1.2 (fun w _ => heard_f1_ok u1 C1 w)) ?_
 by_cases c1 : R.role = 2
 ·cases c2 : flowAt R.flows m.from_ with
  | none =>
   have e1 : (RX.heard ⟨R, out⟩ m) = ⟨R, out⟩ := by unfold RX.heard; rw [if_neg (by simpa using c1)]; simp only [c2]
   rw [e1, flowIx_none c2]
   have zn : (-1 : Int) < 0 := by omega
   simp only [go_sem, reduceEqDiff, reduceAdd, rr', C0, decide_eq_true c1, Bool.not_true, decide_eq_true zn]
   exact XTo.from X1 hx1.to
  | some i =>
   obtain ⟨e1, hi⟩ := flowIx_some (k := 0) c2
   rw [Nat.zero_add] at e1
   rw [e1]
   have zn : ¬ (i : Int) < 0 := by omega
   have eh : (RX.heard ⟨R, out⟩ m) = (let f := (R.flows[i]).heard m
    let y : RX := ⟨{ R with flows := R.flows.set i f }, out⟩
    let z := if m.ok then y.settle else y
    if m.ok = false \/ f.next <= z.r.last then z.to f else z) := by
    unfold RX.heard; rw [if_neg (by simpa using c1)]; simp only [c2, List.getElem?_eq_getElem hi, Option.getD_some]
   obtain ⟨n, jj, rw, gr, w1, w2, w3, w4, w5, w6, w7⟩ := XTo.setW (hx1.to (W := wA)) rr (fun _ z => z) hi
   have ww := (hfl.2 _ (List.getElem_mem hi)).heard m hmi
   have ws := hfl.2 _ (List.getElem_mem hi)
   rw [eh]
   clear eh
   generalize R.flows[i] = w at *
   have pc : pcells H (.ptr n 4 jj 0) = some w.cells := by simp [pcells, w2, w3]
   have R3 : ∀ b, (H ++ [b])[r]? = _ := fun b => (Ext.b1 b).get rr'
   have D0 : ∀ b, (H ++ [b])[h.length]? = _ := fun b => (Ext.b1 b).get C0
   have D1 : ∀ b, (H ++ [b])[h.length + 1]? = _ := fun b => (Ext.b1 b).get C1'
   have D2 : ∀ b, (H ++ [b])[n]? = _ := fun b => (Ext.b1 b).get w2
   have N1 : ∀ sz i o', notRes (h.length + 1 + 1) 1 (.ptr r sz i o') = true := fun sz i o' => notRes_lt (by omega)
   have N2 : ∀ sz i o', notRes (h.length + 1 + 1) 1 (.ptr h.length sz i o') = true := fun sz i o' => notRes_lt (by omega)
   have N3 : ∀ sz i o', notRes (h.length + 1 + 1) 1 (.ptr (h.length + 1) sz i o') = true := fun sz i o' => notRes_lt (by omega)
   have N4 : ∀ sz i o', notRes (h.length + 1 + 1) 1 (.ptr n sz i o') = true := fun sz i o' => notRes_lt (by omega)
   have ld : ∀ b, aload (H ++ [b]) true 4 (.ptr n 4 jj 0) = some (.agg w.cells) := fun b => by rw [aload_p (cs := w.cells) (by simp [pcells, D2, w3])]; rfl
   have eset : ∀ a b, (H ++ [a]).set (h.length + 2) b = H ++ [b] := fun a b => by rw [List.set_append_right _ _ (by omega), lH]; simp
   simp only [Flow.cells] at ld
   simp only [go_sem, reduceEqDiff, reduceAdd, reduceLeDiff, reducePow, reduceDiv, reduceMod, loose_cons, rr', C0, decide_eq_true c1, Bool.not_true, decide_eq_false zn, R3, D0, D1, lH, N1, N2, N3, N4, w1, ld, eset]
   have hrd : ∀ b, RdL G (H ++ [b]) m.c (m.cells e d) := fun b => RdL.mono (fun _ y => y) ((X1.tr (Ext.b1 b)).keep _) _ _ hr
   have hc := u3.2 G (H ++ [none]) w m _ (hrd none) ws.placed hmi
   simp only [Msg.cells, Flow.cells] at hc
   refine use1 u3.1 hc ?_
   have q0 : (h.length = h.length + 2) = False := eq_false (by omega)
   have q1 : (h.length + 2 = h.length) = False := eq_false (by omega)
   have q2 : (h.length + 1 = h.length + 2) = False := eq_false (by omega)
   have q3 : (h.length + 2 = h.length + 1) = False := eq_false (by omega)
   have q4 : (r = h.length + 2) = False := eq_false (by omega)
   have q5 : (h.length + 2 = r) = False := eq_false (by omega)
   have q6 : (n = h.length + 2) = False := eq_false (by omega)
   have q7 : (h.length + 2 = n) = False := eq_false (by omega)
   have b2 : ∀ b, (H ++ [b])[h.length + 2]? = some b := fun b => by rw [<- lH]; exact bx10 H b
   have ix2 : ∀ b, ((aindex 4 ff (.int .i64 i)).bind fun p => aload (H ++ [b]) true 4 p) = some (.agg w.cells) := fun b => by rw [w1]; exact ld b
   simp only [go_sem, reduceEqDiff, reduceAdd, reduceLeDiff, reducePow, reduceDiv, reduceMod, decide_true, loose_cons, R3, D0, D1, D2, lH, w1, ld, eset, b2, Bool.or_true, Bool.true_or, List.length_append]
   have ljj := (List.getElem?_eq_some_iff.1 w3).1
   have emod : (rw.modify jj fun x => (((x.set 0 (AV.int IntKind.i64 (w.heard m).node)).set 1 (AV.int IntKind.i64 (w.heard m).next)).set 2 (AV.int IntKind.i64 (w.heard m).mat)).set 3 (AV.int IntKind.i64 (w.heard m).round)) = rw.set jj (w.heard m).cells := by
    apply List.ext_getElem?
    intro q
    rw [List.getElem?_modify, List.getElem?_set]
    by_cases c : jj = q
    ·subst c
     have w3g : rw[jj] = w.cells := by have := w3; rw [List.getElem?_eq_getElem ljj] at this; exact Option.some.inj this
     simp [ljj, w3g, Flow.cells]
    ·simp [c]
   rw [if_pos ljj, emod]
   have T1 := w7 (w.heard m)
   obtain ⟨F, hF⟩ : ∃ F, F = w.heard m := ⟨_, rfl⟩
   rw [<- hF] at T1 ww ⊢
   have sA : ∀ v b, (H ++ [b]).set n v = H.set n v ++ [b] := fun v b => List.set_append_left _ _ w5
   rw [sA]
   obtain ⟨L1, x0, l1, e1⟩ := T1
   have z1 : ∀ m, h.length <= m -> ¬ wA (L1 m) := fun m hm => by
    by_cases c : m < H.length
    ·rw [l1 m c (.inr (fun z => z))]; exact z2 m hm
    ·rw [x0.ge (by rw [List.length_set]; omega)]; exact wA0
   have x1 := x0.up (Ext.b1 (some (ABlk.arr 4 [F.cells] false)))
   have e3 := e1.trans (Ext.b1 (some (ABlk.arr 4 [F.cells] false))) (F'' := fun m => wA (L m) \/ nof m) (fun _ _ z => z) (fun _ _ z => z.elim)
   have T2 := XTo.trans1 l1 e3 (fun _ _ y => y) (x1.to (W := wA) (Q := nof))
   have fit2 : ({ R with flows := R.flows.set i F } : Raft).fit k := hfit.setFlow i ww
   have K0 := T2.keep (z2 _ (Nat.le_refl _)) (fun y => y) C0
   have K1 := T2.keep (z2 _ (by omega)) (fun y => y) C1'
   have K2 : (H.set n (some (.arr 4 (rw.set jj F.cells) gr)) ++ [some (ABlk.arr 4 [F.cells] false)])[h.length + 2]? = some (some (ABlk.arr 4 [F.cells] false)) := by
    have := bx10 (H.set n (some (.arr 4 (rw.set jj F.cells) gr))) (some (ABlk.arr 4 [F.cells] false))
    rw [List.length_set, lH] at this; exact this
   simp only [Flow.cells] at K0 K1 K2 T2 x1 e3 ⊢
   clear T2
   generalize hH3 : (H.set n _ ++ _ : AHeap) = H3 at *
   simp only [go_sem, reduceEqDiff, reduceAdd, reducePow, reduceDiv, reduceMod, decide_true]
   obtain ⟨g3, ff3, rr3⟩ := x1.rowR
   have rr3' := rr3
   simp only [Raft.row] at rr3'
   clear ix2 sA eset emod
   have toE : ∀ (H4 : AHeap) (y : RX), y.few j -> y.r.hard = R.hard -> XTo wA nof L1 H3 r o y H4 -> ACalls P f6 [.agg [.ptr r 21 0 0, .ptr o 5 0 0], .agg F.cells] H4 fun _ h' => XTo wA nof L1 H3 r o (y.to F) h' := fun H4 y yf yh T =>
    XTo.callM (Q' := nof) T (Ext.refl _ _) (fun _ _ y => y) fun L1 x1 => (u6.2 L1 H4 r o y F x1 ww.placed (by rw [yh]; exact hfit.hard hk) (few_b yf.1 hj2 168 (by omega))).mono fun _ _ b => b.weakW wO_wA
   simp only [Flow.cells] at toE
   have fin : ∀ {y H4}, XTo wA nof L1 H3 r o y H4 -> XTo wA nof L h r o y H4 := fun T => XTo.from X1 (XTo.trans1 l1 e3 (fun _ _ y => y) T)
   have yf : (⟨{ R with flows := R.flows.set i F }, out⟩ : RX).few j := hj
   cases c3 : m.ok
   ·simp only [go_sem, reduceEqDiff, reduceAdd, reduceLeDiff, K0, K1, K2, c3, Bool.not_false, true_or, if_true, Bool.false_eq_true, if_false]
    refine wCall_use ⟨u6.1, toE H3 _ yf rfl x1.to⟩ ?_
    intro _ H4 T4
    simp only [go_sem]
    exact fin T4
   ·simp only [go_sem, reduceEqDiff, reduceAdd, reduceLeDiff, K0, K1, c3, if_true, Bool.true_eq_false, false_or]
    have st := u4.2 L1 H3 r o _ k x1 fit2 hk
    refine wCall_use ⟨u4.1, st⟩ ?_
    intro _ H4 T4
    have M0 := T4.keep (z1 _ (Nat.le_refl _)) (fun y => y) K0
    have M1 := T4.keep (z1 _ (by omega)) (fun y => y) K1
    have M2 := T4.keep (z1 _ (by omega)) (fun y => y) K2
    have fit4 : (RX.settle ⟨{ R with flows := R.flows.set i F }, out⟩).r.fit k := fit2.settle
    have hard4 : (RX.settle ⟨{ R with flows := R.flows.set i F }, out⟩).r.hard = R.hard := by
     show (Raft.settle _).hard = _; unfold Raft.settle; split <;> rfl
    have yf4 : (RX.settle ⟨{ R with flows := R.flows.set i F }, out⟩).few j := hj
    generalize (RX.settle ⟨{ R with flows := R.flows.set i F }, out⟩) = y at *
    simp only [go_sem, reduceEqDiff, reduceAdd, M0, M1, M2, c3, Bool.not_true]
    refine use1 u5.1 (u5.2 H4 r y.r T4.rowR (fit4.logOk hk)) ?_
    rw [kDB_mk0]
    by_cases c4 : F.next <= y.r.last
    ·rw [if_pos c4]
     simp only [go_sem, reduceEqDiff, reduceAdd, reduceLeDiff, reducePow, reduceDiv, reduceMod, decide_true, M0, M1, M2, c3, decide_eq_true c4]
     refine wCall_use ⟨u6.1, toE H4 y yf4 hard4 T4⟩ ?_
     intro _ H5 T5
     simp only [go_sem]
     exact fin T5
    ·rw [if_neg c4]
     simp only [go_sem, reduceEqDiff, reducePow, reduceDiv, reduceMod, decide_true, M0, M1, M2, c3, decide_eq_false c4]
     exact fin T4
 ·have e1 : (RX.heard ⟨R, out⟩ m) = ⟨R, out⟩ := by unfold RX.heard; rw [if_pos (by simpa using c1)]
  rw [e1]
  simp only [go_sem, reduceEqDiff, reduceAdd, rr', C0, decide_eq_false c1, Bool.not_false]
  exact XTo.from X1 hx1.to
end Glb
