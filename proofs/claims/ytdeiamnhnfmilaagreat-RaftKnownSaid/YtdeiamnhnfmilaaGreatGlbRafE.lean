/-
  A library of its own: its parts, one behind the other.
-/
import Derived.Test.YtdeiamnhnfmilaaGreatGlbRafD
import Derived.Test.YtdeiamnhnfmilaaGreatGlbVotA
set_option linter.unusedSimpArgs false
set_option linter.unusedVariables false
namespace Glb
open Go
open Nat (reduceAdd reduceDiv reduceEqDiff reduceLeDiff reduceMod reducePow)
set_option maxRecDepth 10000
set_option maxHeartbeats 8000000
def RTickOk (P : Program) (f : FuncId) : Prop := isFn P f = true /\ ∀ (L : Nat -> Nat) (h : AHeap) (r : Nat) (x : Raft) (k : Nat) (draw : Int), MemAt L h r x -> x.fit k -> k + 2 < 2^28 ->
 ACalls P f [.ptr r 21 0 0, .int .i64 draw] h fun v h' => ROut L h r (x.tick draw) v h'
theorem rtick_ok {P : Program} {f f1 f2 f3 f4 f5 f6 f7 : FuncId} (hf : IsD P f (d_raft_Raft_Tick f1 f2 f3 f4 f5 f6 f7)) (u1 : BeginOk P f1) (u2 : REndD P f2) (u3 : ToOk P f3) (u4 : EachOk P f4) (u5 : VoterOk P f5) (u6 : RLastOk P f6) (u7 : RStandOk P f7) : RTickOk P f := by
 refine ⟨hf.1, fun L h r x k draw hx hfit hk => dfun_sound hf.2 (Nat.le_of_ble_eq_true rfl) ?_⟩
 show dvc P (d_raft_Raft_Tick f1 f2 f3 f4 f5 f6 f7).code ⟨[(0, .ptr r 21 0 0), (1, .int .i64 draw)], [], h⟩ (atEndD P (d_raft_Raft_Tick f1 f2 f3 f4 f5 f6 f7).res _)
 simp only [d_raft_Raft_Tick, go_sem, reduceEqDiff, reduceAdd]
 refine wCall_use ⟨u1.1, u1.2 _ r h.length⟩ ?_
 rintro _ H3 ⟨rfl, X3⟩
 simp only [go_sem, reduceEqDiff, reduceAdd, reduceLeDiff]
 obtain ⟨H, hH⟩ : ∃ H, H = H3 ++ [some (ABlk.arr 2 [[.ptr r 21 0 0, .ptr h.length 5 0 0]] false)] := ⟨_, rfl⟩
 obtain ⟨n5, hn5⟩ : ∃ n5, n5 = H3.length := ⟨_, rfl⟩
 have l3 := X3.1
 simp only [List.length_append, List.length_cons, List.length_nil] at l3
 have X : Ext nof h H := by rw [hH]; exact ((Ext.b1 _).tr X3).tr (Ext.b1 _)
 have B1 : H[h.length]? = some (some (ABlk.arr 5 [[.nils, .nils, .nils, .int .i64 0, .bool false]] false)) := by rw [hH]; exact (Ext.b1 _).get (X3.get (bx10 _ _))
 have B5 : H[n5]? = some (some (ABlk.arr 2 [[.ptr r 21 0 0, .ptr h.length 5 0 0]] false)) := by rw [hH, hn5]; exact bx10 _ _
 have n5l : h.length + 1 <= n5 := by omega
 rw [<- hH, <- hn5]
 clear hH
 have hx0 := hx.begin X B1 (Nat.le_refl _)
 have hlr := hx.lt
 obtain ⟨o, ho⟩ : ∃ o, o = h.length := ⟨_, rfl⟩
 obtain ⟨L0, hL0⟩ : ∃ L0 : Nat -> Nat, L0 = fun m => if m = o then 7 else L m := ⟨_, rfl⟩
 rw [<- ho] at B1 B5 hx0 ⊢
 rw [<- hL0] at hx0
 have zL : ∀ n, h.length <= n -> n ≠ o -> ¬ wA (L0 n) := fun n hn hno => by rw [hL0]; show ¬ wA (if n = o then 7 else L n); rw [if_neg hno, hx.ge hn]; exact wA0
 have fin : ∀ (Le : Env) (H' : AHeap) (y : RX), x.tick draw = y.ends -> y.r.fit (k + 2) -> lk 4 Le = .ptr o 5 0 0 -> XTo wA nof L0 H r o y H' ->
   dCall P f2 [.agg [.ptr r 21 0 0, .ptr o 5 0 0]] H' (kRes (d_raft_Raft_Tick f1 f2 f3 f4 f5 f6 f7).res Le fun v h' => ROut L h r (x.tick draw) v h') := by
  intro Le H' y ey yf k4 T
  obtain ⟨L1, x1, l1, e1⟩ := T
  refine dCall_use ⟨u2.1, u2.2 L1 H' r o y (k + 2) x1 yf (by omega)⟩ ?_
  intro _ h'' T2
  have T3 := XTo.trans1 l1 e1 (fun _ _ y => y) T2
  rw [hL0] at T3
  obtain ⟨ma, ca, aa, row, s1, s2, s3, out⟩ := T3.out hx X (by omega)
  rw [ey]
  simp only [d_raft_Raft_Tick, go_sem, reduceAdd, reduceLeDiff, k4, row]
  exact out
 simp only [d_raft_Raft_Tick] at fin
 obtain ⟨g, ff, rr⟩ := hx0.rowR
 have e1 : x.begin.r = x := rfl
 rw [e1] at rr
 have rr' := rr
 simp only [Raft.row] at rr'
 have lr := (List.getElem?_eq_some_iff.1 rr).1
 have w5 : (r = n5) = False := eq_false (by omega)
 have w0 : (n5 = r) = False := eq_false (by omega)
 have hb := hfit.beat
 have he := hfit.elapsed
 have ewb : IntKind.i64.wrap (x.beat + 1) = x.beat + 1 := wrap_i64 (by omega)
 have ewe : IntKind.i64.wrap (x.elapsed + 1) = x.elapsed + 1 := wrap_i64 (by omega)
 simp only [go_sem, reduceEqDiff, rr']
 by_cases c1 : x.role = 2
 ·simp only [go_sem, reduceEqDiff, reduceAdd, reduceLeDiff, rr', decide_eq_true c1, lr, ewb]
  by_cases c2 : 2 <= x.beat + 1
  ·have et : x.tick draw = (({ x with beat := 0 } : Raft).begin.on).ends := by unfold Raft.tick; rw [if_pos c1, if_pos c2]
   have T1 := XTo.setR (R := x) (out := Rdy.none) (R' := { x with beat := 0 }) (hx0.to (W := wA) (Q := nof)) rr rfl rfl (fun _ z => z)
   simp only [Raft.row] at T1
   simp only [go_sem, reduceEqDiff, reduceAdd, reduceLeDiff, rr', B5, decide_eq_true c2, lr, w5, List.set_set]
   have f0 : ({ x with beat := 0 } : Raft).fit k := by
    obtain ⟨g1, g2, g3, g4, g5, g6, g7, g8, g9, g10, g11, g12, g13, g14, g15⟩ := hfit
    exact ⟨g1, g2, g3, g4, g5, g6, g7, g8, g9, g10, ⟨Int.le_refl _, by show (0 : Int) <= 1; omega⟩, g12, g13, g14, g15⟩
   have ech := XTo.callM (Q' := nof) T1 (Ext.refl _ _) (fun _ _ y => y) fun L1 x1 => (eachTo_ok u4 u3 x1 f0 (by omega) (begin_few _) (by omega)).mono fun _ _ b => b.weakW wO_wA
   refine wCall_use ⟨u4.1, ech⟩ ?_
   intro _ H4 T4
   simp only [go_sem]
   exact fin _ H4 _ et ((on_fit (x := ({ x with beat := 0 } : Raft).begin) f0 (begin_few _)).1.mono (by omega)) (by simp [lk_ins]) T4
  ·have et : x.tick draw = (({ x with beat := x.beat + 1 } : Raft).begin).ends := by unfold Raft.tick; rw [if_pos c1, if_neg c2]
   have T1 := XTo.setR (R := x) (out := Rdy.none) (R' := { x with beat := x.beat + 1 }) (hx0.to (W := wA) (Q := nof)) rr rfl rfl (fun _ z => z)
   simp only [Raft.row] at T1
   simp only [go_sem, decide_eq_false c2]
   refine fin _ _ _ et ?_ (by simp [lk_ins]) T1
   obtain ⟨g1, g2, g3, g4, g5, g6, g7, g8, g9, g10, g11, g12, g13, g14, g15⟩ := hfit.mono (show k <= k + 2 by omega)
   exact ⟨g1, g2, g3, g4, g5, g6, g7, g8, g9, g10, ⟨by show 0 <= x.beat + 1; omega, by show x.beat + 1 <= 1; omega⟩, g12, g13, g14, g15⟩
 ·have T1 := XTo.setR (R := x) (out := Rdy.none) (R' := { x with elapsed := x.elapsed + 1 }) (hx0.to (W := wA) (Q := nof)) rr rfl rfl (fun _ z => z)
  have r1 : (H.set r (some (.arr 21 [({ x with elapsed := x.elapsed + 1 } : Raft).row g ff] false)))[r]? = some (some (.arr 21 [({ x with elapsed := x.elapsed + 1 } : Raft).row g ff] false)) := List.getElem?_set_self lr
  simp only [Raft.row] at T1 r1
  have f1 : ({ x with elapsed := x.elapsed + 1 } : Raft).fit (k + 1) := by
   obtain ⟨g1, g2, g3, g4, g5, g6, g7, g8, g9, g10, g11, g12, g13, g14, g15⟩ := hfit.mono (Nat.le_succ k)
   exact ⟨g1, g2, g3, g4, g5, g6, g7, g8, g9, ⟨by show 0 <= x.elapsed + 1; omega, by show x.elapsed + 1 <= ((k + 1 : Nat) : Int); omega⟩, g11, g12, g13, g14, g15⟩
  simp only [go_sem, reduceEqDiff, reduceAdd, reduceLeDiff, rr', decide_eq_false c1, lr, List.length_set, ewe]
  have lr1 : r < (H.set r (some (.arr 21 [({ x with elapsed := x.elapsed + 1 } : Raft).row g ff] false))).length := by rw [List.length_set]; exact lr
  have F5 := T1.keep (zL n5 (by omega) (by omega)) (fun z => z) B5
  obtain ⟨s, hs⟩ : ∃ s : Raft, s = { x with elapsed := x.elapsed + 1 } := ⟨_, rfl⟩
  have et : x.tick draw = (if s.timeout <= s.elapsed /\ s.voter s.id = true /\ s.hard.term < 2^40 /\ s.last < 2^40 then s.begin.stand draw else s.begin).ends := by rw [hs]; unfold Raft.tick; rw [if_neg c1]
  have eq1 : s.timeout = x.timeout /\ s.elapsed = x.elapsed + 1 /\ s.id = x.id /\ s.hard = x.hard := by rw [hs]; exact ⟨rfl, rfl, rfl, rfl⟩
  obtain ⟨q1, q2, q3, q4⟩ := eq1
  have eb : ({ r := { x with elapsed := x.elapsed + 1 }, o := Rdy.none } : RX) = s.begin := by rw [hs]; rfl
  rw [<- hs] at f1
  rw [eb] at T1
  generalize hH1 : H.set r _ = H1 at *
  have rw1 : RowR H1 r s := T1.rowR
  have no : ¬ (s.timeout <= s.elapsed /\ s.voter s.id = true /\ s.hard.term < 2^40 /\ s.last < 2^40) -> x.tick draw = s.begin.ends := fun c => by rw [et, if_neg c]
  have eL : (2 : Int)^40 = 1099511627776 := by decide
  rw [q1, q2, q3, q4, eL] at no et
  by_cases c2 : x.timeout <= x.elapsed + 1
  ·simp only [go_sem, reduceEqDiff, r1, decide_eq_true c2]
   refine use1 u5.1 (u5.2 H1 r s x.id rw1 (f1.ofR (by omega)) (f1.nowFew (by decide))) ?_
   rw [kDB_mk0]
   cases c3 : s.voter x.id
   ·simp only [go_sem, reduceEqDiff, reducePow, reduceDiv, reduceMod, decide_true, r1]
    exact fin _ H1 _ (no (fun z => by rw [c3] at z; cases z.2.1)) (f1.mono (by omega)) (by simp [lk_ins]) T1
   ·simp only [go_sem, reduceEqDiff, reduceAdd, reducePow, reduceDiv, reduceMod, decide_true, r1]
    by_cases c4 : x.hard.term < 1099511627776
    ·simp only [go_sem, reduceEqDiff, decide_eq_true c4]
     refine use1 u6.1 (u6.2 H1 r s rw1 (f1.logOk (by omega))) ?_
     rw [kDB_mk0]
     by_cases c5 : s.last < 1099511627776
     ·rw [if_pos ⟨c2, c3, c4, c5⟩] at et
      simp only [go_sem, reduceEqDiff, reduceAdd, reduceLeDiff, reducePow, reduceDiv, reduceMod, decide_true, r1, F5, decide_eq_true c5]
      have st := XTo.callM (Q' := nof) T1 (Ext.refl _ _) (fun _ _ y => y) fun L1 x1 => u7.2 L1 H1 r o s.begin (k + 1) 0 draw x1 f1 (by omega) (begin_few _) (by omega) (by show s.hard.term < 2^40; rw [q4, eL]; exact c4)
      refine wCall_use ⟨u7.1, st⟩ ?_
      intro _ H4 T4
      simp only [go_sem]
      exact fin _ H4 _ et ((stand_fit (x := s.begin) f1 (by omega) (begin_few _) (by show s.hard.term < 2^40; rw [q4, eL]; exact c4) draw).1) (by simp [lk_ins]) T4
     ·simp only [go_sem, reduceEqDiff, reducePow, reduceDiv, reduceMod, decide_true, r1, decide_eq_false c5]
      exact fin _ H1 _ (no (fun z => c5 z.2.2.2)) (f1.mono (by omega)) (by simp [lk_ins]) T1
    ·simp only [go_sem, reduceEqDiff, decide_eq_false c4]
     exact fin _ H1 _ (no (fun z => c4 z.2.2.1)) (f1.mono (by omega)) (by simp [lk_ins]) T1
  ·simp only [go_sem, reduceEqDiff, decide_eq_false c2]
   exact fin _ H1 _ (no (fun z => c2 z.1)) (f1.mono (by omega)) (by simp [lk_ins]) T1
end Glb
namespace Glb
open Go
open Nat (reduceAdd reduceDiv reduceEqDiff reduceLeDiff reduceMod reducePow)
set_option maxRecDepth 10000
set_option maxHeartbeats 8000000
theorem set_same {h : AHeap} {n : Nat} {v : Option ABlk} (hn : h[n]? = some v) : h.set n v = h := by
 apply List.ext_getElem?
 intro i
 rw [List.getElem?_set]
 have := (List.getElem?_eq_some_iff.1 hn).1
 split
 ·rename_i e; subst e; first | exact hn.symm | (rw [if_pos this]; exact hn.symm)
 ·rfl
theorem XTo.outS {L h r x h0 o X h' n} (a : MemAt L h r x) (hx : Ext nof h h0) (hlo : h.length <= o) (T : XTo wA nof (fun m => if m = o then 7 else L m) h0 r o X h') (hn : h.length <= n /\ n < h0.length) (hno : n ≠ o) :
  ∃ ma ca aa, h'[o]? = some (some (.arr 5 [[ma, ca, aa, .int .i64 X.o.first, .bool X.o.restore]] false)) /\ ma.scalar = true /\ ca.scalar = true /\ aa.scalar = true /\ ∀ b : Option ABlk, ROut L h r X (.agg [ma, ca, aa, .int .i64 X.o.first, .bool X.o.restore]) (h'.set n b) := by
 obtain ⟨L1, x1, l1, e1⟩ := T
 obtain ⟨ma, ca, aa, oa⟩ := x1.o
 obtain ⟨g, f, ra⟩ := x1.r
 have hl := hx.1
 have e : ∀ m, m < h.length -> (if m = o then 7 else L m) = L m := fun m hm => if_neg (by omega)
 have hn0 : L1 n = 0 := by
  rw [l1 n hn.2 (.inr (fun z => z))]
  show (if n = o then 7 else L n) = 0
  rw [if_neg hno, a.ge hn.1]
 have ne : ∀ (b : Option ABlk) (m : Nat), L1 m ≠ 0 -> (h'.set n b)[m]? = h'[m]? := fun b m hm => List.getElem?_set_ne (by rintro rfl; exact hm hn0)
 refine ⟨ma, ca, aa, oa.row, oa.m.scalar, oa.c.scalar, oa.a.scalar, fun b => ⟨L1, o, ma, ca, aa, rfl, ⟨g, f, ra.keep (fun _ _ _ => rfl) fun m _ hm => ne b m (by omega)⟩, oa.keep (fun _ _ _ => rfl) (fun m _ hm => ne b m (by omega)), fun m hm => by rw [List.length_set]; exact x1.lt m hm, hlo, fun m hm => (l1 m (by omega) (.inr (fun z => z))).trans (e m hm), ?_⟩⟩
 refine ⟨by rw [List.length_set]; have := e1.1; omega, fun m hm hw => (List.getElem?_set_ne (by omega)).trans ((e1.2 m (by omega) ?_).trans (hx.2 m hm (fun z => z)))⟩
 rintro (z | z)
 ·exact hw (by have z' : wA (if m = o then 7 else L m) := z; rw [e m hm] at z'; exact z')
 ·exact z
def DatAt (L : Nat -> Nat) (h : AHeap) (d : D) (a : AV) : Prop := ∃ G : Nat -> Prop, Rd G h d a /\ ∀ n, G n -> L n = 0 /\ n < h.length
def RProposeOk (P : Program) (f : FuncId) : Prop := isFn P f = true /\ ∀ (L : Nat -> Nat) (h : AHeap) (r : Nat) (x : Raft) (k : Nat) (kind : Int) (data : List Int) (d : AV), MemAt L h r x -> x.fit k -> k + 1 < 2^28 -> DatAt L h (dBytes data) d -> bytesOk data /\ data.length <= 2^16 -> i64ok kind ->
 ACalls P f [.ptr r 21 0 0, .int .i64 kind, d] h fun v h' => ∃ w, v = .tup [.int .i64 (x.propose kind data).1, w, .int .i64 (x.propose kind data).2.2] /\ ROut L h r (x.propose kind data).2.1 w h'
theorem rpropose_ok {P : Program} {f f1 f2 f3 f4 f5 f6 f7 f8 : FuncId} (hf : Is P f (c_raft_Raft_Propose f1 f2 f3 f4 f5 f6 f7 f8)) (u1 : GetConfP P f1) (u2 : RLastOk P f2) (u3 : BeginOk P f3) (u4 : RLayOk P f4) (u5 : ToOk P f5) (u6 : EachOk P f6) (u7 : RSettleOk P f7) (u8 : REndOk P f8) : RProposeOk P f := by
 refine ⟨hf.2, fun L h r x k kind data d hx hfit hk hd hdata hkind => fun_sound hf.1 (Nat.le_of_ble_eq_true rfl) ?_⟩
 show vc P (c_raft_Raft_Propose f1 f2 f3 f4 f5 f6 f7 f8).code ⟨[(0, .ptr r 21 0 0), (1, .int .i64 kind), (2, d)], [], h⟩ (atEnd (c_raft_Raft_Propose f1 f2 f3 f4 f5 f6 f7 f8).res _)
 obtain ⟨G, hd1, hG⟩ := hd
 obtain ⟨H, hH⟩ : ∃ H, H = h ++ [some (ABlk.arr 5 [[.nils, .nils, .nils, .int .i64 0, .bool false]] false)] ++ [some (ABlk.arr 5 [[.nils, .nils, .nils, .int .i64 0, .bool false]] false)] := ⟨_, rfl⟩
 have X2 : Ext nof h H := by rw [hH]; exact Ext.b2 _ _
 have l2 : H.length = h.length + 2 := by rw [hH]; simp
 have C0 : H[h.length]? = some (some (ABlk.arr 5 [[.nils, .nils, .nils, .int .i64 0, .bool false]] false)) := by rw [hH]; exact bx20 _ _ _
 have C1 : H[h.length + 1]? = some (some (ABlk.arr 5 [[.nils, .nils, .nils, .int .i64 0, .bool false]] false)) := by rw [hH]; exact bx21 _ _ _
 have ll := hfit.last
 have hdA : ∀ {y : RX} {B H' : AHeap} {L' : Nat -> Nat}, Ext nof h B -> (∀ n, n < h.length -> L' n = L n) -> XTo wA nof L' B r (h.length + 1) y H' -> Rd G H' (dBytes data) d := fun X hl T => Rd.mono (F := fun n => G n /\ n < h.length) (fun _ y => y.1) (fun n hn y hy => T.keep (by rw [hl n hn.2, (hG n hn.1).1]; exact wA0) (fun z => z) (X.get hy)) _ _ (Rd.lt _ _ hd1)
 have third : ∀ (o : Nat) (L0 : Nat -> Nat) (H3 : AHeap) (Le : Env), o = h.length + 1 -> L0 = (fun m => if m = o then 7 else L m) -> Ext nof h H3 -> h.length + 2 <= H3.length -> XAt L0 H3 r o x.begin -> H3[h.length]? = some (some (.arr 5 [[.nils, .nils, .nils, .int .i64 0, .bool false]] false)) -> lk 0 Le = .ptr r 21 0 0 -> lk 1 Le = .int .i64 kind -> lk 2 Le = d -> lk 7 Le = .ptr h.length 5 0 0 -> lk 9 Le = .ptr o 5 0 0 ->
   x.propose kind data = (x.last + 1, (((x.begin.lay kind data).on).settle).ends, 0) ->
   vc P (c_raft_Raft_Propose f1 f2 f3 f4 f5 f6 f7 f8).code.tl.tl.tl.tl ⟨Le, [], H3⟩ (atEnd (c_raft_Raft_Propose f1 f2 f3 f4 f5 f6 f7 f8).res fun v h' => ∃ w, v = .tup [.int .i64 (x.propose kind data).1, w, .int .i64 (x.propose kind data).2.2] /\ ROut L h r (x.propose kind data).2.1 w h') := by
  intro o L0 H3 Le ho hL0 X3 l3 hx0 D0 k0 k1 k2 k7 k9 ep
  rw [ep]
  have e1 : x.begin.r = x := rfl
  simp only [c_raft_Raft_Propose, AC.tl_seq, go_sem, k0, k9]
  refine wCall_use ⟨u3.1, u3.2 H3 r o⟩ ?_
  rintro _ H4 ⟨rfl, X4⟩
  simp only [go_sem, reduceEqDiff, reduceAdd, reduceLeDiff, k1, k2]
  obtain ⟨H5, hH5⟩ : ∃ H5, H5 = H4 ++ [some (ABlk.arr 2 [[.ptr r 21 0 0, .ptr o 5 0 0]] false)] := ⟨_, rfl⟩
  have X5 : Ext nof H3 H5 := by rw [hH5]; exact X4.tr (Ext.b1 _)
  have x4 := X4.1
  have B5 : H5[H4.length]? = some (some (ABlk.arr 2 [[.ptr r 21 0 0, .ptr o 5 0 0]] false)) := by rw [hH5]; exact bx10 _ _
  have D5 := X5.get D0
  have hx5 := hx0.up X5
  obtain ⟨n5, hn5⟩ : ∃ n5, n5 = H4.length := ⟨_, rfl⟩
  rw [<- hH5, <- hn5]
  rw [<- hn5] at B5
  clear hH5
  have zL : ∀ n, h.length <= n -> n ≠ o -> ¬ wA (L0 n) := fun n hn hno => by rw [hL0]; show ¬ wA (if n = o then 7 else L n); rw [if_neg hno, hx.ge hn]; exact wA0
  have hXX : Ext nof h H5 := X3.tr X5
  have hLL : ∀ n, n < h.length -> L0 n = L n := fun n hn => by rw [hL0]; exact if_neg (by omega)
  subst ho
  have d5 := hdA hXX hLL (hx5.to (W := wA) (Q := nof))
  have ly := u4.2 (fun n => G n) L0 H5 r (h.length + 1) x.begin k 0 kind data d hx5 hfit (by omega) (begin_few _) (by omega) d5 hdata hkind
  refine wCall_use ⟨u4.1, ly⟩ ?_
  rintro _ H6 ⟨rfl, T6⟩
  have f6 : (x.begin.lay kind data).r.fit (k + 1) := Raft.fit.lay (x := x.begin) hfit (by omega) hdata hkind
  have w6 : (x.begin.lay kind data).few 1 := RX.few.lay (x := x.begin) (begin_few _) kind data
  have M6 := T6.keep (zL _ (by omega) (by omega)) (fun z => z) B5
  simp only [go_sem, reduceEqDiff, reduceAdd, reduceLeDiff, k0, M6]
  have ea := XTo.callM (Q' := nof) T6 (Ext.refl _ _) (fun _ _ y => y) fun L1 x1 => (eachTo_ok u6 u5 x1 f6 (by omega) w6 (by omega)).mono fun _ _ b => b.weakW wO_wA
  refine wCall_use ⟨u6.1, ea⟩ ?_
  intro _ H7 T7
  have f7 : (x.begin.lay kind data).on.r.fit (k + 1) := (on_fit f6 w6).1
  have M7 := T7.keep (zL _ (by omega) (by omega)) (fun z => z) B5
  simp only [go_sem, reduceEqDiff, reduceAdd, reduceLeDiff, M7]
  have se := XTo.callM (Q' := nof) T7 (Ext.refl _ _) (fun _ _ y => y) fun L1 x1 => u7.2 L1 H7 r _ _ (k + 1) x1 f7 (by omega)
  refine wCall_use ⟨u7.1, se⟩ ?_
  intro _ H8 T8
  have f8 : (x.begin.lay kind data).on.settle.r.fit (k + 1) := f7.settle
  have M8 := T8.keep (zL _ (by omega) (by omega)) (fun z => z) B5
  simp only [go_sem, reduceEqDiff, reduceAdd, reduceLeDiff, M8]
  have en := XTo.callM (Q' := nof) T8 (Ext.refl _ _) (fun _ _ y => y) fun L1 x1 => u8.2 L1 H8 r _ _ (k + 1) x1 f8 (by omega)
  refine wCall_use ⟨u8.1, en⟩ ?_
  intro _ H9 T9
  have M9 := T9.keep (zL _ (Nat.le_refl _) (by omega)) (fun z => z) D5
  rw [hL0] at T9
  have x5 := X5.1
  obtain ⟨ma, ca, aa, row, s1, s2, s3, out⟩ := T9.outS (n := h.length) hx hXX (by omega) ⟨Nat.le_refl _, by omega⟩ (by omega)
  have lh := (List.getElem?_eq_some_iff.1 M9).1
  have w0 : (h.length + 1 = h.length) = False := eq_false (by omega)
  simp only [go_sem, reduceEqDiff, reduceAdd, reduceLeDiff, reducePow, reduceDiv, reduceMod, decide_true, k7, k9, row, M9, s1, s2, s3, lh]
  exact ⟨_, rfl, out _⟩
 have e0 : (c_raft_Raft_Propose f1 f2 f3 f4 f5 f6 f7 f8).code = .seq (c_raft_Raft_Propose f1 f2 f3 f4 f5 f6 f7 f8).code.hd (.seq (c_raft_Raft_Propose f1 f2 f3 f4 f5 f6 f7 f8).code.tl.hd (.seq (c_raft_Raft_Propose f1 f2 f3 f4 f5 f6 f7 f8).code.tl.tl.hd (.seq (c_raft_Raft_Propose f1 f2 f3 f4 f5 f6 f7 f8).code.tl.tl.tl.hd (c_raft_Raft_Propose f1 f2 f3 f4 f5 f6 f7 f8).code.tl.tl.tl.tl))) := rfl
 rw [e0]
 generalize (c_raft_Raft_Propose f1 f2 f3 f4 f5 f6 f7 f8).code.tl.tl.tl.tl = D at third ⊢
 have thd := third
 simp only [c_raft_Raft_Propose] at thd
 clear third
 simp only [c_raft_Raft_Propose, AC.hd_seq, AC.tl_seq, go_sem, reduceEqDiff, reduceAdd]
 rw [<- hH]
 clear hH
 refine use1 u1.1 (u1.2 G H data d (Rd.mono (fun _ y => y) (X2.keep _) _ _ hd1) hdata.1 (by omega)) ?_
 simp only [go_sem, reduceEqDiff, reduceAdd, reduceLeDiff, Conf.v_eq, scalar_aints]
 obtain ⟨cf, hcf⟩ : ∃ cf, cf = getConf data := ⟨_, rfl⟩
 rw [<- hcf]
 obtain ⟨H3, hH3⟩ : ∃ H3, H3 = H ++ [some (ABlk.arr 3 [[aints cf.1.old, aints cf.1.new, aints cf.1.learners]] false)] := ⟨_, rfl⟩
 have X3 : Ext nof h H3 := by rw [hH3]; exact X2.tr (Ext.b1 _)
 have l3 : H3.length = h.length + 3 := by rw [hH3]; simp [l2]
 have D0 : H3[h.length]? = some (some (ABlk.arr 5 [[.nils, .nils, .nils, .int .i64 0, .bool false]] false)) := by rw [hH3]; exact (Ext.b1 _).get C0
 have D1 : H3[h.length + 1]? = some (some (ABlk.arr 5 [[.nils, .nils, .nils, .int .i64 0, .bool false]] false)) := by rw [hH3]; exact (Ext.b1 _).get C1
 rw [<- hH3]
 clear hH3
 have hx0 := hx.begin X3 D1 (by omega)
 have hlr := hx.lt
 obtain ⟨o, ho⟩ : ∃ o, o = h.length + 1 := ⟨_, rfl⟩
 obtain ⟨L0, hL0⟩ : ∃ L0 : Nat -> Nat, L0 = fun m => if m = o then 7 else L m := ⟨_, rfl⟩
 rw [<- ho] at D1 hx0 ⊢
 rw [<- hL0] at hx0
 have zL : ∀ n, h.length <= n -> n ≠ o -> L0 n = 0 := fun n hn hno => by rw [hL0]; show (if n = o then 7 else L n) = 0; rw [if_neg hno, hx.ge hn]
 obtain ⟨g, ff, rr⟩ := hx0.rowR
 have e1 : x.begin.r = x := rfl
 rw [e1] at rr
 have rr' := rr
 simp only [Raft.row] at rr'
 have lh := (List.getElem?_eq_some_iff.1 D0).1
 have bad : ROut L h r x.begin (.agg [.nils, .nils, .nils, .int .i64 0, .bool false]) (H3.set h.length (some (.arr 5 [[.nils, .nils, .nils, .int .i64 0, .bool false]] false))) := by
  rw [set_same D0]
  have T := hx0.to (W := wA) (Q := nof)
  rw [hL0] at T
  obtain ⟨ma, ca, aa, row, s1, s2, s3, out⟩ := T.out hx X3 (by omega)
  rw [row] at D1
  simp only [Option.some.injEq, ABlk.arr.injEq, List.cons.injEq] at D1
  obtain ⟨-, ⟨⟨rfl, rfl, rfl, -⟩, -⟩, -⟩ := D1
  exact out
 have w0 : (o = h.length) = False := eq_false (by omega)
 simp only [go_sem, reduceEqDiff, rr']
 by_cases c1 : x.role = 2
 ·simp only [go_sem, reduceEqDiff, decide_eq_true c1, Bool.not_true]
  by_cases c2 : ¬ kind = 1 /\ ¬ kind = 2
  ·have ep : x.propose kind data = (0, x.begin, 13) := by unfold Raft.propose; rw [if_neg (by simpa using c1), if_pos c2]
   rw [ep]
   simp only [go_sem, reduceEqDiff, reduceAdd, reduceLeDiff, reducePow, reduceDiv, reduceMod, decide_true, D0, D1, decide_eq_false c2.1, decide_eq_false c2.2, Bool.not_false, lh]
   exact ⟨_, rfl, bad⟩
  ·by_cases c3 : kind = 2 /\ ¬ cf.2 = 0
   ·have ep : x.propose kind data = (0, x.begin, 4) := by unfold Raft.propose; rw [if_neg (by simpa using c1), if_neg c2, <- hcf, if_pos c3]
    have c31 : ¬ kind = 1 := by rw [c3.1]; decide
    rw [ep]
    simp only [go_sem, reduceEqDiff, reduceAdd, reduceLeDiff, reducePow, reduceDiv, reduceMod, decide_true, D0, D1, decide_eq_false c31, decide_eq_true c3.1, decide_eq_false c3.2, Bool.not_false, Bool.not_true, lh]
    exact ⟨_, rfl, bad⟩
   ·have p1 : x.propose kind data = if 2^40 <= x.last then (0, x.begin, 17) else (x.last + 1, (((x.begin.lay kind data).on).settle).ends, 0) := by
     unfold Raft.propose; rw [if_neg (by simpa using c1), if_neg c2, <- hcf, if_neg c3]
    have eL : (2 : Int)^40 = 1099511627776 := by decide
    rw [eL] at p1
    have lst := u2.2 H3 r x ⟨g, ff, rr⟩ (hfit.logOk (by omega))
    by_cases k1' : kind = 1
    ·have k2' : ¬ kind = 2 := by rw [k1']; decide
     simp only [go_sem, reduceEqDiff, decide_eq_true k1', decide_eq_false k2', Bool.not_true]
     refine use1 u2.1 lst ?_
     by_cases c4 : (1099511627776 : Int) <= x.last
     ·rw [if_pos c4] at p1
      rw [p1]
      simp only [go_sem, reduceEqDiff, reduceAdd, reduceLeDiff, reducePow, reduceDiv, reduceMod, decide_true, D0, D1, decide_eq_true c4, lh]
      exact ⟨_, rfl, bad⟩
     ·rw [if_neg c4] at p1
      simp only [go_sem, reduceEqDiff, decide_eq_false c4]
      refine thd o L0 H3 _ ho hL0 X3 (by omega) hx0 D0 ?_ ?_ ?_ ?_ ?_ p1 <;> simp [lk_ins, lk_cons]
    ·have k2' : kind = 2 := Classical.byContradiction fun z => c2 ⟨k1', z⟩
     have c0 : cf.2 = 0 := Classical.byContradiction fun z => c3 ⟨k2', z⟩
     simp only [go_sem, reduceEqDiff, decide_eq_false k1', decide_eq_true k2', decide_eq_true c0, Bool.not_false, Bool.not_true]
     refine use1 u2.1 lst ?_
     by_cases c4 : (1099511627776 : Int) <= x.last
     ·rw [if_pos c4] at p1
      rw [p1]
      simp only [go_sem, reduceEqDiff, reduceAdd, reduceLeDiff, reducePow, reduceDiv, reduceMod, decide_true, D0, D1, decide_eq_true c4, lh]
      exact ⟨_, rfl, bad⟩
     ·rw [if_neg c4] at p1
      simp only [go_sem, reduceEqDiff, decide_eq_false c4]
      refine thd o L0 H3 _ ho hL0 X3 (by omega) hx0 D0 ?_ ?_ ?_ ?_ ?_ p1 <;> simp [lk_ins, lk_cons]
 ·have ep : x.propose kind data = (0, x.begin, 30) := by unfold Raft.propose; rw [if_pos (by simpa using c1)]
  rw [ep]
  simp only [go_sem, reduceEqDiff, reduceAdd, reduceLeDiff, reducePow, reduceDiv, reduceMod, decide_true, D0, D1, decide_eq_false c1, Bool.not_false, lh]
  exact ⟨_, rfl, bad⟩
end Glb
namespace Glb
open Go
open Nat (reduceAdd reduceDiv reduceEqDiff reduceLeDiff reduceMod reducePow)
set_option maxRecDepth 10000
set_option maxHeartbeats 8000000
def RReadOk (P : Program) (f : FuncId) : Prop := isFn P f = true /\ ∀ (L : Nat -> Nat) (h : AHeap) (r : Nat) (x : Raft) (k : Nat), MemAt L h r x -> x.fit k -> k + 1 < 2^28 ->
 ACalls P f [.ptr r 21 0 0] h fun v h' => ∃ w, v = .tup [.int .i64 x.read.1, w, .int .i64 x.read.2.2] /\ ROut L h r x.read.2.1 w h'
theorem rread_ok {P : Program} {f f1 f2 f3 f4 : FuncId} (hf : Is P f (c_raft_Raft_Read f1 f2 f3 f4)) (u1 : TermOk P f1) (u2 : BeginOk P f2) (u3 : ToOk P f3) (u4 : EachOk P f4) : RReadOk P f := by
 refine ⟨hf.2, fun L h r x k hx hfit hk => fun_sound hf.1 (Nat.le_of_ble_eq_true rfl) ?_⟩
 show vc P (c_raft_Raft_Read f1 f2 f3 f4).code ⟨[(0, .ptr r 21 0 0)], [], h⟩ (atEnd (c_raft_Raft_Read f1 f2 f3 f4).res _)
 obtain ⟨H3, hH⟩ : ∃ H, H = h ++ [some (ABlk.arr 5 [[.nils, .nils, .nils, .int .i64 0, .bool false]] false)] ++ [some (ABlk.arr 5 [[.nils, .nils, .nils, .int .i64 0, .bool false]] false)] := ⟨_, rfl⟩
 have X3 : Ext nof h H3 := by rw [hH]; exact Ext.b2 _ _
 have l3 : H3.length = h.length + 2 := by rw [hH]; simp
 have D0 : H3[h.length]? = some (some (ABlk.arr 5 [[.nils, .nils, .nils, .int .i64 0, .bool false]] false)) := by rw [hH]; exact bx20 _ _ _
 have D1 : H3[h.length + 1]? = some (some (ABlk.arr 5 [[.nils, .nils, .nils, .int .i64 0, .bool false]] false)) := by rw [hH]; exact bx21 _ _ _
 simp only [c_raft_Raft_Read, go_sem, reduceEqDiff, reduceAdd]
 rw [<- hH]
 clear hH
 have hx0 := hx.begin X3 D1 (by omega)
 have hlr := hx.lt
 obtain ⟨o, ho⟩ : ∃ o, o = h.length + 1 := ⟨_, rfl⟩
 obtain ⟨L0, hL0⟩ : ∃ L0 : Nat -> Nat, L0 = fun m => if m = o then 7 else L m := ⟨_, rfl⟩
 rw [<- ho] at D1 hx0 ⊢
 rw [<- hL0] at hx0
 have zL : ∀ n, h.length <= n -> n ≠ o -> ¬ wA (L0 n) := fun n hn hno => by rw [hL0]; show ¬ wA (if n = o then 7 else L n); rw [if_neg hno, hx.ge hn]; exact wA0
 obtain ⟨g, ff, rr⟩ := hx0.rowR
 have e1 : x.begin.r = x := rfl
 rw [e1] at rr
 have rr' := rr
 simp only [Raft.row] at rr'
 have lr := (List.getElem?_eq_some_iff.1 rr).1
 have lh := (List.getElem?_eq_some_iff.1 D0).1
 have w0 : (o = h.length) = False := eq_false (by omega)
 have bad : ROut L h r x.begin (.agg [.nils, .nils, .nils, .int .i64 0, .bool false]) (H3.set h.length (some (.arr 5 [[.nils, .nils, .nils, .int .i64 0, .bool false]] false))) := by
  rw [set_same D0]
  have T := hx0.to (W := wA) (Q := nof)
  rw [hL0] at T
  obtain ⟨ma, ca, aa, row, s1, s2, s3, out⟩ := T.out hx X3 (by omega)
  rw [row] at D1
  simp only [Option.some.injEq, ABlk.arr.injEq, List.cons.injEq] at D1
  obtain ⟨-, ⟨⟨rfl, rfl, rfl, -⟩, -⟩, -⟩ := D1
  exact out
 have ro := hfit.round
 have ewr : IntKind.i64.wrap (x.round + 1) = x.round + 1 := wrap_i64 (by omega)
 have tc := u1.2 nof H3 x.hard.log _ x.commit (rd_logv' x.hard.log H3) (hfit.logOk (by omega))
 simp only [go_sem, reduceEqDiff, rr']
 by_cases c1 : x.role = 2
 ·simp only [go_sem, reduceEqDiff, reduceAdd, reduceLeDiff, rr', decide_eq_true c1, Bool.not_true]
  refine use1 u1.1 tc ?_
  rw [kDB_mk0]
  cases c2 : x.hard.log.has x.commit
  ·have ep : x.read = (0, x.begin, 11) := by unfold Raft.read; rw [if_neg (by simpa using c1), if_pos (.inl c2)]
   rw [ep]
   simp only [go_sem, reduceEqDiff, reduceAdd, reduceLeDiff, reducePow, reduceDiv, reduceMod, decide_true, rr', D0, D1, Bool.not_false, lh]
   exact ⟨_, rfl, bad⟩
  ·by_cases c3 : x.hard.log.term x.commit = x.hard.term
   ·have ep : x.read = (x.round + 1, ({ x with round := x.round + 1 } : Raft).begin.on, 0) := by unfold Raft.read; rw [if_neg (by simpa using c1), if_neg (by rintro (z | z); rw [c2] at z; cases z; exact z c3)]
    rw [ep]
    have T1 := XTo.setR (R := x) (out := Rdy.none) (R' := { x with round := x.round + 1 }) (hx0.to (W := wA) (Q := nof)) rr rfl rfl (fun _ z => z)
    have r1 : (H3.set r (some (.arr 21 [({ x with round := x.round + 1 } : Raft).row g ff] false)))[r]? = some (some (.arr 21 [({ x with round := x.round + 1 } : Raft).row g ff] false)) := List.getElem?_set_self lr
    simp only [Raft.row] at T1 r1
    simp only [go_sem, reduceEqDiff, reduceAdd, reduceLeDiff, reducePow, reduceDiv, reduceMod, decide_true, rr', Bool.not_true, decide_eq_true c3, ewr]
    have ob : ({ r := { x with round := x.round + 1 }, o := Rdy.none } : RX) = ({ x with round := x.round + 1 } : Raft).begin := rfl
    rw [ob] at T1
    have f1 : ({ x with round := x.round + 1 } : Raft).fit (k + 1) := by
     obtain ⟨g1, g2, g3, g4, g5, g6, g7, g8, g9, g10, g11, g12, g13, g14, g15⟩ := hfit.mono (Nat.le_succ k)
     exact ⟨g1, g2, g3, g4, g5, g6, g7, g8, g9, g10, g11, ⟨by show 0 <= x.round + 1; omega, by show x.round + 1 <= ((k + 1 : Nat) : Int); omega⟩, g13, g14, g15⟩
    have o1 := T1.keep (zL h.length (Nat.le_refl _) (by omega)) (fun z => z) D0
    generalize hH1 : H3.set r _ = H1 at *
    refine wCall_use ⟨u2.1, u2.2 H1 r o⟩ ?_
    rintro _ H4 ⟨rfl, X4⟩
    simp only [go_sem, reduceEqDiff]
    have ea := XTo.callM (Q' := nof) T1 X4 (fun _ _ y => y) fun L1 x1 => (eachTo_ok u4 u3 (x1.up X4) f1 (by omega) (begin_few _) (by omega)).mono fun _ _ b => b.weakW wO_wA
    refine wCall_use ⟨u4.1, ea⟩ ?_
    intro _ H5 T5
    have o5 := T5.keep (zL h.length (Nat.le_refl _) (by omega)) (fun z => z) D0
    obtain ⟨g5, f5, r5⟩ := T5.rowR
    have er5 : ({ x with round := x.round + 1 } : Raft).begin.on.r = { x with round := x.round + 1 } := (each_r _ _).1
    rw [er5] at r5
    simp only [Raft.row] at r5
    rw [hL0] at T5
    obtain ⟨ma, ca, aa, row, s1, s2, s3, out⟩ := T5.outS (n := h.length) hx X3 (by omega) ⟨Nat.le_refl _, by omega⟩ (by omega)
    have lh5 := (List.getElem?_eq_some_iff.1 o5).1
    simp only [go_sem, reduceEqDiff, reduceAdd, reduceLeDiff, reducePow, reduceDiv, reduceMod, decide_true, r5, row, o5, s1, s2, s3, lh5]
    exact ⟨_, rfl, out _⟩
   ·have ep : x.read = (0, x.begin, 11) := by unfold Raft.read; rw [if_neg (by simpa using c1), if_pos (.inr c3)]
    rw [ep]
    simp only [go_sem, reduceEqDiff, reduceAdd, reduceLeDiff, reducePow, reduceDiv, reduceMod, decide_true, rr', D0, D1, Bool.not_true, decide_eq_false c3, Bool.not_false, lh]
    exact ⟨_, rfl, bad⟩
 ·have ep : x.read = (0, x.begin, 30) := by unfold Raft.read; rw [if_pos (by simpa using c1)]
  rw [ep]
  simp only [go_sem, reduceEqDiff, reduceAdd, reduceLeDiff, reducePow, reduceDiv, reduceMod, decide_true, D0, D1, decide_eq_false c1, Bool.not_false, lh]
  exact ⟨_, rfl, bad⟩
end Glb
namespace Glb
open Go
open Nat (reduceAdd reduceDiv reduceEqDiff reduceLeDiff reduceMod reducePow)
set_option maxRecDepth 10000
set_option maxHeartbeats 8000000
theorem term_i64 {k : Nat} {x : Raft} (h : x.fit k) (i : Int) : i64ok (x.hard.log.term i) := by
 unfold Log.term
 split
 ·split
  ·exact h.nums.2.2
  ·split
   ·rename_i e he; exact (h.data _ (List.mem_of_getElem? he)).2.1
   ·exact ⟨by omega, by omega⟩
 ·exact ⟨by omega, by omega⟩
theorem compact_fit {k : Nat} {x : Raft} (h : x.fit k) {index : Int} {snap : List Int} (hs : bytesOk snap /\ snap.length <= 2^16) (h1 : x.hard.log.base < index /\ index <= x.applied) {cf : Conf} (hc : cf.right = true) :
  (x.begin.base index (x.hard.log.term index) cf snap).r.fit k := by
 have ha := h.at'
 have hb := h.base
 have hl := h.last
 have hh : x.hard.log.has index = true := has_iff.2 ⟨by omega, by omega⟩
 have hi : 0 <= index /\ index <= 2^40 + k := ⟨by omega, by omega⟩
 obtain ⟨-, -, -, -, -, -, s7⟩ := snapped_fit h hi (term_i64 h index)
 have := h.based (c := x.commit) (a := x.applied) (cf := cf) (snap := snap) hi (term_i64 h index) hc hs ⟨h1.2, ha.2.1, by rw [s7 ⟨hh, rfl⟩]; exact ha.2.2⟩
 exact this
theorem slice_aentries (l : List Entry) {k : Int} (h : 0 <= k /\ k <= l.length) : aslice 3 (aentries l) none (some k) none = some (aentries (l.take k.toNat)) := by
 rw [aentries_eq, aentries_eq]
 simp only [aslice, Option.getD_none, Option.getD_some, List.length_map]
 rw [if_pos ⟨trivial, by omega, by omega, h.2, by omega, h.2⟩]
 simp [sliceClip, List.map_take]
def RCompactOk (P : Program) (f : FuncId) : Prop := isFn P f = true /\ ∀ (L : Nat -> Nat) (h : AHeap) (r : Nat) (x : Raft) (k : Nat) (index : Int) (snap : List Int) (s : AV), MemAt L h r x -> x.fit k -> k < 2^28 -> DatAt L h (dBytes snap) s -> bytesOk snap /\ snap.length <= 2^16 ->
 ACalls P f [.ptr r 21 0 0, .int .i64 index, s] h fun v h' => ∃ w, v = .tup [w, .int .i64 (x.compact index snap).2] /\ ROut L h r (x.compact index snap).1 w h'
theorem rcompact_ok {P : Program} {f f1 f2 f3 f4 f5 : FuncId} (hf : Is P f (c_raft_Raft_Compact f1 f2 f3 f4 f5)) (u1 : OfP P f1) (u2 : TermOk P f2) (u3 : BeginOk P f3) (u4 : RBaseOk P f4) (u5 : REndOk P f5) : RCompactOk P f := by
 refine ⟨hf.2, fun L h r x k index snap s hx hfit hk hd hsnap => fun_sound hf.1 (Nat.le_of_ble_eq_true rfl) ?_⟩
 show vc P (c_raft_Raft_Compact f1 f2 f3 f4 f5).code ⟨[(0, .ptr r 21 0 0), (1, .int .i64 index), (2, s)], [], h⟩ (atEnd (c_raft_Raft_Compact f1 f2 f3 f4 f5).res _)
 obtain ⟨G, hd1, hG⟩ := hd
 obtain ⟨H3, hH⟩ : ∃ H, H = h ++ [some (ABlk.arr 5 [[.nils, .nils, .nils, .int .i64 0, .bool false]] false)] ++ [some (ABlk.arr 5 [[.nils, .nils, .nils, .int .i64 0, .bool false]] false)] := ⟨_, rfl⟩
 have X3 : Ext nof h H3 := by rw [hH]; exact Ext.b2 _ _
 have l3 : H3.length = h.length + 2 := by rw [hH]; simp
 have D0 : H3[h.length]? = some (some (ABlk.arr 5 [[.nils, .nils, .nils, .int .i64 0, .bool false]] false)) := by rw [hH]; exact bx20 _ _ _
 have D1 : H3[h.length + 1]? = some (some (ABlk.arr 5 [[.nils, .nils, .nils, .int .i64 0, .bool false]] false)) := by rw [hH]; exact bx21 _ _ _
 simp only [c_raft_Raft_Compact, go_sem, reduceEqDiff, reduceAdd]
 rw [<- hH]
 clear hH
 have hx0 := hx.begin X3 D1 (by omega)
 have hlr := hx.lt
 obtain ⟨o, ho⟩ : ∃ o, o = h.length + 1 := ⟨_, rfl⟩
 obtain ⟨L0, hL0⟩ : ∃ L0 : Nat -> Nat, L0 = fun m => if m = o then 7 else L m := ⟨_, rfl⟩
 rw [<- ho] at D1 hx0 ⊢
 rw [<- hL0] at hx0
 have zL0 : ∀ n, h.length <= n -> n ≠ o -> L0 n = 0 := fun n hn hno => by rw [hL0]; show (if n = o then 7 else L n) = 0; rw [if_neg hno, hx.ge hn]
 have zL : ∀ n, h.length <= n -> n ≠ o -> ¬ wA (L0 n) := fun n hn hno => by rw [zL0 n hn hno]; exact wA0
 obtain ⟨g, ff, rr⟩ := hx0.rowR
 have e1 : x.begin.r = x := rfl
 rw [e1] at rr
 have rr' := rr
 simp only [Raft.row] at rr'
 have lr := (List.getElem?_eq_some_iff.1 rr).1
 have lh := (List.getElem?_eq_some_iff.1 D0).1
 have w0 : (o = h.length) = False := eq_false (by omega)
 have bad : ROut L h r x.begin (.agg [.nils, .nils, .nils, .int .i64 0, .bool false]) (H3.set h.length (some (.arr 5 [[.nils, .nils, .nils, .int .i64 0, .bool false]] false))) := by
  rw [set_same D0]
  have T := hx0.to (W := wA) (Q := nof)
  rw [hL0] at T
  obtain ⟨ma, ca, aa, row, s1, s2, s3, out⟩ := T.out hx X3 (by omega)
  rw [row] at D1
  simp only [Option.some.injEq, ABlk.arr.injEq, List.cons.injEq] at D1
  obtain ⟨-, ⟨⟨rfl, rfl, rfl, -⟩, -⟩, -⟩ := D1
  exact out
 have hat := hfit.at'
 have hb := hfit.base
 have hl := hfit.last
 simp only [go_sem, reduceEqDiff, rr']
 by_cases c1 : index <= x.hard.log.base
 ·have ep : x.compact index snap = (x.begin, 3) := by unfold Raft.compact; rw [if_pos (.inl c1)]
  rw [ep]
  simp only [go_sem, reduceEqDiff, reduceAdd, reduceLeDiff, D0, D1, decide_eq_true c1, lh]
  exact ⟨_, rfl, bad⟩
 ·by_cases c2 : x.applied < index
  ·have ep : x.compact index snap = (x.begin, 3) := by unfold Raft.compact; rw [if_pos (.inr c2)]
   rw [ep]
   simp only [go_sem, reduceEqDiff, reduceAdd, reduceLeDiff, rr', D0, D1, decide_eq_false c1, decide_eq_true c2, lh]
   exact ⟨_, rfl, bad⟩
  ·have hl2 : x.hard.log.last = x.hard.log.base + x.hard.log.es.length := rfl
   have ewi : IntKind.i64.wrap (index - x.hard.log.base) = index - x.hard.log.base := wrap_i64 (by omega)
   simp only [go_sem, reduceEqDiff, reduceAdd, reduceLeDiff, rr', decide_eq_false c1, decide_eq_false c2, scalar_aentries, scalar_aints, scalar_abytes, ewi]
   rw [slice_aentries _ (by omega)]
   obtain ⟨up, hup⟩ : ∃ up : Hard, up = { x.hard with log := { x.hard.log with es := x.hard.log.es.take (index - x.hard.log.base).toNat } } := ⟨_, rfl⟩
   have hupc : up.conf.right = true := by rw [hup]; exact hfit.conf
   have hupR : up.ofR := by
    obtain ⟨g1, g2, g3, g4⟩ := hfit.ofR (Nat.le_of_lt hk)
    rw [hup]
    exact ⟨g1, by simp only [List.length_take]; omega, fun e he => g3 e (List.mem_of_mem_take he), g4⟩
   have ep : x.compact index snap = ((x.begin.base index (x.hard.log.term index) up.of.1 snap).ends, 0) := by
    unfold Raft.compact; rw [if_neg (by omega)]; subst hup; rfl
   rw [ep]
   have eset : ∀ a b : Option ABlk, (H3 ++ [a]).set H3.length b = H3 ++ [b] := fun a b => by rw [List.set_append_right _ _ (Nat.le_refl _)]; simp
   have bget : ∀ a : Option ABlk, (H3 ++ [a])[H3.length]? = some a := fun a => by simp
   have blt : ∀ a : Option ABlk, H3.length < (H3 ++ [a]).length := fun a => by simp
   have hc5 := rd_hardv' up (H3 ++ [some (ABlk.arr 10 [[AV.int IntKind.i64 up.group, AV.int IntKind.i64 up.term, AV.int IntKind.i64 up.vote, AV.int IntKind.i64 up.log.base, AV.int IntKind.i64 up.log.bterm, aentries up.log.es, aints up.conf.old, aints up.conf.new, aints up.conf.learners, abytes up.snap]] false)])
   have ofc := u1.2 nof _ up _ hc5 hupR
   rw [hup] at ofc
   simp only at ofc
   rw [<- hup] at ofc
   obtain ⟨H5, hH5⟩ : ∃ H5, H5 = H3 ++ [some (ABlk.arr 10 [[AV.int IntKind.i64 x.hard.group, AV.int IntKind.i64 x.hard.term, AV.int IntKind.i64 x.hard.vote, AV.int IntKind.i64 x.hard.log.base, AV.int IntKind.i64 x.hard.log.bterm, aentries (x.hard.log.es.take (index - x.hard.log.base).toNat), aints x.hard.conf.old, aints x.hard.conf.new, aints x.hard.conf.learners, abytes x.hard.snap]] false)] := ⟨_, rfl⟩
   have B5 : H5[H3.length]? = some (some (ABlk.arr 10 [[AV.int IntKind.i64 x.hard.group, AV.int IntKind.i64 x.hard.term, AV.int IntKind.i64 x.hard.vote, AV.int IntKind.i64 x.hard.log.base, AV.int IntKind.i64 x.hard.log.bterm, aentries (x.hard.log.es.take (index - x.hard.log.base).toNat), aints x.hard.conf.old, aints x.hard.conf.new, aints x.hard.conf.learners, abytes x.hard.snap]] false)) := by rw [hH5]; exact bget _
   have X5 : Ext nof H3 H5 := by rw [hH5]; exact Ext.b1 _
   have l5 : H5.length = H3.length + 1 := by rw [hH5]; simp
   simp only [go_sem, reduceEqDiff, reduceAdd, reduceLeDiff, bget, eset]
   rw [<- hH5] at ofc ⊢
   clear hH5
   refine use1 u1.1 ofc ?_
   obtain ⟨cf, hcf⟩ : ∃ cf, cf = up.of.1 := ⟨_, rfl⟩
   have hcfr : cf.right = true := by rw [hcf]; exact (Hard.of_right hupc).1
   rw [<- hcf]
   obtain ⟨H6, hH6⟩ : ∃ H6, H6 = H5 ++ [some (ABlk.arr 3 [[aints cf.old, aints cf.new, aints cf.learners]] false)] := ⟨_, rfl⟩
   have B6 : H6[H5.length]? = some (some (ABlk.arr 3 [[aints cf.old, aints cf.new, aints cf.learners]] false)) := by rw [hH6]; exact bx10 _ _
   have X6 : Ext nof H3 H6 := by rw [hH6]; exact X5.tr (Ext.b1 _)
   have rr6 := X6.get rr'
   have l6 : H6.length = H3.length + 2 := by rw [hH6]; simp [l5]
   simp only [go_sem, reduceEqDiff, reduceAdd, reduceLeDiff, Conf.v_eq, scalar_aints]
   rw [<- hH6]
   clear hH6
   simp only [go_sem, reduceEqDiff, reduceAdd, reduceLeDiff, rr6]
   refine use1 u2.1 (u2.2 nof H6 x.hard.log _ index (rd_logv' x.hard.log H6) (hfit.logOk (by omega))) ?_
   simp only [go_sem, reduceEqDiff]
   refine wCall_use ⟨u3.1, u3.2 H6 r o⟩ ?_
   rintro _ H7 ⟨rfl, X7⟩
   have x7 := X7.1
   simp only [go_sem, reduceEqDiff, reduceAdd, reduceLeDiff]
   obtain ⟨H8, hH8⟩ : ∃ H8, H8 = H7 ++ [some (ABlk.arr 2 [[.ptr r 21 0 0, .ptr o 5 0 0]] false)] := ⟨_, rfl⟩
   have B8 : H8[H7.length]? = some (some (ABlk.arr 2 [[.ptr r 21 0 0, .ptr o 5 0 0]] false)) := by rw [hH8]; exact bx10 _ _
   have X8 : Ext nof H3 H8 := by rw [hH8]; exact (X6.tr X7).tr (Ext.b1 _)
   have l8 : H8.length = H7.length + 1 := by rw [hH8]; simp
   have C8 : H8[H5.length]? = some (some (ABlk.arr 3 [[aints cf.old, aints cf.new, aints cf.learners]] false)) := by rw [hH8]; exact (Ext.b1 _).get (X7.get B6)
   rw [<- hH8]
   clear hH8
   simp only [go_sem, reduceEqDiff, reduceAdd, reduceLeDiff, C8]
   have D8 := X8.get D0
   have hx8 := hx0.up X8
   have d8 : Rd G H8 (dBytes snap) s := Rd.mono (fun _ y => y) ((X3.tr X8).keep _) _ _ hd1
   have ba := u4.2 G L0 H8 r o x.begin 0 index (x.hard.log.term index) cf _ snap s hx8 (hfit.logOk (by omega)) (begin_few _) (by omega) (RdL.mono (fun _ y => y.elim) (fun _ hn => hn.elim) _ _ (rd_confv' cf H8)) d8 (fun n hn => by have := hG n hn; rw [hL0]; show (if n = o then 7 else L n) = 0; rw [if_neg (by omega)]; exact this.1) ((right_few hcfr).le (by omega)) (by omega)
   refine wCall_use ⟨u4.1, ba⟩ ?_
   intro _ H9 T9
   have M9 := T9.keep (zL _ (by omega) (by omega)) (fun z => z) B8
   have E9 := T9.keep (zL _ (Nat.le_refl _) (by omega)) (fun z => z) D8
   simp only [go_sem, reduceEqDiff, reduceAdd, reduceLeDiff, M9]
   have f9 := compact_fit hfit (index := index) (snap := snap) hsnap (by omega) hcfr
   have en := XTo.callM (Q' := nof) T9 (Ext.refl _ _) (fun _ _ y => y) fun L1 x1 => u5.2 L1 H9 r o _ k x1 f9 (by omega)
   refine wCall_use ⟨u5.1, en⟩ ?_
   intro _ H10 T10
   have o10 := T10.keep (zL _ (Nat.le_refl _) (by omega)) (fun z => z) D8
   rw [hL0] at T10
   obtain ⟨ma, ca, aa, row, s1, s2, s3, out⟩ := T10.outS (n := h.length) hx (X3.tr X8) (by have := X8.1; omega) ⟨Nat.le_refl _, by omega⟩ (by omega)
   have lh10 := (List.getElem?_eq_some_iff.1 o10).1
   simp only [go_sem, reduceEqDiff, reduceAdd, reduceLeDiff, row, o10, s1, s2, s3, lh10]
   exact ⟨_, rfl, out _⟩

end Glb
namespace Glb
open Go
open Nat (reduceAdd reduceDiv reduceEqDiff reduceLeDiff reduceMod reducePow)
set_option maxRecDepth 10000
set_option maxHeartbeats 8000000
structure OneAt (lo n : Nat) (h : AHeap) (l : List Int) : Prop where
 ex : ∃ (a : AV) (A : Nat -> Prop), h[n]? = some (some (.arr 1 [[a]] false)) /\ (∀ m, A m -> lo <= m /\ m ≠ n) /\ Own (dInts l) A h a /\ canApp h a
 lt : n < h.length /\ lo <= n
theorem OneAt.up {lo n : Nat} {h h' : AHeap} {l : List Int} (hh : OneAt lo n h l) (hx : Ext nof h h') : OneAt lo n h' l := by
 obtain ⟨⟨a, A, e2, hA, oa, ca⟩, lt2, lo2⟩ := hh
 have kA : ∀ F, Keep F h h' := fun F m hm y hy => hx.get hy
 exact ⟨⟨a, A, hx.get e2, hA, Own.mono _ (fun _ y => y) (kA _) _ oa, ca.keep oa (kA _)⟩, by have := hx.1; omega, lo2⟩
theorem safe_f1_ok {P : Program} {f : FuncId} (hf : Is P f c_raft_Raft_Safe_f1) {lo n2 n3 : Nat} {h : AHeap} {l2 : List Int} {round : Int} (hh : OneAt lo n2 h l2) (hn3 : h[n3]? = some (some (.arr 1 [[.int .i64 round]] false))) (hl : l2.length <= 2^20) (w : Flow) :
  ACalls P f [.agg w.cells, .ptr n3 1 0 0, .ptr n2 1 0 0] h fun _ h' => OneAt lo n2 h' (if round <= w.round then l2 ++ [w.node] else l2) /\ Ext (fun m => lo <= m) h h' := by
 refine fun_sound hf.1 (Nat.le_of_ble_eq_true rfl) ?_
 show vc P c_raft_Raft_Safe_f1.code ⟨[(0, .agg w.cells), (1, .ptr n3 1 0 0), (2, .ptr n2 1 0 0)], [], h⟩ (atEnd c_raft_Raft_Safe_f1.res _)
 obtain ⟨a, A, e2, hA, oa, ca⟩ := id hh.ex
 obtain ⟨lt2, lo2⟩ := hh.lt
 have lt3 := (List.getElem?_eq_some_iff.1 hn3).1
 have E2 : ∀ x, (h ++ [x])[n2]? = _ := fun x => (Ext.b1 x).get e2
 have E3 : ∀ x, (h ++ [x])[n3]? = _ := fun x => (Ext.b1 x).get hn3
 have sa := oa.scalar
 by_cases c1 : round <= w.round
 ·rw [if_pos c1]
  simp only [c_raft_Raft_Safe_f1, Flow.cells, go_sem, reduceEqDiff, reduceAdd, E2, E3, decide_eq_true c1]
  obtain ⟨H4, hH4⟩ : ∃ H4, H4 = h ++ [some (ABlk.arr 4 [[.int .i64 w.node, .int .i64 w.next, .int .i64 w.mat, .int .i64 w.round]] false)] ++ [some (ABlk.arr 1 [[.int .i64 w.node]] false)] := ⟨_, rfl⟩
  have X4 : Ext nof h H4 := by rw [hH4]; exact Ext.b2 _ _
  have l4 : H4.length = h.length + 2 := by rw [hH4]; simp
  have c1 : H4[h.length + 1]? = some (some (ABlk.arr 1 [[.int .i64 w.node]] false)) := by rw [hH4]; exact bx21 _ _ _
  have oa1 : Own (dInts l2) (fun m => (A m /\ m < h.length) \/ H4.length <= m) H4 a := Own.mono _ (fun m hm => .inl hm) (fun m hm y hy => X4.get hy) _ (Own.lt _ _ oa)
  have ca1 : canApp H4 a := ca.keep oa (fun m hm y hy => X4.get hy)
  obtain ⟨a', h', s1, s2, s3, s4⟩ := own_appF (bytes := 8) (es := [[.int .i64 w.node]]) (ys := [[.int .i64 w.node]]) oa1 ca1 (Ext.refl _ _) (by simp [OwnLL, OwnL, Own]) (fun m hm => .inr hm) (by simp; omega)
  have ae : aelems H4 1 (.ref (h.length + 1) 1 0 1 (some 1)) = some [[.int .i64 w.node]] := by simp [aelems, c1, go_sem, reduceIte]
  rw [<- aappend_of ae] at s1
  rw [<- hH4, s1]
  have kk : ∀ m, m < H4.length -> ¬ (A m /\ m < h.length) -> h'[m]? = H4[m]? := fun m hm hn => s4.2 m hm (fun z => by rcases z with z | z; exact hn z; omega)
  have KE2 := (kk n2 (by omega) (fun z => (hA n2 z.1).2 rfl)).trans (X4.get e2)
  have l' := s4.1
  have l62 : n2 < h'.length := by omega
  have sa' := s2.scalar
  simp only [go_sem, reduceEqDiff, reduceAdd, reduceLeDiff, KE2, sa', cells_of sa']
  have e4 : dInts (l2 ++ [w.node]) = .sl 1 (l2.map (fun n => [D.int .i64 n]) ++ [[.int .i64 w.node]]) := by simp [dInts]
  have kA : Keep (fun m => ((A m /\ m < h.length) \/ H4.length <= m) /\ m < h'.length) h' (h'.set n2 (some (ABlk.arr 1 [[a']] false))) := by
   rintro m ⟨hm, hlt⟩ y hy
   have hne : m ≠ n2 := by
    rcases hm with ⟨z, z'⟩ | z
    ·exact (hA m z).2
    ·omega
   exact (List.getElem?_set_ne (fun e => hne e.symm)).trans hy
  have s2' := Own.lt _ _ s2
  refine ⟨⟨⟨a', fun m => ((A m /\ m < h.length) \/ H4.length <= m) /\ m < h'.length, List.getElem?_set_self l62, ?_, ?_, s3.keep s2' kA⟩, by simp; omega, lo2⟩, ?_⟩
  ·rintro m ⟨hm, hlt⟩
   rcases hm with ⟨z, z'⟩ | z
   ·exact hA m z
   ·exact ⟨by omega, by omega⟩
  ·rw [e4]; exact Own.mono _ (fun m hm => hm) kA _ s2'
  ·refine ⟨by simp; omega, fun m hm hlo => ?_⟩
   have nA : ¬ (A m /\ m < h.length) := fun z => hlo (hA m z.1).1
   exact (List.getElem?_set_ne (fun e => hlo (by omega))).trans ((kk m (by omega) nA).trans (X4.2 m hm (fun y => y)))
 ·rw [if_neg c1]
  simp only [c_raft_Raft_Safe_f1, Flow.cells, go_sem, reduceEqDiff, reduceAdd, E3, decide_eq_false c1]
  exact ⟨hh.up (Ext.b1 _), (Ext.b1 _).1, fun m hm _ => (Ext.b1 _).2 m hm (fun z => z)⟩
theorem safe_list (id round : Int) (l : List Flow) (w : Flow) : (if round <= w.round then (id :: (l.filter fun f => decide (round <= f.round)).map Flow.node) ++ [w.node] else (id :: (l.filter fun f => decide (round <= f.round)).map Flow.node)) = id :: ((l ++ [w]).filter fun f => decide (round <= f.round)).map Flow.node := by
 rw [List.filter_append, List.map_append]
 by_cases c : round <= w.round
 ·rw [if_pos c]; simp [c]
 ·rw [if_neg c]; simp [c]
def RSafeOk (P : Program) (f : FuncId) : Prop := isFn P f = true /\ ∀ (L : Nat -> Nat) (h : AHeap) (r : Nat) (x : Raft) (k : Nat) (round : Int), MemAt L h r x -> x.fit k -> k <= 2^28 ->
 ACalls P f [.ptr r 21 0 0, .int .i64 round] h fun v h' => v = .bool (x.safe round) /\ h' = h
theorem rsafe_ok {P : Program} {f f1 f2 f3 f4 : FuncId} (hf : Is P f (c_raft_Raft_Safe f1 f2 f3 f4)) (h1 : Is P f1 c_raft_Raft_Safe_f1) (h2 : EachOk P f2) (h3 : NowOk P f3) (h4 : WonOk P f4) : RSafeOk P f := by
 refine ⟨hf.2, fun L h r x k round hx hfit hk => ACalls.freeze (K := fun v h' => v = .bool (x.safe round) /\ Ext nof h h') (fun_sound hf.1 (Nat.le_of_ble_eq_true rfl) ?_) (fun r _ ⟨e, hx⟩ => ⟨hx, r, by rw [e]; exact Frz.bool _, e⟩)⟩
 show vc P (c_raft_Raft_Safe f1 f2 f3 f4).code ⟨[(0, .ptr r 21 0 0), (1, .int .i64 round)], [], h⟩ (atEnd (c_raft_Raft_Safe f1 f2 f3 f4).res _)
 obtain ⟨g, ff, ra⟩ := id hx.r
 have rr := ra.row
 have lt := hx.lt
 have rdf := Own.rd _ (F' := fun m => L m = 2 /\ m < h.length) (fun _ y => y) _ (Own.lt _ _ ra.fo)
 have hfl := hfit.flows.1
 simp only [Raft.row] at rr
 have R1 : ∀ a, (h ++ [a])[r]? = _ := fun a => (Ext.b1 a).get rr
 have B1 := bx10 h (some (ABlk.arr 1 [[.int .i64 round]] false))
 simp only [c_raft_Raft_Safe, go_sem, reduceEqDiff, reduceAdd, R1]
 have no : ∀ H, Ext nof h H -> (x.role ≠ 2 \/ round < 1 \/ x.round < round) -> AV.bool false = AV.bool (x.safe round) /\ Ext nof h H := fun H e z => ⟨by unfold Raft.safe; rw [if_pos z], e⟩
 by_cases c1 : x.role = 2
 ·by_cases c2 : round < 1
  ·simp only [go_sem, reduceEqDiff, B1, decide_eq_true c1, decide_eq_true c2, Bool.not_true]
   exact no _ (Ext.b1 _) (.inr (.inl c2))
  ·by_cases c3 : x.round < round
   ·simp only [go_sem, reduceEqDiff, reduceAdd, R1, B1, decide_eq_true c1, decide_eq_false c2, decide_eq_true c3, Bool.not_true]
    exact no _ (Ext.b1 _) (.inr (.inr c3))
   ·simp only [go_sem, reduceEqDiff, reduceAdd, reduceLeDiff, R1, B1, decide_eq_true c1, decide_eq_false c2, decide_eq_false c3, Bool.not_true]
    obtain ⟨H3, hH3⟩ : ∃ H3, H3 = h ++ [some (ABlk.arr 1 [[.int .i64 round]] false)] ++ [some (ABlk.arr 1 [[.int .i64 x.id]] false)] ++ [some (ABlk.arr 1 [[.ref (h.length + 1) 1 0 1 (some 1)]] false)] := ⟨_, rfl⟩
    have X3 : Ext nof h H3 := by rw [hH3]; exact Ext.b3 _ _ _
    have l3 : H3.length = h.length + 3 := by rw [hH3]; simp
    have C0 : H3[h.length]? = some (some (ABlk.arr 1 [[.int .i64 round]] false)) := by rw [hH3]; exact bx30 _ _ _ _
    have C1 : H3[h.length + 1]? = some (some (ABlk.arr 1 [[.int .i64 x.id]] false)) := by rw [hH3]; exact bx31 _ _ _ _
    have C2 : H3[h.length + 1 + 1]? = some (some (ABlk.arr 1 [[.ref (h.length + 1) 1 0 1 (some 1)]] false)) := by rw [hH3]; exact bx32 _ _ _ _
    rw [<- hH3]
    clear hH3
    have T0 : OneAt (h.length + 1) (h.length + 1 + 1) H3 [x.id] := by
     refine ⟨⟨_, fun m => m = h.length + 1, C2, fun m hm => ⟨by omega, by omega⟩, ?_, ⟨_, _, C1, (fun e => by cases e), (fun c hc => by cases hc; simp)⟩⟩, by omega, by omega⟩
     exact .inr (.inr ⟨_, 0, some 1, _, _, rfl, rfl, C1, by simp, (fun c hc => by cases hc; simp), by simp [OwnLL, OwnL, Own]⟩)
    obtain ⟨J, hJ⟩ : ∃ J : Nat -> AHeap -> Prop, ∀ k h', J k h' ↔ OneAt (h.length + 1) (h.length + 1 + 1) h' (x.id :: ((x.flows.take k).filter fun f => decide (round <= f.round)).map Flow.node) /\ Ext (fun m => h.length + 1 <= m) H3 h' := ⟨_, fun _ _ => Iff.rfl⟩
    have J1 : ∀ k h', J k h' -> Rd (fun m => L m = 2 /\ m < h.length) h' (dFlows x.flows) ff := by
     intro k h' hh
     obtain ⟨-, e⟩ := (hJ k h').1 hh
     exact Rd.mono (fun _ y => y) (fun m hm y hy => (e.2 m (by omega) (by omega)).trans (X3.get hy)) _ _ rdf
    have J2 : ∀ k (hk : k < x.flows.length) h' H, J k h' -> Ext nof h' H -> ACalls P f1 ([] ++ [.agg (x.flows[k]).cells] ++ [.ptr h.length 1 0 0, .ptr (h.length + 1 + 1) 1 0 0]) H fun _ h'' => J (k + 1) h'' := by
     intro k hk h' H hh hX
     obtain ⟨t, e⟩ := (hJ k h').1 hh
     have ek : x.flows.take (k + 1) = x.flows.take k ++ [x.flows[k]] := List.take_succ_eq_append_getElem hk
     have tl := List.length_take_le k x.flows
     have tf := List.length_filter_le (fun f : Flow => decide (round <= f.round)) (x.flows.take k)
     refine (safe_f1_ok h1 (t.up hX) (hX.get ((e.2 h.length (by omega) (by omega)).trans C0)) (by simp only [List.length_cons, List.length_map]; omega) x.flows[k]).mono fun v h'' z => (hJ _ _).2 ?_
     rw [ek, <- safe_list]
     exact ⟨z.1, (e.trans (hX.trans z.2 (F'' := fun m => h.length + 1 <= m) (fun _ _ y => y.elim) (fun _ _ y => y)) (fun _ _ y => y) (fun _ _ y => y))⟩
    refine wCall_use ⟨h2.1, h2.2 (fun m => L m = 2 /\ m < h.length) H3 r x g ff f1 [] [.ptr h.length 1 0 0, .ptr (h.length + 1 + 1) 1 0 0] J (X3.get ra.row) h1.2 (by omega) ((hJ _ _).2 ⟨by simpa using T0, Ext.refl _ _⟩) J1 J2⟩ ?_
    rintro _ h6 hh
    obtain ⟨t6, e6⟩ := (hJ _ _).1 hh
    rw [List.take_length] at t6
    obtain ⟨a, A, e2, hA, oa', ca⟩ := t6.ex
    have X6 : Ext nof h h6 := ⟨by have := X3.1; have := e6.1; omega, fun m hm _ => (e6.2 m (by omega) (by omega)).trans (X3.2 m hm (fun y => y))⟩
    have r6 := X6.get rr
    have sa := oa'.scalar
    have ra' := Own.rd _ (F' := A) (fun _ y => y) _ oa'
    have tf := List.length_filter_le (fun f : Flow => decide (round <= f.round)) x.flows
    simp only [go_sem, reduceEqDiff, e2]
    refine use1 h3.1 (h3.2 h6 r x ⟨g, ff, r6⟩ (hfit.ofR hk)) ?_
    simp only [go_sem, reduceEqDiff, reducePow, reduceDiv, reduceMod, e2]
    refine use1 h4.1 (h4.2 nof A h6 x.now _ _ _ (rd_confv nof h6 x.now) ra' (hfit.nowFew (by decide)) (by simp only [List.length_cons, List.length_map]; omega)) ?_
    simp only [go_sem, reduceEqDiff, reducePow, reduceDiv, reduceMod, decide_true, e2]
    refine ⟨?_, X6⟩
    unfold Raft.safe
    rw [if_neg (by simp [c1]; omega)]
 ·simp only [go_sem, reduceEqDiff, decide_eq_false c1, Bool.not_false]
  exact no _ (Ext.b1 _) (.inl c1)
end Glb
namespace Glb
open Go
open Nat (reduceAdd reduceDiv reduceEqDiff reduceLeDiff reduceMod reducePow)
set_option maxRecDepth 10000
set_option maxHeartbeats 8000000
def NumOk (P : Program) (f : FuncId) (t : Raft -> Int) : Prop := isFn P f = true /\ ∀ (h : AHeap) (r : Nat) (x : Raft), RowR h r x -> ACalls P f [.ptr r 21 0 0] h fun res h' => res = .int .i64 (t x) /\ h' = h
theorem rrole_ok {P : Program} {f : FuncId} (hf : Is P f c_raft_Raft_Role) : NumOk P f Raft.role := by
 refine ⟨hf.2, fun h r x ⟨g, ff, rr⟩ => fun_sound hf.1 (Nat.le_of_ble_eq_true rfl) ?_⟩
 show vc P c_raft_Raft_Role.code ⟨[(0, .ptr r 21 0 0)], [], h⟩ (atEnd c_raft_Raft_Role.res _)
 simp only [Raft.row] at rr
 simp only [c_raft_Raft_Role, go_sem, reduceEqDiff, reduceAdd, rr]
theorem rleader_ok {P : Program} {f : FuncId} (hf : Is P f c_raft_Raft_Leader) : NumOk P f Raft.leader := by
 refine ⟨hf.2, fun h r x ⟨g, ff, rr⟩ => fun_sound hf.1 (Nat.le_of_ble_eq_true rfl) ?_⟩
 show vc P c_raft_Raft_Leader.code ⟨[(0, .ptr r 21 0 0)], [], h⟩ (atEnd c_raft_Raft_Leader.res _)
 simp only [Raft.row] at rr
 simp only [c_raft_Raft_Leader, go_sem, reduceEqDiff, reduceAdd, rr]
theorem rcommit_ok {P : Program} {f : FuncId} (hf : Is P f c_raft_Raft_Commit) : NumOk P f Raft.commit := by
 refine ⟨hf.2, fun h r x ⟨g, ff, rr⟩ => fun_sound hf.1 (Nat.le_of_ble_eq_true rfl) ?_⟩
 show vc P c_raft_Raft_Commit.code ⟨[(0, .ptr r 21 0 0)], [], h⟩ (atEnd c_raft_Raft_Commit.res _)
 simp only [Raft.row] at rr
 simp only [c_raft_Raft_Commit, go_sem, reduceEqDiff, reduceAdd, rr]
theorem slice_all (l : Log) : l.slice (l.base + 1) l.es.length = l.es := by
 unfold Log.slice
 by_cases c : l.es.length = 0
 ·have : l.es = [] := List.length_eq_zero_iff.1 c
  simp [this]
 ·rw [if_neg (by unfold Log.last; omega)]
  rw [show (l.base + 1 - l.base - 1).toNat = 0 by omega]
  simp
def RFreshOk (P : Program) (f : FuncId) : Prop := isFn P f = true /\ ∀ (F : Nat -> Prop) (h : AHeap) (x : Hard) (a : List AV), RdL F h x.c a -> LogOk x.log -> x.conf.few (2^40) -> x.snap.length <= 2^40 -> (x.log.es.length <= 2^40 /\ (0 <= x.log.base /\ x.log.base <= 2^60)) ->
 ACalls P f [.agg a] h fun v h' => ∃ b, v = .agg b /\ OwnL x.c (fun m => h.length <= m) h' b /\ Ext nof h h'
theorem rfresh_ok {P : Program} {f f1 f2 f3 : FuncId} (hf : Is P f (c_raft_fresh f1 f2 f3)) (u1 : SliceOk P f1) (u2 : FreshConfOk P f2) (u3 : CloneBOk P f3) : RFreshOk P f := by
 refine ⟨hf.2, fun F h x a ha hlog hc hs hb => fun_sound hf.1 (Nat.le_of_ble_eq_true rfl) ?_⟩
 show vc P (c_raft_fresh f1 f2 f3).code ⟨[(0, .agg a)], [], h⟩ (atEnd (c_raft_fresh f1 f2 f3).res _)
 obtain ⟨e, o, n, l, s, rfl, he, ho, hn, hl, hsn⟩ := rd_hard ha
 obtain ⟨H, hH⟩ : ∃ H, H = h ++ [some (ABlk.arr 10 [[.int .i64 x.group, .int .i64 x.term, .int .i64 x.vote, .int .i64 x.log.base, .int .i64 x.log.bterm, e, o, n, l, s]] false)] ++ [some (ABlk.arr 10 [[.int .i64 0, .int .i64 0, .int .i64 0, .int .i64 0, .int .i64 0, .nils, .nils, .nils, .nils, .nils]] false)] := ⟨_, rfl⟩
 have X1 : Ext nof h H := by rw [hH]; exact Ext.b2 _ _
 have lH : H.length = h.length + 2 := by rw [hH]; simp
 have C0 : H[h.length]? = some (some (ABlk.arr 10 [[.int .i64 x.group, .int .i64 x.term, .int .i64 x.vote, .int .i64 x.log.base, .int .i64 x.log.bterm, e, o, n, l, s]] false)) := by rw [hH]; exact bx20 _ _ _
 have C1 : H[h.length + 1]? = some (some (ABlk.arr 10 [[.int .i64 0, .int .i64 0, .int .i64 0, .int .i64 0, .int .i64 0, .nils, .nils, .nils, .nils, .nils]] false)) := by rw [hH]; exact bx21 _ _ _
 have len : alen e = some (.int .i64 x.log.es.length) := by have := he.len; simpa [dEntries] using this
 have ew : IntKind.i64.wrap (x.log.base + 1) = x.log.base + 1 := wrap_i64 (by omega)
 have rl : RdL F H x.log.c [.int .i64 x.log.base, .int .i64 x.log.bterm, e] := by
  have he' := he.up X1
  simp only [Log.c, RdL, Rd]
  exact ⟨_, _, rfl, rfl, _, _, rfl, rfl, _, _, rfl, he', rfl⟩
 simp only [c_raft_fresh, Hard.cells, go_sem, reduceEqDiff, reduceAdd, reduceLeDiff, he.scalar, ho.scalar, hn.scalar, hl.scalar, hsn.scalar]
 rw [<- hH]
 clear hH
 simp only [go_sem, reduceEqDiff, len, ew]
 have sl := u1.2 F H x.log _ (x.log.base + 1) x.log.es.length rl hlog
 rw [slice_all] at sl
 refine wCall_use ⟨u1.1, sl⟩ ?_
 rintro e1 H2 ⟨oe, -, X2⟩
 have D0 := X2.get C0
 have D1 := X2.get C1
 have x2 := X2.1
 have l20 : h.length < H2.length := by omega
 have l21 : h.length + 1 < H2.length := by omega
 simp only [go_sem, reduceEqDiff, reduceAdd, reduceLeDiff, D0, oe.scalar, cells_of oe.scalar, l20]
 obtain ⟨H3, hH3⟩ : ∃ H3, H3 = H2.set h.length (some (ABlk.arr 10 [[.int .i64 x.group, .int .i64 x.term, .int .i64 x.vote, .int .i64 x.log.base, .int .i64 x.log.bterm, e1, o, n, l, s]] false)) := ⟨_, rfl⟩
 have X3 : Ext nof h H3 := by rw [hH3]; exact (X1.tr X2).setNew (Nat.le_refl _) _
 have K3 : ∀ m, m ≠ h.length -> H3[m]? = H2[m]? := fun m hm => by rw [hH3]; exact List.getElem?_set_ne (fun z => hm z.symm)
 have l3 : H3.length = H2.length := by rw [hH3]; simp
 have E0 : H3[h.length]? = some (some (ABlk.arr 10 [[.int .i64 x.group, .int .i64 x.term, .int .i64 x.vote, .int .i64 x.log.base, .int .i64 x.log.bterm, e1, o, n, l, s]] false)) := by rw [hH3]; exact List.getElem?_set_self l20
 have E1 := (K3 (h.length + 1) (by omega)).trans D1
 have oe3 : Own (dEntries x.log.es) (fun m => H.length <= m) H3 e1 := Own.mono _ (fun _ y => y) (fun m hm y hy => (K3 m (by omega)).trans hy) _ oe
 rw [<- hH3]
 clear hH3
 have rc : RdL F H3 x.conf.c [o, n, l] := by
  simp only [Conf.c, RdL]
  exact ⟨_, _, rfl, ho.up X3, _, _, rfl, hn.up X3, _, _, rfl, hl.up X3, rfl⟩
 refine wCall_use ⟨u2.1, u2.2 F H3 x.conf _ rc hc⟩ ?_
 rintro _ H4 ⟨o1, n1, c1, rfl, oo, on, oc, X4⟩
 have x4 := X4.1
 have F0 := X4.get E0
 have F1 := X4.get E1
 have l40 : h.length < H4.length := by omega
 simp only [go_sem, reduceEqDiff, reduceAdd, reduceLeDiff, F0, oo.scalar, on.scalar, oc.scalar, l40]
 obtain ⟨H5, hH5⟩ : ∃ H5, H5 = H4.set h.length (some (ABlk.arr 10 [[.int .i64 x.group, .int .i64 x.term, .int .i64 x.vote, .int .i64 x.log.base, .int .i64 x.log.bterm, e1, o1, n1, c1, s]] false)) := ⟨_, rfl⟩
 have X5 : Ext nof h H5 := by rw [hH5]; exact (X3.tr X4).setNew (Nat.le_refl _) _
 have K5 : ∀ m, m ≠ h.length -> H5[m]? = H4[m]? := fun m hm => by rw [hH5]; exact List.getElem?_set_ne (fun z => hm z.symm)
 have l5 : H5.length = H4.length := by rw [hH5]; simp
 have G0 : H5[h.length]? = some (some (ABlk.arr 10 [[.int .i64 x.group, .int .i64 x.term, .int .i64 x.vote, .int .i64 x.log.base, .int .i64 x.log.bterm, e1, o1, n1, c1, s]] false)) := by rw [hH5]; exact List.getElem?_set_self l40
 have G1 := (K5 (h.length + 1) (by omega)).trans F1
 have k5 : ∀ lo, h.length + 2 <= lo -> ∀ {d : D} {a : AV}, Own d (fun m => lo <= m) H4 a -> Own d (fun m => lo <= m) H5 a := fun lo hlo d a z => Own.mono _ (fun _ y => y) (fun m hm y hy => (K5 m (by omega)).trans hy) _ z
 have oe5 := k5 _ (by omega) (Own.mono _ (fun _ y => y) (X4.keep _) _ oe3)
 have oo5 := k5 _ (by omega) oo
 have on5 := k5 _ (by omega) on
 have oc5 := k5 _ (by omega) oc
 rw [<- hH5]
 clear hH5
 refine wCall_use ⟨u3.1, u3.2 F H5 x.snap s (hsn.up X5) hs⟩ ?_
 rintro s1 H6 ⟨os, X6⟩
 have x6 := X6.1
 have I0 := X6.get G0
 have I1 := X6.get G1
 have l60 : h.length < H6.length := by omega
 have l61 : h.length + 1 < H6.length := by omega
 have ne1 : (h.length = h.length + 1) = False := eq_false (by omega)
 simp only [go_sem, reduceEqDiff, reduceAdd, reduceLeDiff, I0, I1, oe.scalar, oo.scalar, on.scalar, oc.scalar, os.scalar, cells_of os.scalar, l60, l61, ne1, List.length_set]
 refine ⟨_, rfl, ?_, ?_⟩
 ·have k6 : ∀ {d : D} {a : AV}, Own d (fun m => h.length + 2 <= m) H6 a -> Own d (fun m => h.length <= m) ((H6.set h.length (some (ABlk.arr 10 [[.int .i64 x.group, .int .i64 x.term, .int .i64 x.vote, .int .i64 x.log.base, .int .i64 x.log.bterm, e1, o1, n1, c1, s1]] false))).set (h.length + 1) (some (ABlk.arr 10 [[.int .i64 x.group, .int .i64 x.term, .int .i64 x.vote, .int .i64 x.log.base, .int .i64 x.log.bterm, e1, o1, n1, c1, s1]] false))) a :=
   fun z => Own.mono _ (fun m hm => by omega) (fun m hm y hy => (List.getElem?_set_ne (by omega)).trans ((List.getElem?_set_ne (by omega)).trans hy)) _ z
  have w6 : ∀ lo, h.length + 2 <= lo -> ∀ {d : D} {a : AV}, Own d (fun m => lo <= m) H5 a -> Own d (fun m => h.length + 2 <= m) H6 a := fun lo hlo d a z => Own.mono _ (fun m hm => by omega) (X6.keep _) _ z
  simp only [Hard.c, OwnL, Own]
  exact ⟨_, _, rfl, rfl, _, _, rfl, rfl, _, _, rfl, rfl, _, _, rfl, rfl, _, _, rfl, rfl, _, _, rfl, k6 (w6 _ (by omega) oe5), _, _, rfl, k6 (w6 _ (by omega) oo5), _, _, rfl, k6 (w6 _ (by omega) on5), _, _, rfl, k6 (w6 _ (by omega) oc5), _, _, rfl, k6 (Own.mono _ (fun m hm => by omega) (fun _ _ _ y => y) _ os), rfl⟩
 ·exact ((X5.tr X6).setNew (Nat.le_refl _) _).setNew (by omega) _
def RFreshP (P : Program) (f : FuncId) : Prop := isFn P f = true /\ ∀ (F : Nat -> Prop) (h : AHeap) (x : Hard) (a : List AV), RdL F h x.c a -> LogOk x.log -> x.conf.few (2^40) -> x.snap.length <= 2^40 -> (x.log.es.length <= 2^40 /\ (0 <= x.log.base /\ x.log.base <= 2^60)) ->
 ACalls P f [.agg a] h fun v h' => v = .agg x.v /\ h' = h
theorem RFreshOk.p {P : Program} {f : FuncId} (hc : RFreshOk P f) : RFreshP P f := ⟨hc.1, fun F h x a ha h1 h2 h3 h4 => (hc.2 F h x a ha h1 h2 h3 h4).freeze fun _ _ ⟨b, e, o, X⟩ => ⟨X, _, e ▸ Frz.aggD (ds := x.c) (OwnL.fz _ (fun _ x => x) _ o), rfl⟩⟩
def RHardOk (P : Program) (f : FuncId) : Prop := isFn P f = true /\ ∀ (h : AHeap) (r : Nat) (x : Raft), RowR h r x -> LogOk x.hard.log -> x.hard.conf.few (2^40) -> x.hard.snap.length <= 2^40 -> (x.hard.log.es.length <= 2^40 /\ (0 <= x.hard.log.base /\ x.hard.log.base <= 2^60)) ->
 ACalls P f [.ptr r 21 0 0] h fun v h' => ∃ b, v = .agg b /\ OwnL x.hard.c (fun m => h.length <= m) h' b /\ Ext nof h h'
theorem rhard_ok {P : Program} {f g : FuncId} (hf : Is P f (c_raft_Raft_Hard g)) (hg : RFreshOk P g) : RHardOk P f := by
 refine ⟨hf.2, fun h r x ⟨gg, ff, rr⟩ h1 h2 h3 h4 => fun_sound hf.1 (Nat.le_of_ble_eq_true rfl) ?_⟩
 show vc P (c_raft_Raft_Hard g).code ⟨[(0, .ptr r 21 0 0)], [], h⟩ (atEnd (c_raft_Raft_Hard g).res _)
 have rr' := rr
 simp only [Raft.row] at rr'
 have lr := (List.getElem?_eq_some_iff.1 rr).1
 have R1 : ∀ a, (h ++ [a])[r]? = _ := fun a => (Ext.b1 a).get rr'
 obtain ⟨H, hH⟩ : ∃ H, H = h ++ [some (ABlk.arr 10 [[.int .i64 0, .int .i64 0, .int .i64 0, .int .i64 0, .int .i64 0, .nils, .nils, .nils, .nils, .nils]] false)] := ⟨_, rfl⟩
 have X1 : Ext nof h H := by rw [hH]; exact Ext.b1 _
 have lH : H.length = h.length + 1 := by rw [hH]; simp
 have C0 : H[h.length]? = some (some (ABlk.arr 10 [[.int .i64 0, .int .i64 0, .int .i64 0, .int .i64 0, .int .i64 0, .nils, .nils, .nils, .nils, .nils]] false)) := by rw [hH]; exact bx10 _ _
 simp only [c_raft_Raft_Hard, go_sem, reduceEqDiff, reduceAdd, reduceLeDiff, R1]
 rw [<- hH]
 clear hH R1
 have fr := hg.2 nof H x.hard _ (rd_hardv' x.hard H) h1 h2 h3 h4
 refine wCall_use ⟨hg.1, fr⟩ ?_
 rintro _ H2 ⟨b, rfl, o, X2⟩
 have x2 := X2.1
 have D0 := X2.get C0
 have l2 : h.length < H2.length := by omega
 obtain ⟨e1, o1, n1, c1, s1, rfl, he, ho, hn, hl, hsn⟩ := rd_hard (OwnL.rd _ (F' := fun m => H.length <= m) (fun _ y => y) _ o)
 simp only [Hard.cells] at o ⊢
 simp only [go_sem, reduceEqDiff, reduceAdd, reduceLeDiff, D0, he.scalar, ho.scalar, hn.scalar, hl.scalar, hsn.scalar, l2]
 refine ⟨_, rfl, ?_, (X1.tr X2).setNew (Nat.le_refl _) _⟩
 exact OwnL.mono _ (fun m hm => by omega) (fun m hm y hy => (List.getElem?_set_ne (by omega)).trans hy) _ o
def RNewOk (P : Program) (f : FuncId) : Prop := isFn P f = true /\ ∀ (F : Nat -> Prop) (h : AHeap) (id : Int) (x : Hard) (a : List AV) (draw : Int), RdL F h x.c a -> LogOk x.log -> x.conf.few (2^40) -> x.snap.length <= 2^40 -> (x.log.es.length <= 2^40 /\ (0 <= x.log.base /\ x.log.base <= 2^60)) ->
 ACalls P f [.int .i64 id, .agg a, .int .i64 draw] h fun v h' => ∃ r, v = .ptr r 21 0 0 /\ h.length <= r /\ h'[r]? = some (some (.arr 21 [(Raft.new id x draw).row .nils .nils] false)) /\ Ext nof h h'
theorem rnew_ok {P : Program} {f f1 f2 : FuncId} (hf : Is P f (c_raft_New f1 f2)) (u1 : RFreshP P f1) (u2 : TimeOk P f2) : RNewOk P f := by
 refine ⟨hf.2, fun F h id x a draw ha h1 h2 h3 h4 => fun_sound hf.1 (Nat.le_of_ble_eq_true rfl) ?_⟩
 show vc P (c_raft_New f1 f2).code ⟨[(0, .int .i64 id), (1, .agg a), (2, .int .i64 draw)], [], h⟩ (atEnd (c_raft_New f1 f2).res _)
 obtain ⟨e, o, n, l, s, rfl, he, ho, hn, hl, hsn⟩ := rd_hard ha
 obtain ⟨H, hH⟩ : ∃ H, H = h ++ [some (ABlk.arr 10 [[.int .i64 x.group, .int .i64 x.term, .int .i64 x.vote, .int .i64 x.log.base, .int .i64 x.log.bterm, e, o, n, l, s]] false)] := ⟨_, rfl⟩
 have X1 : Ext nof h H := by rw [hH]; exact Ext.b1 _
 have C0 : H[h.length]? = some (some (ABlk.arr 10 [[.int .i64 x.group, .int .i64 x.term, .int .i64 x.vote, .int .i64 x.log.base, .int .i64 x.log.bterm, e, o, n, l, s]] false)) := by rw [hH]; exact bx10 _ _
 have lH : H.length = h.length + 1 := by rw [hH]; simp
 have ha' := ha.up (X1.tr (Ext.b1 none))
 simp only [Hard.cells] at ha'
 have fr := u1.2 F (H ++ [none]) x _ ha' h1 h2 h3 h4
 simp only [c_raft_New, Hard.cells, go_sem, reduceEqDiff, reduceAdd, reduceLeDiff, he.scalar, ho.scalar, hn.scalar, hl.scalar, hsn.scalar]
 rw [<- hH]
 clear hH
 have C1 : (H ++ [none])[h.length]? = _ := (Ext.b1 none).get C0
 have eset : ∀ a b : Option ABlk, (H ++ [a]).set (h.length + 1) b = H ++ [b] := fun a b => by rw [List.set_append_right _ _ (by omega), lH]; simp
 have C2 : (H ++ [none])[h.length + 1]? = some none := by rw [<- lH]; exact bx10 _ _
 have l2 : h.length + 1 < (H ++ [none]).length := by simp [lH]
 refine use1 u1.1 fr ?_
 simp only [go_sem, reduceEqDiff, reduceAdd, reduceLeDiff, reducePow, reduceDiv, reduceMod, decide_true, C1, C2]
 refine use1 u2.1 (u2.2 _ draw) ?_
 simp only [go_sem, reduceEqDiff, reduceAdd, reduceLeDiff, reducePow, reduceDiv, reduceMod, decide_true, C1, C2, Hard.v_eq, scalar_aentries, scalar_aints, scalar_abytes, eset]
 refine ⟨_, rfl, by omega, ?_, X1.tr (Ext.b1 _)⟩
 rw [<- lH]
 exact bx10 _ _
theorem new_mem {h : AHeap} {r : Nat} {id draw : Int} {x : Hard} (hr : h[r]? = some (some (.arr 21 [(Raft.new id x draw).row .nils .nils] false))) : MemAt (fun m => if m = r then 6 else 0) h r (Raft.new id x draw) := by
 refine ⟨⟨.nils, .nils, hr, Own.nils 1, trivial, Own.nils 4, trivial, if_pos rfl⟩, fun m hm => ?_⟩
 by_cases c : m = r
 ·subst c; exact ⟨(List.getElem?_eq_some_iff.1 hr).1, .inr (.inr (if_pos rfl))⟩
 ·exact absurd (if_neg c) hm
end Glb
namespace Glb
open Go
open Nat (reduceAdd reduceDiv reduceEqDiff reduceLeDiff reduceMod reducePow)
set_option maxRecDepth 10000
set_option maxHeartbeats 8000000
structure RdyAt (A B C : Nat -> Prop) (h : AHeap) (x : Rdy) (v : AV) : Prop where
 ex : ∃ ma ca aa, v = .agg [ma, ca, aa, .int .i64 x.first, .bool x.restore] /\ Own (dMsgs x.msgs) A h ma /\ Own (dChanges x.changes) B h ca /\ Own (dEntries x.apply) C h aa /\ canApp h ma /\ canApp h ca
def keepL (L : Nat -> Nat) : Nat -> Nat := fun m => if L m = 1 \/ L m = 2 \/ L m = 6 then L m else 0
theorem ROut.split {L h r x0 x v h'} (a : MemAt L h r x0) (b : ROut L h r x v h') : ∃ L', MemAt (keepL L') h' r x.r /\ (∀ m, m < h.length -> keepL L' m = L m) /\
  RdyAt (fun m => (h.length <= m /\ m < h'.length) /\ L' m = 3) (fun m => (h.length <= m /\ m < h'.length) /\ L' m = 4) (fun m => (h.length <= m /\ m < h'.length) /\ L' m = 5) h' x.o v /\ Ext (fun m => wA (L m)) h h' := by
 obtain ⟨L', o, ma, ca, aa, rfl, ⟨g, f, ra⟩, oa, hl, ho, he, hx⟩ := b
 have k1 : ∀ m, L' m = 1 -> keepL L' m = L' m := fun m e => by unfold keepL; rw [if_pos (.inl e)]
 have k2 : ∀ m, L' m = 2 -> keepL L' m = L' m := fun m e => by unfold keepL; rw [if_pos (.inr (.inl e))]
 have k6 : ∀ m, L' m = 6 -> keepL L' m = L' m := fun m e => by unfold keepL; rw [if_pos (.inr (.inr e))]
 have kk : ∀ m, keepL L' m ≠ 0 -> L' m = 1 \/ L' m = 2 \/ L' m = 6 := fun m e => by unfold keepL at e; exact Classical.byContradiction fun z => e (if_neg z)
 have low : ∀ k, k = 3 \/ k = 4 \/ k = 5 -> ∀ m, L' m = k -> (h.length <= m /\ m < h'.length) /\ L' m = k := by
  intro k hk m e
  refine ⟨⟨?_, hl m (by omega)⟩, e⟩
  apply Classical.byContradiction
  intro z
  have e1 := he m (by omega)
  have e2 := (a.lab m (by omega)).2
  omega
 refine ⟨L', ⟨⟨g, f, ?_⟩, fun m hm => ?_⟩, fun m hm => ?_, ⟨ma, ca, aa, rfl, ?_, ?_, ?_, oa.mc, oa.cc⟩, hx⟩
 ·exact ⟨ra.row, Own.mono _ (fun m e => by rw [k1 m e]; exact e) (fun _ _ _ y => y) _ ra.go, ra.gc, Own.mono _ (fun m e => by rw [k2 m e]; exact e) (fun _ _ _ y => y) _ ra.fo, ra.fc, by rw [k6 _ ra.lr]; exact ra.lr⟩
 ·have e := kk m hm
  refine ⟨hl m (by omega), ?_⟩
  unfold keepL
  rw [if_pos e]
  exact e
 ·by_cases c : L' m = 1 \/ L' m = 2 \/ L' m = 6
  ·unfold keepL; rw [if_pos c]; exact he m hm
  ·have e1 := he m hm
   unfold keepL; rw [if_neg c]
   apply Classical.byContradiction
   intro z
   have e2 := (a.lab m (by omega)).2
   omega
 ·exact Own.mono _ (low 3 (by omega)) (fun _ _ _ y => y) _ oa.m
 ·exact Own.mono _ (low 4 (by omega)) (fun _ _ _ y => y) _ oa.c
 ·exact Own.mono _ (low 5 (by omega)) (fun _ _ _ y => y) _ oa.a
theorem MemAt.up {L h r x h'} (a : MemAt L h r x) (hx : Ext nof h h') : MemAt L h' r x := by
 obtain ⟨⟨g, f, ra⟩, lab⟩ := a
 exact ⟨⟨g, f, ra.keep (fun _ _ _ => rfl) fun m hm _ => hx.2 m hm (fun y => y)⟩, fun m hm => ⟨by have := (lab m hm).1; have := hx.1; omega, (lab m hm).2⟩⟩
theorem MemAt.row {L h r x} (a : MemAt L h r x) : RowR h r x := let ⟨g, f, ra⟩ := a.r; ⟨g, f, ra.row⟩
theorem DatAt.up {L h d a h'} (b : DatAt L h d a) (hx : Ext nof h h') : DatAt L h' d a := by
 obtain ⟨G, hr, h0⟩ := b
 exact ⟨G, hr.up hx, fun n hn => ⟨(h0 n hn).1, by have := (h0 n hn).2; have := hx.1; omega⟩⟩
theorem DatAt.keep {L L' h d a h'} (b : DatAt L h d a) (hx : Ext (fun m => wA (L m)) h h') (e : ∀ m, m < h.length -> L' m = L m) : DatAt L' h' d a := by
 obtain ⟨G, hr, h0⟩ := b
 refine ⟨G, Rd.mono (fun _ y => y) (fun m hm y hy => (hx.2 m (h0 m hm).2 (fun z => z (h0 m hm).1)).trans hy) _ _ hr, fun n hn => ⟨(e n (h0 n hn).2).trans (h0 n hn).1, by have := (h0 n hn).2; have := hx.1; omega⟩⟩
theorem ROut.dat {L h r x0 x v h'} (a : MemAt L h r x0) (b : ROut L h r x v h') : ∃ L' ma ca aa, v = .agg [ma, ca, aa, .int .i64 x.o.first, .bool x.o.restore] /\ MemAt L' h' r x.r /\ (∀ m, m < h.length -> L' m = L m) /\
  DatAt L' h' (dMsgs x.o.msgs) ma /\ DatAt L' h' (dChanges x.o.changes) ca /\ DatAt L' h' (dEntries x.o.apply) aa /\ (ma.scalar = true /\ ca.scalar = true /\ aa.scalar = true) /\ Ext (fun m => wA (L m)) h h' := by
 obtain ⟨L', m1, e, ⟨ma, ca, aa, rfl, oa, ob, oc, -, -⟩, hx⟩ := b.split a
 have z : ∀ k, k = 3 \/ k = 4 \/ k = 5 -> ∀ m, (h.length <= m /\ m < h'.length) /\ L' m = k -> keepL L' m = 0 /\ m < h'.length := by
  intro k hk m hm
  refine ⟨?_, hm.1.2⟩
  unfold keepL
  rw [if_neg (by omega)]
 exact ⟨keepL L', ma, ca, aa, rfl, m1, e, ⟨_, Own.rd _ (fun _ y => y) _ oa, z 3 (by omega)⟩, ⟨_, Own.rd _ (fun _ y => y) _ ob, z 4 (by omega)⟩, ⟨_, Own.rd _ (fun _ y => y) _ oc, z 5 (by omega)⟩, ⟨oa.scalar, ob.scalar, oc.scalar⟩, hx⟩
abbrev NxtOk := FNextOk
abbrev NwOk := FNewOk
theorem dat_nils (L : Nat -> Nat) (h : AHeap) (sz : Nat) : DatAt L h (.sl sz []) .nils := ⟨nof, ⟨[], .inl ⟨rfl, rfl⟩, rfl⟩, fun _ y => y.elim⟩
theorem stepExt {L : Nat -> Nat} {h0 h h' : AHeap} (X : Ext nof h0 h) (hx : Ext (fun m => wA (L m)) h h') (ml : ∀ m, L m ≠ 0 -> h0.length <= m) : Ext nof h0 h' :=
 ⟨Nat.le_trans X.1 hx.1, fun m hm _ => (hx.2 m (Nat.lt_of_lt_of_le hm X.1) (fun z => Nat.not_le_of_lt hm (ml m z))).trans (X.2 m hm (fun y => y))⟩
theorem stepLab {L L' : Nat -> Nat} {lo n : Nat} (e : ∀ m, m < n -> L' m = L m) (ml : ∀ m, L m ≠ 0 -> lo <= m) (hl : lo <= n) : ∀ m, L' m ≠ 0 -> lo <= m := fun m hm => by
 by_cases c : m < n
 ·rw [e m c] at hm; exact ml m hm
 ·omega
theorem rd_msg_mk {m : Msg} {F : Nat -> Prop} {h : AHeap} {e d : AV} (he : Rd F h (dEntries m.es) e) (hd : Rd F h (dBytes m.data) d) : RdL F h m.c (m.cells e d) := by
 simp only [Msg.c, Msg.cells, RdL]
 exact ⟨_, _, rfl, rfl, _, _, rfl, rfl, _, _, rfl, rfl, _, _, rfl, rfl, _, _, rfl, rfl, _, _, rfl, rfl, _, _, rfl, rfl, _, _, rfl, rfl, _, _, rfl, rfl, _, _, rfl, rfl, _, _, rfl, rfl, _, _, rfl, rfl, _, _, rfl, rfl, _, _, rfl, rfl, _, _, rfl, rfl, _, _, rfl, he, _, _, rfl, hd, rfl⟩
theorem headMsg {L h msgs ma m} (d : DatAt L h (dMsgs msgs) ma) (e : msgs = [m]) : ∃ p, alen ma = some (.int .i64 1) /\ aindex 17 ma (.int .i64 0) = some p /\ (∀ o, afield o p = some (poff o p)) /\ aload h false 1 (poff 14 p) = some (.bool m.ok) /\ aload h false 1 (poff 0 p) = some (.int .i64 m.kind) /\ aload h false 1 (poff 5 p) = some (.int .i64 m.index) := by
 subst e
 obtain ⟨G, hr, -⟩ := d
 obtain ⟨pc, cc, i1, i2, i3⟩ := Rd.index hr .i64 (i := 0) (d := m.c) (by decide) rfl
 obtain ⟨e, d, rfl, -, -⟩ := rd_msg i3
 refine ⟨pc, by have := hr.len; simpa [dMsgs] using this, i1, fun o => afield_p i2 o, ?_, ?_, ?_⟩
 ·rw [aload_off i2 14]; rfl
 ·rw [aload_off i2 0]; rfl
 ·rw [aload_off i2 5]; rfl
theorem datLen {L h sz l a n} (d : DatAt L h (.sl sz l) a) (e : l.length = n) : alen a = some (.int .i64 n) := by
 obtain ⟨G, hr, -⟩ := d
 subst e
 exact hr.len
end Glb
