/-
  A library of its own: its parts, one behind the other.
-/
import Derived.Test.YtodbhmdfmdfiaaaGlbImgA
import Derived.Test.YtodbhmdfmdfiaaaGlbKitB
import Derived.Test.YtodbhmdfmdfiaaaGlbCkit2
import Derived.Test.YtodbhmdfmdfiaaaGlbConB
import Derived.Test.YtodbhmdfmdfiaaaGlbCglebelaw13
set_option linter.unusedSimpArgs false
set_option linter.unusedVariables false
/-
  Images copied, held against one another.
-/
namespace Glb
open Go
set_option maxRecDepth 10000
set_option maxHeartbeats 8000000

def Image.v (x : Image) : List AV := D.avL x.c
def avotes (l : List Vote) : AV := (dVotes l).av
def ahards (l : List Hard) : AV := (dHards l).av
def achanges (l : List Change) : AV := (dChanges l).av
theorem Image.v_eq (x : Image) : x.v = [ahards x.hards, avotes x.votes] := by simp only [Image.v, Image.c, D.avL]; rfl
theorem scalar_avotes (l : List Vote) : (avotes l).scalar = true := av_scalar _
theorem scalar_ahards (l : List Hard) : (ahards l).scalar = true := av_scalar _
theorem scalar_achanges (l : List Change) : (achanges l).scalar = true := av_scalar _
theorem cells_avotes (l : List Vote) : (avotes l).cells? = some [avotes l] := cells_of (av_scalar _)
theorem cells_ahards (l : List Hard) : (ahards l).cells? = some [ahards l] := cells_of (av_scalar _)
theorem cells_achanges (l : List Change) : (achanges l).cells? = some [achanges l] := cells_of (av_scalar _)
attribute [go_sem] scalar_avotes scalar_ahards scalar_achanges cells_avotes cells_ahards cells_achanges

theorem rd_ahards (F : Nat → Prop) (h : AHeap) (l : List Hard) : Rd F h (dHards l) (ahards l) := rd_av _ _ _
theorem rd_imagev (F : Nat → Prop) (h : AHeap) (x : Image) : RdL F h x.c x.v := rdL_av _ _ _
def Image.few (x : Image) : Prop := x.hards.length ≤ 2^30 ∧ x.votes.length ≤ 2^30 ∧ ∀ y ∈ x.hards, y.few
def SameHardsOk (P : Program) (f : FuncId) : Prop :=
  isFn P f = true ∧ ∀ (F F' : Nat → Prop) (h : AHeap) (x y : List Hard) (a b : AV), Rd F h (dHards x) a → Rd F' h (dHards y) b → x.length ≤ 2^40 → (∀ e ∈ x, e.few) → ACalls P f [a, b] h fun r h' => r = .bool (decide (x = y)) ∧ h' = h
def SameVotesOk (P : Program) (f : FuncId) : Prop :=
  isFn P f = true ∧ ∀ (F F' : Nat → Prop) (h : AHeap) (x y : List Vote) (a b : AV), Rd F h (dVotes x) a → Rd F' h (dVotes y) b → x.length ≤ 2^40 → ACalls P f [a, b] h fun r h' => r = .bool (decide (x = y)) ∧ h' = h
def SameImageOk (P : Program) (f : FuncId) : Prop :=
  isFn P f = true ∧ ∀ (F F' : Nat → Prop) (h : AHeap) (x y : Image) (a b : List AV), RdL F h x.c a → RdL F' h y.c b → x.few → ACalls P f [.agg a, .agg b] h fun r h' => r = .bool (decide (x = y)) ∧ h' = h

theorem ext_upto {α : Type} {x y : List α} (hl : x.length = y.length) (hj : ∀ j : Nat, j < x.length → x[j]? = y[j]?) : x = y := by
  apply List.ext_getElem?
  intro j
  rcases Nat.lt_or_ge j x.length with hlt | hge
  · exact hj j hlt
  · rw [List.getElem?_eq_none hge, List.getElem?_eq_none (by omega)]

theorem SameHards_ok {P : Program} {f g : FuncId} (hf : Is P f (c_glebekit_SameHards g)) (hg : SameHardOk P g) : SameHardsOk P f := by
  refine ⟨hf.2, fun F F' h x y a b hx hy hl hd => fun_sound hf.1 (Nat.le_of_ble_eq_true rfl) ?_⟩
  show vc P (c_glebekit_SameHards g).code ⟨[(0, a), (1, b)], [], h⟩ (atEnd (c_glebekit_SameHards g).res _)
  have lx : alen a = some (.int .i64 x.length) := by simpa using hx.len
  have ly : alen b = some (.int .i64 y.length) := by simpa using hy.len
  simp only [c_glebekit_SameHards, go_sem, reduceIte, Nat.reduceEqDiff, Nat.reduceAdd, Nat.reduceLeDiff, Nat.reducePow, Nat.reduceDiv, Nat.reduceMod, decide_true, lx, ly]
  refine wCond_split (fun c => ?_) (fun c => ?_)
  · simp only [go_sem, reduceIte, Nat.reduceEqDiff, Nat.reduceAdd, Nat.reduceLeDiff, Nat.reducePow, Nat.reduceDiv, Nat.reduceMod, decide_true]
    simp at c
    simp; rintro rfl; exact c rfl
  · simp only [go_sem, reduceIte, Nat.reduceEqDiff, Nat.reduceAdd, Nat.reduceLeDiff, Nat.reducePow, Nat.reduceDiv, Nat.reduceMod, decide_true]
    simp at c
    have c' : x.length = y.length := by omega
    refine vc_loop (fun m L h' => ∃ i : Nat, lk 0 L = a ∧ lk 1 L = b ∧ lk 5 L = .int .i64 i ∧ h' = h ∧ i ≤ x.length ∧ m = x.length - i ∧ ∀ j : Nat, j < i → x[j]? = y[j]?) x.length ?_ ?_
    · exact ⟨0, by simp [lk_ins, lk_cons], by simp [lk_ins, lk_cons], by simp [lk_ins], rfl, by omega, by omega, by omega⟩
    · rintro m L h' ⟨i, h0, h1, h5, rfl, hi, rfl, hj⟩
      simp only [c_glebekit_SameHards_l0, go_sem, reduceIte, Nat.reduceEqDiff, Nat.reduceAdd, Nat.reduceLeDiff, Nat.reducePow, Nat.reduceDiv, Nat.reduceMod, decide_true, lx, h0, h1, h5]
      refine wCond_split (fun ci => ?_) (fun ci => ?_)
      · simp at ci
        have iy : i < y.length := by omega
        obtain ⟨p, cs, hp, hpc, hcs⟩ := hx.index .i64 (i := i) (d := x[i].c) (by omega) (by simp [ci])
        obtain ⟨q, cs', hq, hqc, hcs'⟩ := hy.index .i64 (i := i) (d := y[i].c) (by omega) (by simp [iy])
        have e : IntKind.i64.wrap (↑i + 1) = (i : Int) + 1 := wrap_i64 (by omega)
        have l1 : cs.length = 10 := by rw [RdL_length hcs]; rfl
        have l2 : cs'.length = 10 := by rw [RdL_length hcs']; rfl
        have t1 : cs.take 10 = cs := List.take_of_length_le (by omega)
        have t2 : cs'.take 10 = cs' := List.take_of_length_le (by omega)
        simp only [go_sem, reduceIte, Nat.reduceEqDiff, Nat.reduceAdd, Nat.reduceLeDiff, Nat.reducePow, Nat.reduceDiv, Nat.reduceMod, decide_true, h0, h1, h5, hp, hq, aload_p hpc, aload_p hqc, l1, l2, t1, t2]
        refine use1 hg.1 (hg.2 F F' _ x[i] y[i] _ _ hcs hcs' (hd _ (by simp))) ?_
        simp only [go_sem, reduceIte, Nat.reduceEqDiff, Nat.reduceAdd, Nat.reduceLeDiff, Nat.reducePow, Nat.reduceDiv, Nat.reduceMod, decide_true, aload_p hpc, aload_p hqc, l1, l2, t1, t2, or_true]
        refine wCond_split (fun ce => ?_) (fun ce => ?_)
        · simp only [go_sem, reduceIte, Nat.reduceEqDiff, Nat.reduceAdd, Nat.reduceLeDiff, Nat.reducePow, Nat.reduceDiv, Nat.reduceMod, decide_true]
          simp at ce
          simp; rintro rfl; exact ce rfl
        · simp only [go_sem, reduceIte, Nat.reduceEqDiff, Nat.reduceAdd, Nat.reduceLeDiff, Nat.reducePow, Nat.reduceDiv, Nat.reduceMod, decide_true, h0, h1, h5, e]
          simp at ce
          refine ⟨_, ?_, i + 1, by simp, ci, rfl, fun j hj' => ?_⟩
          · omega
          · rcases Nat.lt_or_ge j i with hlt | hge
            · exact hj j hlt
            · obtain rfl : j = i := by omega
              simp [ci, iy, ce]
      · simp at ci
        simp only [go_sem, reduceIte, Nat.reduceEqDiff, Nat.reduceAdd, Nat.reduceLeDiff, Nat.reducePow, Nat.reduceDiv, Nat.reduceMod, decide_true, lx, h0, h1, h5]
        obtain rfl : i = x.length := by omega
        simp [ext_upto c' hj]

theorem vote_eq (x y : Vote) : aEq [(0, true), (1, true), (2, true), (3, true), (4, true)] [.int .i64 x.txn, .int .i64 x.part, .int .i64 x.promised, .int .i64 x.ballot, .int .i64 x.value] [.int .i64 y.txn, .int .i64 y.part, .int .i64 y.promised, .int .i64 y.ballot, .int .i64 y.value] = some (decide (x = y)) := by
  cases x; cases y
  simp only [aEq, List.getElem?_cons_zero, List.getElem?_cons_succ, if_true, Vote.mk.injEq]
  repeat' split
  all_goals simp_all

theorem SameVotes_ok {P : Program} {f : FuncId} (hf : Is P f c_glebekit_SameVotes) : SameVotesOk P f := by
  refine ⟨hf.2, fun F F' h x y a b hx hy hl => fun_sound hf.1 (Nat.le_of_ble_eq_true rfl) ?_⟩
  show vc P c_glebekit_SameVotes.code ⟨[(0, a), (1, b)], [], h⟩ (atEnd c_glebekit_SameVotes.res _)
  have lx : alen a = some (.int .i64 x.length) := by simpa using hx.len
  have ly : alen b = some (.int .i64 y.length) := by simpa using hy.len
  simp only [c_glebekit_SameVotes, go_sem, reduceIte, Nat.reduceEqDiff, Nat.reduceAdd, Nat.reduceLeDiff, Nat.reducePow, Nat.reduceDiv, Nat.reduceMod, decide_true, lx, ly]
  refine wCond_split (fun c => ?_) (fun c => ?_)
  · simp only [go_sem, reduceIte, Nat.reduceEqDiff, Nat.reduceAdd, Nat.reduceLeDiff, Nat.reducePow, Nat.reduceDiv, Nat.reduceMod, decide_true]
    simp at c
    simp; rintro rfl; exact c rfl
  · simp only [go_sem, reduceIte, Nat.reduceEqDiff, Nat.reduceAdd, Nat.reduceLeDiff, Nat.reducePow, Nat.reduceDiv, Nat.reduceMod, decide_true]
    simp at c
    have c' : x.length = y.length := by omega
    refine vc_loop (fun m L h' => ∃ i : Nat, lk 0 L = a ∧ lk 1 L = b ∧ lk 5 L = .int .i64 i ∧ h' = h ∧ i ≤ x.length ∧ m = x.length - i ∧ ∀ j : Nat, j < i → x[j]? = y[j]?) x.length ?_ ?_
    · exact ⟨0, by simp [lk_ins, lk_cons], by simp [lk_ins, lk_cons], by simp [lk_ins], rfl, by omega, by omega, by omega⟩
    · rintro m L h' ⟨i, h0, h1, h5, rfl, hi, rfl, hj⟩
      simp only [c_glebekit_SameVotes_l0, go_sem, reduceIte, Nat.reduceEqDiff, Nat.reduceAdd, Nat.reduceLeDiff, Nat.reducePow, Nat.reduceDiv, Nat.reduceMod, decide_true, lx, h0, h1, h5]
      refine wCond_split (fun ci => ?_) (fun ci => ?_)
      · simp at ci
        have iy : i < y.length := by omega
        obtain ⟨p, cs, hp, hpc, hcs⟩ := hx.index .i64 (i := i) (d := x[i].c) (by omega) (by simp [ci])
        obtain ⟨q, cs', hq, hqc, hcs'⟩ := hy.index .i64 (i := i) (d := y[i].c) (by omega) (by simp [iy])
        obtain rfl := rd_vote hcs
        obtain rfl := rd_vote hcs'
        have e : IntKind.i64.wrap (↑i + 1) = (i : Int) + 1 := wrap_i64 (by omega)
        have xv : ∀ g : Opd → AV, g (.tmp 3) = .agg [.int .i64 x[i].txn, .int .i64 x[i].part, .int .i64 x[i].promised, .int .i64 x[i].ballot, .int .i64 x[i].value] → g (.tmp 7) = .agg [.int .i64 y[i].txn, .int .i64 y[i].part, .int .i64 y[i].promised, .int .i64 y[i].ballot, .int .i64 y[i].value] → xev g (.seq true [(0, true), (1, true), (2, true), (3, true), (4, true)] (.tmp 3) (.tmp 7)) = some (.bool (!decide (x[i] = y[i]))) := by
          intro g g1 g2
          simp only [xev, g1, g2, vote_eq, Option.map_some]
          cases decide (x[i] = y[i]) <;> rfl
        simp only [go_sem, reduceIte, Nat.reduceEqDiff, Nat.reduceAdd, Nat.reduceLeDiff, Nat.reducePow, Nat.reduceDiv, Nat.reduceMod, decide_true, h0, h1, h5, hp, hq, aload_p hpc, aload_p hqc, rev_xo]
        rw [xv _ rfl rfl]
        simp only [go_sem, reduceIte, Nat.reduceEqDiff, Nat.reduceAdd, Nat.reduceLeDiff, Nat.reducePow, Nat.reduceDiv, Nat.reduceMod, decide_true]
        refine wCond_split (fun ce => ?_) (fun ce => ?_)
        · simp only [go_sem, reduceIte, Nat.reduceEqDiff, Nat.reduceAdd, Nat.reduceLeDiff, Nat.reducePow, Nat.reduceDiv, Nat.reduceMod, decide_true]
          simp at ce
          simp; rintro rfl; exact ce rfl
        · simp only [go_sem, reduceIte, Nat.reduceEqDiff, Nat.reduceAdd, Nat.reduceLeDiff, Nat.reducePow, Nat.reduceDiv, Nat.reduceMod, decide_true, h0, h1, h5, e]
          simp at ce
          refine ⟨_, ?_, i + 1, by simp, ci, rfl, fun j hj' => ?_⟩
          · omega
          · rcases Nat.lt_or_ge j i with hlt | hge
            · exact hj j hlt
            · obtain rfl : j = i := by omega
              simp [ci, iy, ce]
      · simp at ci
        simp only [go_sem, reduceIte, Nat.reduceEqDiff, Nat.reduceAdd, Nat.reduceLeDiff, Nat.reducePow, Nat.reduceDiv, Nat.reduceMod, decide_true, lx, h0, h1, h5]
        obtain rfl : i = x.length := by omega
        simp [ext_upto c' hj]

theorem Image.dec (x y : Image) : decide (x = y) = (decide (x.hards = y.hards) && decide (x.votes = y.votes)) := by
  cases x; cases y; simp [Bool.decide_and]

theorem SameImage_ok {P : Program} {f g k : FuncId} (hf : Is P f (c_glebekit_SameImage g k)) (hg : SameHardsOk P g) (hk : SameVotesOk P k) : SameImageOk P f := by
  refine ⟨hf.2, fun F F' h x y a b hx hy hl => obs rfl (fun_sound hf.1 (Nat.le_of_ble_eq_true rfl) ?_)⟩
  show vc P (c_glebekit_SameImage g k).code ⟨[(0, .agg a), (1, .agg b)], [], h⟩ (atEnd (c_glebekit_SameImage g k).res _)
  obtain ⟨d, v, rfl, hd, hv⟩ := rd_image hx
  obtain ⟨d', v', rfl, hd', hv'⟩ := rd_image hy
  simp only [c_glebekit_SameImage, go_sem, reduceIte, Nat.reduceEqDiff, Nat.reduceAdd, Nat.reduceLeDiff, Nat.reducePow, Nat.reduceDiv, Nat.reduceMod, decide_true, hd.scalar, hv.scalar, hd'.scalar, hv'.scalar]
  refine use1 hg.1 (hg.2 F F' _ x.hards y.hards d d' (hd.up (Ext.b2 _ _)) (hd'.up (Ext.b2 _ _)) (by have := hl.1; omega) hl.2.2) ?_
  by_cases c : x.hards = y.hards
  · simp only [go_sem, reduceIte, Nat.reduceEqDiff, Nat.reduceAdd, Nat.reduceLeDiff, Nat.reducePow, Nat.reduceDiv, Nat.reduceMod, decide_true, decide_eq_true c]
    refine use1 hk.1 (hk.2 F F' _ x.votes y.votes v v' (hv.up (Ext.b2 _ _)) (hv'.up (Ext.b2 _ _)) (by have := hl.2.1; omega)) ?_
    simp only [go_sem, reduceIte, Nat.reduceEqDiff, Nat.reduceAdd, Nat.reduceLeDiff, Nat.reducePow, Nat.reduceDiv, Nat.reduceMod, decide_true]
    exact ⟨by simp [Image.dec, c], Ext.b2 _ _⟩
  · simp only [go_sem, reduceIte, Nat.reduceEqDiff, Nat.reduceAdd, Nat.reduceLeDiff, Nat.reducePow, Nat.reduceDiv, Nat.reduceMod, decide_true, decide_eq_false c]
    exact ⟨by simp [Image.dec, c], Ext.b2 _ _⟩

end Glb

/-
  Any image's bytes: the law.
-/
namespace Glb
open Go
set_option maxRecDepth 10000
set_option maxHeartbeats 8000000

end Glb
