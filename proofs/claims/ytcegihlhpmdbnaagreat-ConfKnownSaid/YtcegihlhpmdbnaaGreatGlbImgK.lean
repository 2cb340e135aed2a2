/-
  A library of its own: its parts, one behind the other.
-/
import Derived.Test.YtcegihlhpmdbnaaGreatGlbImgA
import Derived.Test.YtcegihlhpmdbnaaGreatGlbKitB
import Derived.Test.YtcegihlhpmdbnaaGreatGlbLibB
import Derived.Test.YtcegihlhpmdbnaaGreatGlbConB
set_option linter.unusedSimpArgs false
set_option linter.unusedVariables false
/-
  Images copied, held against one another.
-/
namespace Glb
open Go
set_option maxRecDepth 10000
set_option maxHeartbeats 8000000

def avotes (l : List Vote) : AV := (dVotes l).av
def ahards (l : List Hard) : AV := (dHards l).av
def achanges (l : List Change) : AV := (dChanges l).av
theorem scalar_avotes (l : List Vote) : (avotes l).scalar = true := av_scalar _
theorem scalar_ahards (l : List Hard) : (ahards l).scalar = true := av_scalar _
theorem scalar_achanges (l : List Change) : (achanges l).scalar = true := av_scalar _
theorem cells_avotes (l : List Vote) : (avotes l).cells? = some [avotes l] := cells_of (av_scalar _)
theorem cells_ahards (l : List Hard) : (ahards l).cells? = some [ahards l] := cells_of (av_scalar _)
theorem cells_achanges (l : List Change) : (achanges l).cells? = some [achanges l] := cells_of (av_scalar _)
attribute [go_sem] scalar_avotes scalar_ahards scalar_achanges cells_avotes cells_ahards cells_achanges

def CopyHardG (P : Program) (f : FuncId) : Prop := isFn P f = true ∧ ∀ (F : Nat → Prop) (h : AHeap) (x : Hard) (a : List AV), RdL F h x.c a → x.few → ACalls P f [.agg a] h fun r h' => r = .agg x.v ∧ h' = h
theorem CopyOk.gb {P : Program} {f : FuncId} (hc : CopyOk P f .u8) {F : Nat → Prop} {h : AHeap} {l : List Int} {a : AV} (ha : Rd F h (dBytes l) a) (hl : l.length ≤ 2^40) : ACalls P f [a] h fun r h' => r = abytes l ∧ h' = h :=
  (hc.2 F h l a ha hl).freeze fun _ _ hk => ⟨hk.2.2, _, Frz.d (Own.fz (dBytes l) (fun _ x => x) _ hk.1), rfl⟩
theorem CopyLogOk.g {P : Program} {f : FuncId} (hc : CopyLogOk P f) {F : Nat → Prop} {h : AHeap} {x : Log} {a : List AV} (ha : RdL F h x.c a) (hl : SmallEntries x.es) : ACalls P f [.agg a] h fun r h' => r = .agg x.v ∧ h' = h :=
  (hc.2 F h x a ha hl).freeze fun _ _ ⟨_, e, ho, hx⟩ => ⟨hx, _, e ▸ Frz.aggD (OwnL.fz x.c (fun _ x => x) _ ho), rfl⟩

theorem CopyHard_g {P : Program} {f g k b : FuncId} (hf : Is P f (c_glebekit_CopyHard g k b)) (hg : CopyLogOk P g) (hk : CopyConfOk P k) (hb : CopyOk P b .u8) : CopyHardG P f := by
  refine ⟨hf.2, fun F h x a ha hx => obs (upto_aggD _ _) (fun_sound hf.1 (Nat.le_of_ble_eq_true rfl) ?_)⟩
  show vc P (c_glebekit_CopyHard g k b).code ⟨[(0, .agg a)], [], h⟩ (atEnd (c_glebekit_CopyHard g k b).res _)
  obtain ⟨e, o, n, d, s, rfl, he, ho, hn, hd, hs⟩ := rd_hard ha
  simp only [c_glebekit_CopyHard, Hard.cells, go_sem, reduceIte, Nat.reduceEqDiff, Nat.reduceAdd, Nat.reduceLeDiff, Nat.reducePow, Nat.reduceDiv, Nat.reduceMod, decide_true, he.scalar, ho.scalar, hn.scalar, hd.scalar, hs.scalar]
  have e1 := hg.g ((log_rd he).up (Ext.b2 (some (.arr 10 [x.cells e o n d s] false)) (some (.arr 10 [[.int .i64 0, .int .i64 0, .int .i64 0, .int .i64 0, .int .i64 0, .nils, .nils, .nils, .nils, .nils]] false)))) hx.1
  simp only [Log.v_eq, Hard.cells] at e1
  refine use1 hg.1 e1 ?_
  simp only [go_sem, reduceIte, Nat.reduceEqDiff, Nat.reduceAdd, Nat.reduceLeDiff, Nat.reducePow, Nat.reduceDiv, Nat.reduceMod, decide_true]
  have e2 := fun H (e : Ext nof h H) => hk.g ((conf_rd ho hn hd).up e) hx.2.1
  simp only [Conf.v_eq] at e2
  refine use1 hk.1 (e2 _ (Ext.b2 _ _)) ?_
  simp only [go_sem, reduceIte, Nat.reduceEqDiff, Nat.reduceAdd, Nat.reduceLeDiff, Nat.reducePow, Nat.reduceDiv, Nat.reduceMod, decide_true]
  refine use1 hb.1 (hb.gb (hs.up (Ext.b2 _ _)) hx.2.2) ?_
  simp only [go_sem, reduceIte, Nat.reduceEqDiff, Nat.reduceAdd, Nat.reduceLeDiff, Nat.reducePow, Nat.reduceDiv, Nat.reduceMod, decide_true, Hard.v_eq]
  exact Ext.b2 _ _

end Glb

/-
  Any image's bytes: the law.
-/
namespace Glb
open Go
set_option maxRecDepth 10000
set_option maxHeartbeats 8000000

end Glb
