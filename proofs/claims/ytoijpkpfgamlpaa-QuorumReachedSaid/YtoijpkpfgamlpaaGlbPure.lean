/-
  Calls whose answers are plain data: bytes, numbers, entries, logs, members, what a member must not forget, messages.
-/
import Derived.Test.YtoijpkpfgamlpaaGlbHard
import Derived.Test.YtoijpkpfgamlpaaGlbFrz
set_option linter.unusedSimpArgs false
set_option linter.unusedVariables false
namespace Glb
open Go
set_option maxRecDepth 10000
set_option maxHeartbeats 4000000

mutual
theorem upto_av (k : Nat) : ∀ d : D, d.av.upto k = true
  | .int i n => by simp only [D.av, AV.upto]
  | .bool b => by simp only [D.av, AV.upto]
  | .str s => by simp only [D.av, AV.upto]
  | .sl sz es => by simp only [D.av, AV.upto, uptoLL_av k es, Nat.zero_le, decide_true, Bool.or_true, Bool.and_self]
theorem uptoL_av (k : Nat) : ∀ l : List D, AV.uptoL k (D.avL l) = true
  | [] => by simp only [D.avL, AV.uptoL]
  | d :: r => by simp only [D.avL, AV.uptoL, upto_av k d, uptoL_av k r, Bool.and_self]
theorem uptoLL_av (k : Nat) : ∀ l : List (List D), AV.uptoLL k (D.avLL l) = true
  | [] => by simp only [D.avLL, AV.uptoLL]
  | d :: r => by simp only [D.avLL, AV.uptoLL, uptoL_av k d, uptoLL_av k r, Bool.and_self]
end
theorem upto_aggD (k : Nat) (l : List D) : (AV.agg (D.avL l)).upto k = true := by simp only [AV.upto, uptoL_av]

def abytes (l : List Int) : AV := (dBytes l).av
def aints (l : List Int) : AV := (dInts l).av
def aentries (l : List Entry) : AV := (dEntries l).av

theorem scalar_abytes (l : List Int) : (abytes l).scalar = true := av_scalar _
theorem scalar_aints (l : List Int) : (aints l).scalar = true := av_scalar _
theorem scalar_aentries (l : List Entry) : (aentries l).scalar = true := av_scalar _
theorem cells_abytes (l : List Int) : (abytes l).cells? = some [abytes l] := cells_of (av_scalar _)
theorem cells_aints (l : List Int) : (aints l).cells? = some [aints l] := cells_of (av_scalar _)
theorem cells_aentries (l : List Entry) : (aentries l).cells? = some [aentries l] := cells_of (av_scalar _)
theorem rd_abytes (F : Nat → Prop) (h : AHeap) (l : List Int) : Rd F h (dBytes l) (abytes l) := rd_av _ _ _
theorem rd_aints (F : Nat → Prop) (h : AHeap) (l : List Int) : Rd F h (dInts l) (aints l) := rd_av _ _ _
theorem rd_aentries (F : Nat → Prop) (h : AHeap) (l : List Entry) : Rd F h (dEntries l) (aentries l) := rd_av _ _ _
theorem len_abytes (l : List Int) : alen (abytes l) = some (.int .i64 l.length) := by simpa using (rd_abytes nof [] l).len
theorem len_aints (l : List Int) : alen (aints l) = some (.int .i64 l.length) := by simpa using (rd_aints nof [] l).len
theorem len_aentries (l : List Entry) : alen (aentries l) = some (.int .i64 l.length) := by simpa using (rd_aentries nof [] l).len
theorem abytes_eq (l : List Int) : abytes l = .vals 0 false 1 (l.map fun n => [.int .u8 n]) := by
  simp only [abytes, dBytes, D.av, avLL_map, List.map_map]
  congr 1
theorem aints_eq (l : List Int) : aints l = .vals 0 false 1 (l.map fun n => [.int .i64 n]) := by
  simp only [aints, dInts, D.av, avLL_map, List.map_map]
  congr 1

attribute [go_sem] scalar_abytes scalar_aints scalar_aentries cells_abytes cells_aints cells_aentries len_abytes len_aints len_aentries

def Entry.v (e : Entry) : List AV := D.avL e.c
def Log.v (l : Log) : List AV := D.avL l.c
def Conf.v (x : Conf) : List AV := D.avL x.c
def Hard.v (x : Hard) : List AV := D.avL x.c
def Msg.v (m : Msg) : List AV := D.avL m.c
theorem aentries_eq (l : List Entry) : aentries l = .vals 0 false 3 (l.map Entry.v) := by
  simp only [aentries, dEntries, D.av, avLL_map, List.map_map]
  congr 1
theorem Entry.v_eq (e : Entry) : e.v = [.int .i64 e.term, .int .i64 e.kind, abytes e.data] := by simp only [Entry.v, Entry.c, D.avL, D.av]; rfl
theorem Log.v_eq (l : Log) : l.v = [.int .i64 l.base, .int .i64 l.bterm, aentries l.es] := by simp only [Log.v, Log.c, D.avL, D.av]; rfl
theorem Conf.v_eq (x : Conf) : x.v = [aints x.old, aints x.new, aints x.learners] := by simp only [Conf.v, Conf.c, D.avL]; rfl
theorem Hard.v_eq (x : Hard) : x.v = [.int .i64 x.group, .int .i64 x.term, .int .i64 x.vote, .int .i64 x.log.base, .int .i64 x.log.bterm, aentries x.log.es, aints x.conf.old, aints x.conf.new, aints x.conf.learners, abytes x.snap] := by
  simp only [Hard.v, Hard.c, D.avL, D.av]; rfl
theorem Msg.v_eq (m : Msg) : m.v = m.cells (aentries m.es) (abytes m.data) := by simp only [Msg.v, Msg.c, D.avL, D.av]; rfl

theorem rd_logv (F : Nat → Prop) (h : AHeap) (l : Log) : RdL F h l.c l.v := rdL_av _ _ _
theorem rd_confv (F : Nat → Prop) (h : AHeap) (x : Conf) : RdL F h x.c x.v := rdL_av _ _ _
theorem rd_hardv (F : Nat → Prop) (h : AHeap) (x : Hard) : RdL F h x.c x.v := rdL_av _ _ _
theorem rd_msgv (F : Nat → Prop) (h : AHeap) (m : Msg) : RdL F h m.c m.v := rdL_av _ _ _

theorem use1 {P : Program} {f : FuncId} {avs : List AV} {r : AV} {h : AHeap} {K : AV → AHeap → Prop} (hi : isFn P f = true) (hc : ACalls P f avs h fun r' h' => r' = r ∧ h' = h) (hk : K r h) : wCall P f avs h K :=
  wCall_use ⟨hi, hc⟩ fun _ _ ⟨e1, e2⟩ => by subst e1; subst e2; exact hk

/-- a call that answers plain data and leaves all as it was -/
def Pure (P : Program) (f : FuncId) (avs : List AV) (r : AV) : Prop := ∀ h, ACalls P f avs h fun r' h' => r' = r ∧ h' = h

theorem Pure.use {P : Program} {f : FuncId} {avs : List AV} {r : AV} {h : AHeap} {K : AV → AHeap → Prop} (hi : isFn P f = true) (hc : Pure P f avs r) (hk : K r h) : wCall P f avs h K :=
  wCall_use ⟨hi, hc h⟩ fun _ _ ⟨e1, e2⟩ => by subst e1; subst e2; exact hk

theorem pure_d {P : Program} {f : FuncId} {avs : List AV} {d : D} (hc : ∀ h, ACalls P f avs h fun r h' => Own d (fun m => h.length ≤ m) h' r ∧ Ext nof h h') : Pure P f avs d.av :=
  fun h => (hc h).freeze fun _ _ hk => ⟨hk.2, _, Frz.d (Own.fz d (fun _ x => x) _ hk.1), rfl⟩
theorem pure_ag {P : Program} {f : FuncId} {avs : List AV} {ds : List D} (hc : ∀ h, ACalls P f avs h fun r h' => ∃ l, r = .agg l ∧ OwnL ds (fun m => h.length ≤ m) h' l ∧ Ext nof h h') : Pure P f avs (.agg (D.avL ds)) :=
  fun h => (hc h).freeze fun _ _ ⟨_, e, ho, hx⟩ => ⟨hx, _, e ▸ Frz.aggD (OwnL.fz ds (fun _ x => x) _ ho), rfl⟩

def CopyBytesP (P : Program) (f : FuncId) : Prop := isFn P f = true ∧ ∀ l : List Int, l.length ≤ 2^40 → Pure P f [abytes l] (abytes l)
def CopyIntsP (P : Program) (f : FuncId) : Prop := isFn P f = true ∧ ∀ l : List Int, l.length ≤ 2^40 → Pure P f [aints l] (aints l)
def CopyEntriesP (P : Program) (f : FuncId) : Prop := isFn P f = true ∧ ∀ l : List Entry, SmallEntries l → Pure P f [aentries l] (aentries l)
def CopyLogP (P : Program) (f : FuncId) : Prop := isFn P f = true ∧ ∀ l : Log, SmallEntries l.es → Pure P f [.agg l.v] (.agg l.v)
def Conf.few (x : Conf) (n : Nat) : Prop := x.old.length ≤ n ∧ x.new.length ≤ n ∧ x.learners.length ≤ n
def CopyConfP (P : Program) (f : FuncId) : Prop := isFn P f = true ∧ ∀ x : Conf, x.few (2^40) → Pure P f [.agg x.v] (.agg x.v)
def Hard.few (x : Hard) : Prop := SmallEntries x.log.es ∧ x.conf.few (2^40) ∧ x.snap.length ≤ 2^40
def CopyHardP (P : Program) (f : FuncId) : Prop := isFn P f = true ∧ ∀ x : Hard, x.few → Pure P f [.agg x.v] (.agg x.v)
def CopyMsgP (P : Program) (f : FuncId) : Prop := isFn P f = true ∧ ∀ m : Msg, SmallEntries m.es → m.data.length ≤ 2^40 → Pure P f [.agg m.v] (.agg m.v)

theorem CopyOk.bytes {P : Program} {f : FuncId} (hc : CopyOk P f .u8) : CopyBytesP P f := ⟨hc.1, fun l hl => pure_d (d := dBytes l) fun h => (hc.2 nof h l _ (rd_abytes _ _ l) hl).mono fun _ _ hk => ⟨hk.1, hk.2.2⟩⟩
theorem CopyOk.ints {P : Program} {f : FuncId} (hc : CopyOk P f .i64) : CopyIntsP P f := ⟨hc.1, fun l hl => pure_d (d := dInts l) fun h => (hc.2 nof h l _ (rd_aints _ _ l) hl).mono fun _ _ hk => ⟨hk.1, hk.2.2⟩⟩
theorem CopyEntriesOk.p {P : Program} {f : FuncId} (hc : CopyEntriesOk P f) : CopyEntriesP P f := ⟨hc.1, fun l hl => pure_d (d := dEntries l) fun h => (hc.2 nof h l _ (rd_aentries _ _ l) hl).mono fun _ _ hk => ⟨hk.1, hk.2.2⟩⟩
theorem CopyLogOk.p {P : Program} {f : FuncId} (hc : CopyLogOk P f) : CopyLogP P f := ⟨hc.1, fun l hl => pure_ag (ds := l.c) fun h => hc.2 nof h l _ (rd_logv _ _ l) hl⟩
theorem CopyConfOk.p {P : Program} {f : FuncId} (hc : CopyConfOk P f) : CopyConfP P f := ⟨hc.1, fun x hl => pure_ag (ds := x.c) fun h => (hc.2 nof h x _ (rd_confv _ _ x) hl.1 hl.2.1 hl.2.2).mono fun _ _ ⟨o, n, e, h1, h2, h3, h4, h5⟩ =>
  ⟨_, h1, by simp only [Conf.c, OwnL]; exact ⟨o, _, rfl, h2, n, _, rfl, h3, e, _, rfl, h4, rfl⟩, h5⟩⟩
theorem CopyMsgOk.p {P : Program} {f : FuncId} (hc : CopyMsgOk P f) : CopyMsgP P f := ⟨hc.1, fun m hl hd => pure_ag (ds := m.c) fun h => (hc.2 nof h m _ (rd_msgv _ _ m) hl hd).mono fun _ _ ⟨e, d, h1, h2, h3, h4⟩ =>
  ⟨_, h1, msg_own h2 h3, h4⟩⟩

theorem CopyHard_p {P : Program} {f g k b : FuncId} (hf : Is P f (c_glebekit_CopyHard g k b)) (hg : CopyLogP P g) (hk : CopyConfP P k) (hb : CopyBytesP P b) : CopyHardP P f := by
  refine ⟨hf.2, fun x hx h => obs (upto_aggD _ _) (fun_sound hf.1 (Nat.le_of_ble_eq_true rfl) ?_)⟩
  show vc P (c_glebekit_CopyHard g k b).code ⟨[(0, .agg x.v)], [], h⟩ (atEnd (c_glebekit_CopyHard g k b).res _)
  simp only [c_glebekit_CopyHard, Hard.v_eq, go_sem, reduceIte, Nat.reduceEqDiff, Nat.reduceAdd, Nat.reduceLeDiff, Nat.reducePow, Nat.reduceDiv, Nat.reduceMod, decide_true]
  have e1 := hg.2 x.log hx.1
  have e2 := hk.2 x.conf hx.2.1
  have e3 := hb.2 x.snap hx.2.2
  simp only [Log.v_eq, Conf.v_eq] at e1 e2
  refine e1.use hg.1 ?_
  simp only [go_sem, reduceIte, Nat.reduceEqDiff, Nat.reduceAdd, Nat.reduceLeDiff, Nat.reducePow, Nat.reduceDiv, Nat.reduceMod, decide_true]
  refine e2.use hk.1 ?_
  simp only [go_sem, reduceIte, Nat.reduceEqDiff, Nat.reduceAdd, Nat.reduceLeDiff, Nat.reducePow, Nat.reduceDiv, Nat.reduceMod, decide_true]
  refine e3.use hb.1 ?_
  simp only [go_sem, reduceIte, Nat.reduceEqDiff, Nat.reduceAdd, Nat.reduceLeDiff, Nat.reducePow, Nat.reduceDiv, Nat.reduceMod, decide_true]
  exact Ext.b2 _ _

end Glb
