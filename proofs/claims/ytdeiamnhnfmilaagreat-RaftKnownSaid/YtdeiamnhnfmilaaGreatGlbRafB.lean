/-
  A library of its own: its parts, one behind the other.
-/
import Derived.Test.YtdeiamnhnfmilaaGreatGlbRafA
import Derived.Test.YtdeiamnhnfmilaaGreatGlbConB
import Derived.Test.YtdeiamnhnfmilaaGreatGlbLaid
set_option linter.unusedSimpArgs false
set_option linter.unusedVariables false
namespace Glb
open Go
open Nat (reduceAdd reduceDiv reduceEqDiff reduceLeDiff reduceMod reducePow)
set_option maxRecDepth 10000
set_option maxHeartbeats 1000000
theorem rises_len : ∀ (l : List Int) (a : Int), Rises l -> (∀ m ∈ l, a <= m /\ m <= 7) -> a <= 8 -> (l.length : Int) <= 8 - a
 | [], a, _, _, h => by simp; omega
 | x :: l, a, h1, h2, h3 => by
  have h4 := List.pairwise_cons.1 h1
  have hx := h2 x (by simp)
  have := rises_len l (x + 1) h4.2 (fun m hm => ⟨by have := h4.1 m hm; omega, (h2 m (by simp [hm])).2⟩) (by omega)
  simp only [List.length_cons]; omega
theorem right_few {x : Conf} (h : x.right = true) : x.few 7 := by
 obtain ⟨-, ⟨h1, h2⟩, ⟨h3, h4⟩, ⟨h5, h6⟩, -⟩ := right_iff.1 h
 have a := rises_len _ 1 h1 h2 (by omega)
 have b := rises_len _ 1 h3 h4 (by omega)
 have c := rises_len _ 1 h5 h6 (by omega)
 exact ⟨by omega, by omega, by omega⟩
theorem Conf.few.le {x : Conf} {a b : Nat} (h : x.few a) (hab : a <= b) : x.few b := ⟨Nat.le_trans h.1 hab, Nat.le_trans h.2.1 hab, Nat.le_trans h.2.2 hab⟩
theorem getConf_right {l : List Int} (h : (getConf l).2 = 0) : (getConf l).1.right = true := by
 simp only [getConf] at h ⊢
 by_cases c : (confC.dec (some l)).2.end_ = 0
 ·have c' : ¬ (confC.dec (some l)).2.end_ ≠ 0 := by simpa using c
  rw [if_neg c'] at h ⊢
  by_cases o : (confC.dec (some l)).1.right = true
  ·rw [if_pos o]; exact o
  ·rw [if_neg o] at h; cases h
 ·rw [if_pos c] at h; exact absurd h c
theorem Hard.ofN_right (x : Hard) (h : x.conf.right = true) : ∀ k, k <= x.log.es.length -> (x.ofN k).1.right = true /\ x.log.base <= (x.ofN k).2 /\ (x.ofN k).2 <= x.log.base + k
 | 0, _ => ⟨h, Int.le_refl _, Int.le_of_eq (by show x.log.base = _; simp)⟩
 | k + 1, hk => by
  rw [Hard.ofN_step hk]
  split
  ·rename_i c; exact ⟨getConf_right c.2, by show x.log.base <= x.log.base + 1 + k; omega, by show x.log.base + 1 + (k : Int) <= _; omega⟩
  ·obtain ⟨a, b, c⟩ := Hard.ofN_right x h k (by omega)
   exact ⟨a, b, by omega⟩
theorem Hard.of_right {x : Hard} (h : x.conf.right = true) : x.of.1.right = true /\ x.log.base <= x.of.2 /\ x.of.2 <= x.log.last := Hard.ofN_right x h _ (Nat.le_refl _)
def Flow.well (w : Flow) : Prop := (1 <= w.node /\ w.node <= 7) /\ (0 <= w.next /\ w.next <= 2^41) /\ (0 <= w.mat /\ w.mat <= 2^40)
theorem Flow.well.placed {w : Flow} (h : w.well) : w.placed := by obtain ⟨⟨h1, h2⟩, ⟨h3, h4⟩, h5, h6⟩ := h; exact ⟨⟨by omega, h3, h5⟩, by omega, by omega, by omega⟩
def Entry.fit (e : Entry) : Prop := (bytesOk e.data /\ e.data.length <= 2^16) /\ i64ok e.term /\ i64ok e.kind
structure Raft.fit (k : Nat) (x : Raft) : Prop where
 base : 0 <= x.hard.log.base /\ x.hard.log.base <= 2^40 + k
 len : x.hard.log.es.length <= k
 last : x.hard.log.last <= 2^40 + k
 data : ∀ e ∈ x.hard.log.es, e.fit
 conf : x.hard.conf.right = true
 snap : bytesOk x.hard.snap /\ x.hard.snap.length <= 2^16
 term : 0 <= x.hard.term /\ x.hard.term <= 2^40
 nums : i64ok x.hard.group /\ i64ok x.hard.vote /\ i64ok x.hard.log.bterm
 at' : x.hard.log.base <= x.applied /\ x.applied <= x.commit /\ x.commit <= x.hard.log.last
 elapsed : 0 <= x.elapsed /\ x.elapsed <= k
 beat : 0 <= x.beat /\ x.beat <= 1
 round : 0 <= x.round /\ x.round <= k
 granted : x.granted.length <= k + 1
 flows : x.flows.length <= 21 /\ ∀ w ∈ x.flows, w.well
 id : 1 <= x.id /\ x.id <= 7
theorem Raft.fit.mono {k k' : Nat} {x : Raft} (h : x.fit k) (hk : k <= k') : x.fit k' := by
 obtain ⟨h1, h2, h3, h4, h5, h6, h7, h8, h9, h10, h11, h12, h13, h14, h15⟩ := h
 exact ⟨⟨h1.1, by omega⟩, by omega, by omega, h4, h5, h6, h7, h8, h9, by omega, h11, by omega, by omega, h14, h15⟩
section
variable {k : Nat} {x : Raft}
theorem Raft.fit.small (h : x.fit k) (hk : k <= 2^28) : SmallEntries x.hard.log.es := ⟨by have := h.len; omega, fun e he => by have := (h.data e he).1.2; omega⟩
theorem Raft.fit.logOk (h : x.fit k) (hk : k <= 2^28) : LogOk x.hard.log := ⟨h.base.1, by have := h.base.2; omega, h.small hk⟩
theorem Raft.fit.ofR (h : x.fit k) (hk : k <= 2^28) : x.hard.ofR := ⟨⟨h.base.1, by have := h.base.2; omega⟩, by have := h.len; omega, fun e he => ⟨(h.data e he).1.1, by have := (h.data e he).1.2; omega⟩, (right_few h.conf).le (by omega)⟩
theorem Raft.fit.hard (h : x.fit k) (hk : k <= 2^28) : x.hard.fit := ⟨h.logOk hk, (right_few h.conf).le (by omega), by have := h.snap.2; omega⟩
theorem Raft.fit.now (h : x.fit k) : x.now.right = true := (Hard.of_right h.conf).1
theorem Raft.fit.nowFew (h : x.fit k) {n : Nat} (hn : 7 <= n) : x.now.few n := (right_few h.now).le hn
end
theorem voters_len {x : Conf} (h : x.right = true) : x.voters.length <= 14 := by
 have u := uni_length (x.old ++ x.new); have f := right_few h; simp only [List.length_append] at u; have := f.1; have := f.2.1; simp only [Conf.voters]; omega
theorem members_len {x : Conf} (h : x.right = true) : x.members.length <= 21 := by
 have u := uni_length (x.old ++ x.new ++ x.learners); have f := right_few h; simp only [List.length_append] at u; have := f.1; have := f.2.1; have := f.2.2; simp only [Conf.members]; omega
theorem members_well {x : Conf} (h : x.right = true) {n : Int} (hn : n ∈ x.members) : 1 <= n /\ n <= 7 := by
 obtain ⟨-, ⟨-, h2⟩, ⟨-, h4⟩, ⟨-, h6⟩, -⟩ := right_iff.1 h
 have := ((uni_rises _).2 n).1 hn
 simp only [List.mem_append] at this
 rcases this with (a | a) | a
 ·exact h2 n a
 ·exact h4 n a
 ·exact h6 n a
section
variable {k : Nat} {x : Raft}
theorem Raft.fit.follow (h : x.fit k) (l : Int) : (x.follow l).fit k := by
 obtain ⟨h1, h2, h3, h4, h5, h6, h7, h8, h9, h10, h11, h12, h13, h14, h15⟩ := h
 exact ⟨h1, h2, h3, h4, h5, h6, h7, h8, h9, h10, h11, h12, by simp [Raft.follow], ⟨by simp [Raft.follow], by simp [Raft.follow]⟩, h15⟩
theorem Raft.fit.setTerm (h : x.fit k) {t v : Int} (ht : 0 <= t /\ t <= 2^40) (hv : i64ok v) : ({ x with hard := { x.hard with term := t, vote := v } } : Raft).fit k := by
 obtain ⟨h1, h2, h3, h4, h5, h6, h7, h8, h9, h10, h11, h12, h13, h14, h15⟩ := h
 exact ⟨h1, h2, h3, h4, h5, h6, ht, ⟨h8.1, hv, h8.2.2⟩, h9, h10, h11, h12, h13, h14, h15⟩
theorem mem_find {was : List Flow} {node last : Int} : flowTo was node last = ⟨node, last + 1, 0, 0⟩ \/ (flowTo was node last ∈ was /\ (flowTo was node last).node = node) := by
 unfold flowTo
 cases hf : was.find? fun f => decide (f.node = node) with
 | none => exact .inl rfl
 | some f => exact .inr ⟨List.mem_of_find?_eq_some hf, by simpa using List.find?_some hf⟩
theorem Raft.fit.meet (h : x.fit k) {was : List Flow} {last : Int} (hw : ∀ w ∈ was, w.well) (hl : 0 <= last /\ last < 2^41) : (x.meet was last).fit k := by
 have hn := h.now
 obtain ⟨h1, h2, h3, h4, h5, h6, h7, h8, h9, h10, h11, h12, h13, h14, h15⟩ := h
 refine ⟨h1, h2, h3, h4, h5, h6, h7, h8, h9, h10, h11, h12, h13, ⟨?_, ?_⟩, h15⟩
 ·simp only [Raft.meet, List.length_map]
  exact Nat.le_trans (List.length_filter_le _ _) (members_len hn)
 ·intro w hw'
  simp only [Raft.meet, List.mem_map, List.mem_filter] at hw'
  obtain ⟨n, ⟨hm, -⟩, rfl⟩ := hw'
  have := members_well hn hm
  rcases mem_find (was := was) (node := n) (last := last) with e | ⟨e, -⟩
  ·rw [e]; exact ⟨this, ⟨by show 0 <= last + 1; omega, by show last + 1 <= _; omega⟩, by simp⟩
  ·exact hw _ e
theorem Log.laid_one (l : Log) (e : Entry) : l.laid l.last [e] = ⟨l.base, l.bterm, l.es ++ [e]⟩ := Glb.laid_one l e
theorem Raft.fit.more (h : x.fit k) {e : Entry} (he : e.fit) : ({ x with hard := { x.hard with log := ⟨x.hard.log.base, x.hard.log.bterm, x.hard.log.es ++ [e]⟩ } } : Raft).fit (k + 1) := by
 obtain ⟨h1, h2, h3, h4, h5, h6, h7, h8, h9, h10, h11, h12, h13, h14, h15⟩ := h
 have el : (⟨x.hard.log.base, x.hard.log.bterm, x.hard.log.es ++ [e]⟩ : Log).last = x.hard.log.last + 1 := by unfold Log.last; simp; omega
 refine ⟨⟨h1.1, Int.le_trans h1.2 (by omega)⟩, by simp; omega, by rw [el]; omega, ?_, h5, h6, h7, h8, ⟨h9.1, h9.2.1, by rw [el]; exact Int.le_trans h9.2.2 (by omega)⟩, ⟨h10.1, Int.le_trans h10.2 (by omega)⟩, h11, ⟨h12.1, Int.le_trans h12.2 (by omega)⟩, Nat.le_trans h13 (by omega), h14, h15⟩
 intro y hy
 simp only [List.mem_append, List.mem_singleton] at hy
 rcases hy with hy | rfl
 ·exact h4 y hy
 ·exact he
end
theorem lay_r (x : RX) (kind : Int) (data : List Int) : (x.lay kind data).r = if kind = 2 then ({ x.r with hard := { x.r.hard with log := ⟨x.r.hard.log.base, x.r.hard.log.bterm, x.r.hard.log.es ++ [⟨x.r.hard.term, kind, data⟩]⟩ } } : Raft).meet x.r.flows x.r.last
  else { x.r with hard := { x.r.hard with log := ⟨x.r.hard.log.base, x.r.hard.log.bterm, x.r.hard.log.es ++ [⟨x.r.hard.term, kind, data⟩]⟩ } } := by
 unfold RX.lay
 simp only [Raft.last, Log.laid_one]
 split <;> rfl
theorem lay_o (x : RX) (kind : Int) (data : List Int) : (x.lay kind data).o = { x.o with changes := x.o.changes ++ [{ Change.zero with kind := 2, group := x.r.hard.group, from_ := x.r.last + 1, log := ⟨0, 0, [⟨x.r.hard.term, kind, data⟩]⟩ }] } := by
 have e : ((x.r.hard.log.laid x.r.hard.log.last [⟨x.r.hard.term, kind, data⟩]).slice (x.r.hard.log.last + 1) 1) = [⟨x.r.hard.term, kind, data⟩] := slice_one _ _
 unfold RX.lay
 simp only [Raft.last, e]
 split <;> rfl
theorem Raft.fit.lay {k : Nat} {x : RX} (h : x.r.fit k) (hk : k <= 2^28) {kind : Int} {data : List Int} (hd : bytesOk data /\ data.length <= 2^16) (hki : i64ok kind) : (x.lay kind data).r.fit (k + 1) := by
 rw [lay_r]
 have ht := h.term
 have m := h.more (e := ⟨x.r.hard.term, kind, data⟩) ⟨hd, ⟨by show _ <= x.r.hard.term; omega, by show x.r.hard.term <= _; omega⟩, hki⟩
 have hl := h.last
 have hb := h.base
 have hl2 : 0 <= x.r.hard.log.last := by unfold Log.last; omega
 split
 ·exact m.meet h.flows.2 ⟨hl2, by show x.r.hard.log.last < _; omega⟩
 ·exact m
theorem Raft.fit.setCommit {k : Nat} {x : Raft} (h : x.fit k) {c : Int} (h1 : x.commit <= c) (h2 : c <= x.hard.log.last) : ({ x with commit := c } : Raft).fit k := by
 obtain ⟨g1, g2, g3, g4, g5, g6, g7, g8, g9, g10, g11, g12, g13, g14, g15⟩ := h
 exact ⟨g1, g2, g3, g4, g5, g6, g7, g8, ⟨g9.1, by show x.applied <= c; omega, h2⟩, g10, g11, g12, g13, g14, g15⟩
theorem Raft.fit.settle {k : Nat} {x : Raft} (h : x.fit k) : x.settle.fit k := by
 unfold Raft.settle
 split
 ·rename_i c; exact h.setCommit (by omega) (has_iff.1 c.2.1).2
 ·exact h
theorem each_r (l : List Flow) : ∀ x : RX, (x.each l).r = x.r /\ (x.each l).o.changes = x.o.changes /\ (x.each l).o.msgs.length = x.o.msgs.length + l.length := by
 induction l with
 | nil => intro x; exact ⟨rfl, rfl, rfl⟩
 | cons w l ih =>
  intro x
  obtain ⟨h1, h2, h3⟩ := ih (x.to w)
  refine ⟨h1, h2, ?_⟩
  show ((x.to w).each l).o.msgs.length = _
  rw [h3]
  show (x.o.msgs ++ [_]).length + l.length = _
  simp; omega
theorem sends_r (l : List Msg) : ∀ x : RX, (x.sends l).r = x.r /\ (x.sends l).o.changes = x.o.changes /\ (x.sends l).o.msgs.length = x.o.msgs.length + l.length := by
 induction l with
 | nil => intro x; exact ⟨rfl, rfl, rfl⟩
 | cons w l ih =>
  intro x
  obtain ⟨h1, h2, h3⟩ := ih (x.send w)
  refine ⟨h1, h2, ?_⟩
  show ((x.send w).sends l).o.msgs.length = _
  rw [h3]
  show (x.o.msgs ++ [_]).length + l.length = _
  simp; omega
def RX.few (j : Nat) (x : RX) : Prop := x.o.msgs.length <= j /\ x.o.changes.length <= j
theorem RX.few.mono {j j' : Nat} {x : RX} (h : x.few j) (hj : j <= j') : x.few j' := ⟨Nat.le_trans h.1 hj, Nat.le_trans h.2 hj⟩
theorem RX.few.send {j : Nat} {x : RX} (h : x.few j) (m : Msg) : (x.send m).few (j + 1) := ⟨by show (x.o.msgs ++ [_]).length <= _; simp; exact h.1, by have := h.2; show x.o.changes.length <= _; omega⟩
theorem RX.few.tell {j : Nat} {x : RX} (h : x.few j) (c : Change) : (x.tell c).few (j + 1) := ⟨by have := h.1; show x.o.msgs.length <= _; omega, by show (x.o.changes ++ [_]).length <= _; simp; exact h.2⟩
theorem RX.few.lay {j : Nat} {x : RX} (h : x.few j) (kind : Int) (data : List Int) : (x.lay kind data).few (j + 1) := by
 unfold RX.few
 rw [lay_o]
 exact ⟨by have := h.1; show x.o.msgs.length <= _; omega, by show (x.o.changes ++ [_]).length <= _; simp; exact h.2⟩
theorem RX.few.each {j : Nat} {x : RX} (h : x.few j) {l : List Flow} (hl : l.length <= 21) : (x.each l).few (j + 21) := by
 obtain ⟨-, h2, h3⟩ := each_r l x
 exact ⟨by have := h.1; omega, by have := h.2; rw [h2]; omega⟩
theorem RX.few.sends {j : Nat} {x : RX} (h : x.few j) {l : List Msg} (hl : l.length <= 21) : (x.sends l).few (j + 21) := by
 obtain ⟨-, h2, h3⟩ := sends_r l x
 exact ⟨by have := h.1; omega, by have := h.2; rw [h2]; omega⟩
def Raft.led (x : Raft) : Raft := ({ x with role := 2, leader := x.id, beat := 0, granted := [], flows := [] } : Raft).meet [] x.last
theorem lead_eq (x : RX) : x.lead = (((({ x with r := x.r.led } : RX).lay 0 []).on).settle) := rfl
theorem Raft.fit.led {k : Nat} {x : Raft} (h : x.fit k) (hk : k <= 2^28) : x.led.fit k := by
 have hb := h.base
 have hl := h.last
 have hl2 : 0 <= x.hard.log.last := by unfold Log.last; omega
 have h0 : ({ x with role := 2, leader := x.id, beat := 0, granted := [], flows := [] } : Raft).fit k := by
  obtain ⟨g1, g2, g3, g4, g5, g6, g7, g8, g9, g10, g11, g12, g13, g14, g15⟩ := h
  exact ⟨g1, g2, g3, g4, g5, g6, g7, g8, g9, g10, ⟨Int.le_refl _, by show (0 : Int) <= 1; omega⟩, g12, by simp, ⟨by simp, by simp⟩, g15⟩
 exact h0.meet (by simp) ⟨hl2, by show x.hard.log.last < _; omega⟩
theorem Raft.fit.lead {k : Nat} {x : RX} (h : x.r.fit k) (hk : k <= 2^28) : x.lead.r.fit (k + 1) := by
 have h1 := h.led hk
 have h2 : (({ x with r := x.r.led } : RX).lay 0 []).r.fit (k + 1) := Raft.fit.lay (x := { x with r := x.r.led }) (kind := 0) (data := []) h1 hk ⟨fun _ h => by simp at h, by simp⟩ ⟨by omega, by omega⟩
 rw [lead_eq]
 show ((({ x with r := x.r.led } : RX).lay 0 []).on).r.settle.fit (k + 1)
 refine Raft.fit.settle ?_
 show ((({ x with r := x.r.led } : RX).lay 0 []).each _).r.fit (k + 1)
 rw [(each_r _ _).1]
 exact h2
theorem RX.few.lead {k j : Nat} {x : RX} (h : x.r.fit k) (hk : k <= 2^28) (hj : x.few j) : x.lead.few (j + 22) := by
 have h1 := h.led hk
 have h2 : (({ x with r := x.r.led } : RX).lay 0 []).r.fit (k + 1) := Raft.fit.lay (x := { x with r := x.r.led }) (kind := 0) (data := []) h1 hk ⟨fun _ h => by simp at h, by simp⟩ ⟨by omega, by omega⟩
 have h3 : (({ x with r := x.r.led } : RX).lay 0 []).few (j + 1) := RX.few.lay (x := { x with r := x.r.led }) hj 0 []
 have h4 := h3.each h2.flows.1
 have e : x.lead.o = ((({ x with r := x.r.led } : RX).lay 0 []).each (({ x with r := x.r.led } : RX).lay 0 []).r.flows).o := rfl
 unfold RX.few at h4 ⊢
 rw [e]
 exact ⟨Nat.le_trans h4.1 (by omega), Nat.le_trans h4.2 (by omega)⟩
end Glb
namespace Glb
open Go
open Nat (reduceAdd reduceDiv reduceEqDiff reduceLeDiff reduceMod reducePow)
set_option maxRecDepth 10000
set_option maxHeartbeats 8000000
theorem rd_flow {w : Flow} {F : Nat -> Prop} {h : AHeap} {a : List AV} (hh : RdL F h w.c a) : a = w.cells := by
 simp only [Flow.c, RdL, Rd] at hh
 obtain ⟨_, _, rfl, rfl, _, _, rfl, rfl, _, _, rfl, rfl, _, _, rfl, rfl, rfl⟩ := hh
 rfl
def EachOk (P : Program) (f : FuncId) : Prop := isFn P f = true /\ ∀ (G : Nat -> Prop) (h : AHeap) (r : Nat) (x : Raft) (gg ff : AV) (g : FuncId) (fs cs : List AV) (J : Nat -> AHeap -> Prop), h[r]? = some (some (.arr 21 [x.row gg ff] false)) -> isFn P g = true -> x.flows.length <= 2^20 -> J 0 h ->
 (∀ k h', J k h' -> Rd G h' (dFlows x.flows) ff) -> (∀ k (hk : k < x.flows.length) h' H, J k h' -> Ext nof h' H -> ACalls P g (fs ++ [.agg (x.flows[k]).cells] ++ cs) H fun _ h'' => J (k + 1) h'') ->
 ACalls P f [.ptr r 21 0 0, .clo g fs cs] h fun _ h' => J x.flows.length h'
theorem each_ok {P : Program} {f : FuncId} (hf : Is P f c_raft_Raft_each) : EachOk P f := by
 refine ⟨hf.2, fun G h r x gg ff g fs cs J hr hg hl hJ0 hJ hB => fun_sound hf.1 (Nat.le_of_ble_eq_true rfl) ?_⟩
 show vc P c_raft_Raft_each.code ⟨[(0, .ptr r 21 0 0), (1, .clo g fs cs)], [], h⟩ (atEnd c_raft_Raft_each.res _)
 have rr := hr
 simp only [Raft.row] at rr
 have lf : alen ff = some (.int .i64 x.flows.length) := by have := (hJ 0 h hJ0).len; simpa [dFlows] using this
 simp only [c_raft_Raft_each, go_sem, reduceEqDiff, reduceAdd, rr, lf]
 obtain ⟨I, hI⟩ : ∃ I : Nat -> Env -> AHeap -> Prop, ∀ m L h', I m L h' ↔ ∃ i : Nat, lk 1 L = .clo g fs cs /\ lk 9 L = ff /\ lk 10 L = .int .i64 x.flows.length /\ lk 11 L = .int .i64 i /\ J i h' /\ i <= x.flows.length /\ m = x.flows.length - i := ⟨_, fun _ _ _ => Iff.rfl⟩
 refine vc_loop I x.flows.length ((hI _ _ _).2 ⟨0, by simp [lk_ins, lk_cons], by simp [lk_ins], by simp [lk_ins], by simp [lk_ins], hJ0, by omega, by omega⟩) ?_
 intro m L h' hh
 obtain ⟨i, k1, k9, k10, k11, hJi, hi, rfl⟩ := (hI _ _ _).1 hh
 simp only [c_raft_Raft_each_l0, go_sem, k10, k11]
 refine wCond_split (fun ci => ?_) (fun ci => ?_)
 ·simp at ci
  have ci : i < x.flows.length := by omega
  have ew : IntKind.i64.wrap ((i : Int) + 1) = ((i + 1 : Nat) : Int) := by rw [wrap_i64 (by omega)]; omega
  obtain ⟨p, c, i1, i2, i3⟩ := Rd.index (hJ i h' hJi) .i64 (i := (i : Int)) (d := x.flows[i].c) (by omega) (by rw [show ((i : Int)).toNat = i by omega, List.getElem?_map, List.getElem?_eq_getElem ci]; rfl)
  obtain rfl := rd_flow i3
  have ld : aload h' true 4 p = some (.agg x.flows[i].cells) := by rw [aload_p i2]; rfl
  have hc := hB i ci h'
  generalize x.flows[i] = w at *
  simp only [Flow.cells] at ld hc
  simp only [go_sem, reduceEqDiff, reduceAdd, reduceLeDiff, k1, k9, k11, i1, ld]
  refine wCall_use ⟨hg, hc _ hJi (Ext.b1 _)⟩ ?_
  intro _ h2 j2
  simp only [go_sem, reduceEqDiff, k11, ew]
  exact ⟨_, by omega, (hI _ _ _).2 ⟨i + 1, by simp [lk_ins, k1], by simp [lk_ins, k9], by simp [lk_ins, k10], by simp [lk_ins], j2, by omega, rfl⟩⟩
 ·simp at ci
  have : i = x.flows.length := by omega
  subst this
  simp only [go_sem]
  exact hJi
theorem each_snoc (x : RX) (l : List Flow) (w : Flow) : x.each (l ++ [w]) = (x.each l).to w := by unfold RX.each; rw [List.foldl_append]; rfl
theorem eachTo_ok {P : Program} {fe ft : FuncId} (he : EachOk P fe) (ht : ToOk P ft) {L : Nat -> Nat} {h : AHeap} {r o : Nat} {x : RX} {k j : Nat} (hx : XAt L h r o x) (hf : x.r.fit k) (hk : k <= 2^28) (hj : x.few j) (hj2 : j <= 2^20) :
  ACalls P fe [.ptr r 21 0 0, .clo ft [.agg [.ptr r 21 0 0, .ptr o 5 0 0]] []] h fun _ h' => XTo wO nof L h r o x.on h' := by
 have hfit := hf.hard hk
 have hl := hf.flows.1
 have hp := hf.flows.2
 obtain ⟨g, f, ra⟩ := hx.r
 have row := ra.row
 have fl := Own.lt _ _ ra.fo
 have jm := hj.1
 clear hf hj
 obtain ⟨J, hJ⟩ : ∃ J : Nat -> AHeap -> Prop, ∀ k h', J k h' ↔ XTo wO nof L h r o (x.each (x.r.flows.take k)) h' := ⟨_, fun _ _ => Iff.rfl⟩
 have J0 : J 0 h := (hJ 0 h).2 hx.to
 have J1 : ∀ k h', J k h' -> Rd (fun m => L m = 2 /\ m < h.length) h' (dFlows x.r.flows) f := by
  intro k h' hh
  obtain ⟨L1, x1, l1, e1⟩ := (hJ k h').1 hh
  refine Rd.mono (fun _ y => y) ?_ _ _ (Own.rd _ (fun _ y => y) _ fl)
  intro m hm y hy
  refine (e1.2 m hm.2 ?_).trans hy
  rintro (z | z)
  ·rw [hm.1] at z; unfold wO at z; omega
  ·exact z
 have J2 : ∀ k (hk : k < x.r.flows.length) h' H, J k h' -> Ext nof h' H -> ACalls P ft ([.agg [.ptr r 21 0 0, .ptr o 5 0 0]] ++ [.agg (x.r.flows[k]).cells] ++ []) H fun _ h'' => J (k + 1) h'' := by
  intro k hk h' H hh hX
  have T := (hJ k h').1 hh
  have e := each_r (x.r.flows.take k) x
  have ek : x.r.flows.take (k + 1) = x.r.flows.take k ++ [x.r.flows[k]] := List.take_succ_eq_append_getElem hk
  have eJ : ∀ h'', J (k + 1) h'' ↔ XTo wO nof L h r o ((x.each (x.r.flows.take k)).to x.r.flows[k]) h'' := fun h'' => by rw [hJ, ek, each_snoc]
  have tl := List.length_take_le k x.r.flows
  have wp := (hp _ (List.getElem_mem hk)).placed
  generalize x.r.flows[k] = w at *
  generalize x.each (x.r.flows.take k) = y at *
  have ey : y.r.hard = x.r.hard := by rw [e.1]
  have em := e.2.2
  refine ACalls.mono (XTo.call0 (T.up hX) (fun _ _ z => z) fun L1 x1 => ht.2 L1 H r o y w x1 wp (by rw [ey]; exact hfit) ?_) fun v h'' b => (eJ h'').2 b
  have : y.o.msgs.length + 1 <= 2^21 := by omega
  exact Nat.le_trans (Nat.mul_le_mul_right 168 this) (by decide)
 have := he.2 (fun m => L m = 2 /\ m < h.length) h r x.r g f ft [.agg [.ptr r 21 0 0, .ptr o 5 0 0]] [] J row ht.1 (by omega) J0 J1 J2
 refine this.mono fun v h' z => ?_
 have z := (hJ _ _).1 z
 rw [List.take_length] at z
 exact z
end Glb
namespace Glb
open Go
open Nat (reduceAdd reduceDiv reduceEqDiff reduceLeDiff reduceMod reducePow)
set_option maxRecDepth 10000
set_option maxHeartbeats 8000000
def flowIx (p : Flow -> Bool) : List Flow -> Nat -> Int
 | [], _ => -1
 | w :: l, k => if p w then k else flowIx p l (k + 1)
theorem flowIx_none {p : Flow -> Bool} : ∀ {l : List Flow} {k : Nat}, l.findIdx? p = none -> flowIx p l k = -1
 | [], _, _ => rfl
 | w :: l, k, h => by
  rw [List.findIdx?_cons] at h
  by_cases c : p w = true
  ·simp [c] at h
  ·rw [flowIx, if_neg c]
   simp only [c, Bool.false_eq_true, if_false, Option.map_eq_none_iff] at h
   exact flowIx_none h
theorem flowIx_some {p : Flow -> Bool} : ∀ {l : List Flow} {k i : Nat}, l.findIdx? p = some i -> flowIx p l k = ((k + i : Nat) : Int) /\ i < l.length
 | [], _, _, h => by simp at h
 | w :: l, k, i, h => by
  rw [List.findIdx?_cons] at h
  by_cases c : p w = true
  ·simp [c] at h; subst h
   rw [flowIx, if_pos c]; simp
  ·simp only [c, Bool.false_eq_true, if_false, Option.map_eq_some_iff] at h
   obtain ⟨j, hj, rfl⟩ := h
   rw [flowIx, if_neg c]
   obtain ⟨a, b⟩ := flowIx_some (k := k + 1) hj
   exact ⟨by rw [a]; congr 1; omega, by simp; omega⟩
def IndexFlowOk (P : Program) (f : FuncId) : Prop := isFn P f = true /\ ∀ (F : Nat -> Prop) (h : AHeap) (l : List Flow) (a : AV) (g : FuncId) (fs cs : List AV) (p : Flow -> Bool), Rd F h (dFlows l) a -> l.length <= 2^40 -> isFn P g = true ->
 (∀ w ∈ l, ACalls P g (fs ++ [.agg w.cells] ++ cs) h fun r h' => r = .bool (p w) /\ h' = h) -> ACalls P f [a, .clo g fs cs] h fun r h' => r = .int .i64 (flowIx p l 0) /\ h' = h
theorem indexFlow_ok {P : Program} {f : FuncId} (hf : Is P f c_slices_IndexFunc_api_Flow_api_Flow) : IndexFlowOk P f := by
 refine ⟨hf.2, fun F h l a g fs cs p ha hl hi hg => fun_sound hf.1 (Nat.le_of_ble_eq_true rfl) ?_⟩
 show vc P c_slices_IndexFunc_api_Flow_api_Flow.code ⟨[(0, a), (1, .clo g fs cs)], [], h⟩ (atEnd c_slices_IndexFunc_api_Flow_api_Flow.res _)
 have la : alen a = some (.int .i64 l.length) := by have := ha.len; simpa [dFlows] using this
 simp only [c_slices_IndexFunc_api_Flow_api_Flow, go_sem, reduceEqDiff, la]
 obtain ⟨I, hI⟩ : ∃ I : Nat -> Env -> AHeap -> Prop, ∀ m L h', I m L h' ↔ ∃ i : Nat, lk 0 L = a /\ lk 1 L = .clo g fs cs /\ lk 7 L = .int .i64 l.length /\ lk 8 L = .int .i64 i /\ h' = h /\ i <= l.length /\ m = l.length - i /\ flowIx p (l.drop i) i = flowIx p l 0 := ⟨_, fun _ _ _ => Iff.rfl⟩
 refine vc_loop I l.length ((hI _ _ _).2 ⟨0, by simp [lk_ins, lk_cons], by simp [lk_ins, lk_cons], by simp [lk_ins], by simp [lk_ins], rfl, by omega, by omega, by simp⟩) ?_
 intro m L h' hh
 obtain ⟨i, k0, k1, k7, k8, rfl, hi2, rfl, hq⟩ := (hI _ _ _).1 hh
 simp only [c_slices_IndexFunc_api_Flow_api_Flow_l0, go_sem, k7, k8]
 refine wCond_split (fun ci => ?_) (fun ci => ?_)
 ·simp at ci
  have ew : IntKind.i64.wrap ((i : Int) + 1) = ((i + 1 : Nat) : Int) := by rw [wrap_i64 (by omega)]; omega
  obtain ⟨q, c, i1, i2, i3⟩ := Rd.index ha .i64 (i := (i : Int)) (d := l[i].c) (by omega) (by rw [show ((i : Int)).toNat = i by omega, List.getElem?_map, List.getElem?_eq_getElem ci]; rfl)
  obtain rfl := rd_flow i3
  have ld : aload h' true 4 q = some (.agg l[i].cells) := by rw [aload_p i2]; rfl
  have hc := hg _ (List.getElem_mem ci)
  rw [List.drop_eq_getElem_cons ci, flowIx] at hq
  generalize l[i] = w at *
  simp only [Flow.cells] at ld hc
  simp only [go_sem, reduceEqDiff, k0, k1, k8, i1, ld]
  refine wCall_use ⟨hi, hc⟩ ?_
  rintro _ _ ⟨rfl, rfl⟩
  cases hpb : p w
  ·rw [hpb] at hq
   simp only [go_sem, reduceEqDiff, k8, ew]
   exact ⟨_, by omega, (hI _ _ _).2 ⟨i + 1, by simp [lk_ins, k0], by simp [lk_ins, k1], by simp [lk_ins, k7], by simp [lk_ins], rfl, by omega, rfl, by simpa using hq⟩⟩
  ·rw [hpb] at hq
   simp only [go_sem, reduceEqDiff]
   rw [<- hq]; rfl
 ·simp at ci
  obtain rfl : i = l.length := by omega
  rw [List.drop_length] at hq
  simp only [go_sem, reduceEqDiff]
  rw [<- hq]; rfl
theorem meet_f1_ok {P : Program} {f : FuncId} (hf : Is P f c_raft_Raft_meet_f1) {h : AHeap} {q : AV} {n : Int} (hq : aload h false 1 q = some (.int .i64 n)) (hq2 : ∀ b, aload (h ++ [b]) false 1 q = some (.int .i64 n)) (w : Flow) :
  ACalls P f [.agg w.cells, q] h fun r h' => r = .bool (decide (w.node = n)) /\ h' = h := by
 refine obs (upto_bool _ _) (fun_sound hf.1 (Nat.le_of_ble_eq_true rfl) ?_)
 show vc P c_raft_Raft_meet_f1.code ⟨[(0, .agg w.cells), (1, q)], [], h⟩ (atEnd c_raft_Raft_meet_f1.res _)
 simp only [c_raft_Raft_meet_f1, Flow.cells, go_sem, reduceEqDiff, reduceAdd, hq2]
 exact Ext.b1 _
def FNewOk (P : Program) (f : FuncId) : Prop :=
 isFn P f = true /\ ∀ (h : AHeap) (node last : Int), 0 <= last /\ last < 2^41 -> ACalls P f [.int .i64 node, .int .i64 last] h fun r h' => r = .agg (Flow.mk node (last + 1) 0 0).cells /\ h' = h
theorem flow_New_fok {P : Program} {f : FuncId} (hf : Is P f c_flow_New) : FNewOk P f := by
 refine ⟨hf.2, fun h node last hl => obs (upto_flow _ _) (fun_sound hf.1 (Nat.le_of_ble_eq_true rfl) ?_)⟩
 show vc P c_flow_New.code ⟨[(0, .int .i64 node), (1, .int .i64 last)], [], h⟩ (atEnd c_flow_New.res _)
 have e1 : IntKind.i64.wrap (last + 1) = last + 1 := wrap_i64 (by omega)
 simp only [c_flow_New, go_sem, reduceEqDiff, reduceAdd, reduceLeDiff, e1]
 exact ⟨rfl, Ext.b1 _⟩
theorem flowIx_to {was : List Flow} {node last : Int} : (flowIx (fun w => decide (w.node = node)) was 0 = -1 /\ flowTo was node last = ⟨node, last + 1, 0, 0⟩) \/
  ∃ (i : Nat) (hi : i < was.length), flowIx (fun w => decide (w.node = node)) was 0 = i /\ flowTo was node last = was[i] := by
 cases hf : was.findIdx? fun w => decide (w.node = node) with
 | none =>
  refine .inl ⟨flowIx_none hf, ?_⟩
  unfold flowTo
  rw [List.findIdx?_eq_none_iff] at hf
  have : was.find? (fun w => decide (w.node = node)) = none := List.find?_eq_none.2 fun w hw => by simpa using hf w hw
  rw [this]; rfl
 | some i =>
  obtain ⟨a, hi⟩ := flowIx_some (k := 0) hf
  refine .inr ⟨i, hi, by rw [a]; simp, ?_⟩
  rw [List.findIdx?_eq_some_iff_getElem] at hf
  obtain ⟨h1, h2, h3⟩ := hf
  unfold flowTo
  have : was.find? (fun w => decide (w.node = node)) = some was[i] := by
   rw [List.find?_eq_some_iff_getElem]
   exact ⟨h2, i, h1, rfl, fun j hj => by simpa using h3 j hj⟩
  rw [this]; rfl
theorem OwnO.flows {lo : Nat} {h : AHeap} {a : AV} {l : List Flow} (ho : OwnO lo h 4 a (l.map Flow.cells)) : Own (dFlows l) (fun m => lo <= m) h a /\ canApp h a := by
 have e : ∀ (F : Nat -> Prop) (l : List Flow), OwnLL (l.map Flow.c) F h (l.map Flow.cells) := by
  intro F l
  induction l with
  | nil => simp only [List.map_nil, OwnLL]
  | cons w l ih => simp only [List.map_cons, OwnLL, Flow.c, Flow.cells, OwnL, Own]; exact ⟨_, _, rfl, ⟨_, _, rfl, rfl, _, _, rfl, rfl, _, _, rfl, rfl, _, _, rfl, rfl, rfl⟩, ih⟩
 rcases ho with ⟨rfl, h0⟩ | ⟨n, off, cap, row, g, rfl, h1, h2, h3, h4, h5, h6, h7⟩
 ·have : l = [] := by simpa using h0
  subst this
  exact ⟨Own.nils 4, trivial⟩
 ·have hl : (l.map Flow.cells).length = (l.map Flow.c).length := by simp
  refine ⟨?_, ⟨row, g, h2, h5, h6⟩⟩
  simp only [dFlows, Own]
  rw [hl] at h3 h4 h7 ⊢
  exact .inr (.inr ⟨n, off, cap, row, g, rfl, h1, h2, h3, h4, by rw [h7]; exact e _ l⟩)
end Glb
namespace Glb
open Go
open Nat (reduceAdd reduceDiv reduceEqDiff reduceLeDiff reduceMod reducePow)
set_option maxRecDepth 10000
set_option maxHeartbeats 8000000
theorem OwnO.more {lo : Nat} {h h' : AHeap} {sz : Nat} {a : AV} {es : List (List AV)} (ho : OwnO lo h sz a es) (hx : Ext nof h h') : OwnO lo h' sz a es := by
 rcases ho with ho | ⟨n, off, cap, row, g, h1, h2, h3, h4⟩
 ·exact .inl ho
 ·exact .inr ⟨n, off, cap, row, g, h1, h2, hx.get h3, h4⟩
theorem XAt.setF {W Q L h h1 r o R R' out} {g f fv : AV} (hx : XAt L h r o ⟨R, out⟩) (X : Ext nof h h1) (row : h1[r]? = some (some (.arr 21 [R.row g f] false))) (e1 : R'.granted = R.granted) (hW : W 6) (hg : ∃ f, RAt L h r R g f)
  (ho : Own (dFlows R'.flows) (fun m => h.length <= m) h1 fv) (hc : canApp h1 fv) : XTo W Q L h r o ⟨R', out⟩ (h1.set r (some (.arr 21 [R'.row g fv] false))) := by
 obtain ⟨-, ⟨ma, ca, aa, oa⟩, lt⟩ := hx
 obtain ⟨f0, ra⟩ := hg
 have lr := (List.getElem?_eq_some_iff.1 ra.row).1
 have lr1 := (List.getElem?_eq_some_iff.1 row).1
 have hl := X.1
 have ge : ∀ n, h.length <= n -> L n = 0 := fun n hn => Classical.byContradiction fun z => by have := lt n z; omega
 have ne : ∀ m, m ≠ r -> (h1.set r (some (.arr 21 [R'.row g fv] false)))[m]? = h1[m]? := fun m hm => List.getElem?_set_ne (fun e => hm e.symm)
 have st : ∀ m, m < h.length -> m ≠ r -> (h1.set r (some (.arr 21 [R'.row g fv] false)))[m]? = h[m]? := fun m hm hr => (ne m hr).trans (X.2 m hm (fun y => y))
 have old : ∀ {m}, m < h.length -> relab L nof h.length h1.length 2 m = L m := fun {m} hm => relab_old (.inr ⟨fun y => y, hm⟩)
 have nr : ∀ m, L m ≠ 6 -> m ≠ r := fun m hm e => hm (e ▸ ra.lr)
 refine ⟨relab L nof h.length h1.length 2, ⟨⟨g, fv, List.getElem?_set_self lr1, ?_, ?_, ?_, ?_, (old lr).trans ra.lr⟩, ⟨ma, ca, aa, oa.keep (fun m hm _ => old hm) fun m hm c => st m hm (nr m (by omega))⟩, fun m hm => by rw [List.length_set]; exact relab_lt (fun z => by have := lt m z; omega) hm⟩, fun m hm _ => old hm, ?_⟩
 ·rw [e1]
  exact Own.mono _ (fun m hm => (old hm.2).trans hm.1) (fun m hm y hy => (st m hm.2 (nr m (by omega))).trans hy) _ (Own.lt _ _ ra.go)
 ·exact ra.gc.keep (Own.lt _ _ ra.go) (fun m hm y hy => (st m hm.2 (nr m (by omega))).trans hy)
 ·exact Own.mono _ (fun m hm => relab_new (ge m hm.1) hm.2 (.inr hm.1)) (fun m hm y hy => (ne m (by omega)).trans hy) _ (Own.lt _ _ ho)
 ·exact hc.keep ho (fun m hm y hy => (ne m (by omega)).trans hy)
 ·exact (X.trans (Ext.set (F := fun m => m = r) _ (fun _ => rfl)) (F'' := fun m => W (L m) \/ Q m) (fun _ _ y => y.elim) (fun m _ y => .inl (by rw [y, ra.lr]; exact hW)))
def RMeetOk (P : Program) (f : FuncId) : Prop := isFn P f = true /\ ∀ (L : Nat -> Nat) (h : AHeap) (r o : Nat) (x : RX) (k : Nat) (last : Int), XAt L h r o x -> x.r.fit k -> k <= 2^28 -> 0 <= last /\ last < 2^41 ->
 ACalls P f [.ptr r 21 0 0, .int .i64 last] h fun _ h' => XTo wA nof L h r o ⟨x.r.meet x.r.flows last, x.o⟩ h'
theorem rmeet_ok {P : Program} {f f1 f2 f3 f4 f5 : FuncId} (hf : Is P f (c_raft_Raft_meet f1 f2 f3 f4 f5)) (h1 : NowOk P f1) (h2 : ListOk P f2 Conf.members) (h3 : FNewOk P f3) (h4 : Is P f4 c_raft_Raft_meet_f1) (h5 : IndexFlowOk P f5) : RMeetOk P f := by
 refine ⟨hf.2, fun L h r o x k last hx hfit hk hlast => fun_sound hf.1 (Nat.le_of_ble_eq_true rfl) ?_⟩
 show vc P (c_raft_Raft_meet f1 f2 f3 f4 f5).code ⟨[(0, .ptr r 21 0 0), (1, .int .i64 last)], [], h⟩ (atEnd (c_raft_Raft_meet f1 f2 f3 f4 f5).res _)
 obtain ⟨R, out⟩ := x
 simp only at hfit
 have lt := hx.lt
 obtain ⟨g, ff, ra⟩ := id hx.r
 have nowc := h1.2 h r R hx.rowR (hfit.ofR hk)
 have hnow := hfit.now
 have hfl := hfit.flows.1
 have rr := ra.row
 have lr := (List.getElem?_eq_some_iff.1 rr).1
 have rdf := Own.rd _ (F' := fun m => L m = 2 /\ m < h.length) (fun _ y => y) _ (Own.lt _ _ ra.fo)
 have eR : ∀ l : List Int, (({ R with flows := (l.filter fun n => !decide (n = R.id)).map fun n => flowTo R.flows n last } : Raft)) = { R with flows := (l.filter fun n => !decide (n = R.id)).map fun n => flowTo R.flows n last } := fun _ => rfl
 have em : (R.meet R.flows last) = { R with flows := (R.now.members.filter fun n => !decide (n = R.id)).map fun n => flowTo R.flows n last } := rfl
 simp only [em]
 have mlen := members_len hnow
 simp only [c_raft_Raft_meet, go_sem, reduceEqDiff]
 refine use1 h1.1 nowc ?_
 simp only [go_sem, reduceEqDiff]
 refine wCall_use ⟨h2.1, h2.2 nof h R.now _ (rd_confv nof h R.now) ((right_few hnow).le (by decide))⟩ ?_
 rintro w H ⟨ow, hX⟩
 have lw : alen w = some (.int .i64 R.now.members.length) := (Own.rd _ (F' := fun _ => True) (fun _ _ => trivial) _ ow).ints_len
 generalize R.now.members = ms at *
 simp only [go_sem, reduceEqDiff, lw]
 obtain ⟨Fl, hFl⟩ : ∃ Fl : Int -> Flow, Fl = fun n => flowTo R.flows n last := ⟨_, rfl⟩
 obtain ⟨I, hI⟩ : ∃ I : Nat -> Env -> AHeap -> Prop, ∀ m L' h', I m L' h' ↔ ∃ (i : Nat) (a : AV), lk 0 L' = .ptr r 21 0 0 /\ lk 1 L' = .int .i64 last /\ lk 4 L' = a /\ lk 11 L' = w /\ lk 12 L' = .int .i64 ms.length /\ lk 13 L' = .int .i64 i /\
   OwnO H.length h' 4 a ((((ms.take i).filter fun n => !decide (n = R.id)).map Fl).map Flow.cells) /\ Ext nof H h' /\ i <= ms.length /\ m = ms.length - i := ⟨_, fun _ _ _ => Iff.rfl⟩
 refine vc_loop I ms.length ((hI _ _ _).2 ⟨0, .nils, by simp [lk_ins, lk_cons], by simp [lk_ins, lk_cons], by simp [lk_ins], by simp [lk_ins], by simp [lk_ins], by simp [lk_ins], .inl ⟨rfl, by simp⟩, Ext.refl _ _, by omega, by omega⟩) ?_
 intro m L' h' hh
 obtain ⟨i, a, k0, k1, k4, k11, k12, k13, oo, X2, hi, rfl⟩ := (hI _ _ _).1 hh
 simp only [c_raft_Raft_meet_l0, go_sem, k12, k13]
 have X3 := hX.tr X2
 have row3 := X3.get rr
 simp only [Raft.row] at row3
 refine wCond_split (fun ci => ?_) (fun ci => ?_)
 ·simp at ci
  have ci : i < ms.length := by omega
  obtain ⟨p, hp, hv'⟩ := (Own.rd _ (F' := fun _ => True) (fun _ _ => trivial) _ (Own.mono _ (fun _ x => x) (fun m hm y hy => by rw [X2.2 m hm.2 (by simp [nof])]; exact hy) _ (Own.lt _ _ ow))).int_at (i := i) ci
  have ew : IntKind.i64.wrap ((i : Int) + 1) = ((i + 1 : Nat) : Int) := by rw [wrap_i64 (by omega)]; omega
  have tk : ms.take (i + 1) = ms.take i ++ [ms[i]] := List.take_succ_eq_append_getElem ci
  simp only [go_sem, reduceEqDiff, reduceAdd, reduceLeDiff, k0, k11, k13, hp, hv']
  have row4 : ∀ b, (h' ++ [b])[r]? = _ := fun b => (Ext.b1 b).get row3
  have row5 : ∀ b c, (h' ++ [b] ++ [c])[r]? = _ := fun b c => (Ext.b2 b c).get row3
  generalize ms[i] = n at *
  by_cases c0 : n = R.id
  ·simp only [go_sem, reduceEqDiff, reduceAdd, reduceLeDiff, k0, k4, k13, row4, decide_eq_true c0, ew]
   refine ⟨_, by omega, (hI _ _ _).2 ⟨i + 1, a, by simp [lk_ins, k0], by simp [lk_ins, k1], by simp [lk_ins, k4], by simp [lk_ins, k11], by simp [lk_ins, k12], by simp [lk_ins], ?_, X2.tr (Ext.b1 _), ci, rfl⟩⟩
   rw [tk, List.filter_append]
   simpa [c0] using oo.more (Ext.b1 (some (ABlk.arr 1 [[.int .i64 n]] false)))
  ·simp only [go_sem, reduceEqDiff, k1, row4, decide_eq_false c0]
   refine use1 h3.1 (h3.2 _ n last hlast) ?_
   simp only [go_sem, reduceEqDiff, reduceAdd, reduceLeDiff, Flow.cells, row5, k0]
   have B6 : ∀ b, (h' ++ [some (ABlk.arr 1 [[.int .i64 n]] false)] ++ [b])[h'.length]? = some (some (ABlk.arr 1 [[.int .i64 n]] false)) := fun b => bx20 _ _ _
   have B6' : ∀ b c, (h' ++ [some (ABlk.arr 1 [[.int .i64 n]] false)] ++ [b] ++ [c])[h'.length]? = some (some (ABlk.arr 1 [[.int .i64 n]] false)) := fun b c => bx30 _ _ _ _
   have rd5 : ∀ b c, Rd (fun m => L m = 2 /\ m < h.length) (h' ++ [b] ++ [c]) (dFlows R.flows) ff := fun b c => Rd.mono (fun _ y => y) (fun m hm y hy => (X3.tr (Ext.b2 b c)).get hy) _ _ rdf
   refine use1 h5.1 (h5.2 _ _ R.flows ff f4 [] [.ptr h'.length 1 0 0] (fun w => decide (w.node = n)) (rd5 _ _) (by omega) h4.2 (fun w _ => meet_f1_ok h4 (by simp only [go_sem, B6]) (fun b => by simp only [go_sem, B6']) w)) ?_
   have eFl : Fl n = flowTo R.flows n last := by rw [hFl]
   have lft : (((ms.take i).filter fun n => !decide (n = R.id)).map Fl).length <= 21 := by
    have := List.length_filter_le (fun n => !decide (n = R.id)) (ms.take i); have := List.length_take_le i ms; simp only [List.length_map]; omega
   have fin : ∀ (w : Flow) (h3 : AHeap), Ext nof h' h3 -> flowTo R.flows n last = w -> ∃ a2 h4, aappendY (h3 ++ [some (.arr 4 [w.cells] false)]) 4 32 a [w.cells] = some (a2, h4) /\ OwnO H.length h4 4 a2 ((((ms.take (i + 1)).filter fun n => !decide (n = R.id)).map Fl).map Flow.cells) /\ Ext nof H h4 := by
    intro w h3 hx3 ew2
    obtain ⟨o2, h4, s1, s2, s3⟩ := acc_app (bytes := 32) (h := h3 ++ [some (.arr 4 [w.cells] false)]) (ys := [w.cells]) oo (hx3.tr (Ext.b1 _)) X2.1 (by simp only [List.length_map] at lft ⊢; simp only [List.length_cons, List.length_nil]; omega)
    refine ⟨o2, h4, s1, ?_, ((X2.tr hx3).tr (Ext.b1 _)).then s3 (fun m hm hm' => by omega)⟩
    rw [tk, List.filter_append, List.map_append, List.map_append]
    simpa [c0, eFl, ew2] using s2
   rcases flowIx_to (was := R.flows) (node := n) (last := last) with ⟨e1, e2⟩ | ⟨j, hj, e1, e2⟩
   ·rw [e1]
    have z0 : ¬ (0 : Int) <= -1 := by omega
    obtain ⟨a2, h4, s1, s2, s3⟩ := fin _ (h' ++ [some (ABlk.arr 1 [[.int .i64 n]] false)] ++ [some (ABlk.arr 4 [[.int .i64 n, .int .i64 (last + 1), .int .i64 0, .int .i64 0]] false)]) (Ext.b2 _ _) e2
    rw [<- aappend_of (aelems_new _ 4 [_] false (some 1) (len := 1) rfl)] at s1
    simp only [Flow.cells, List.length_append, List.length_cons, List.length_nil] at s1
    simp only [go_sem, reduceEqDiff, reduceAdd, reduceLeDiff, k4, k13, decide_eq_false z0, List.length_append, List.length_cons, List.length_nil, s1, ew]
    exact ⟨_, by omega, (hI _ _ _).2 ⟨i + 1, a2, by simp [lk_ins, k0], by simp [lk_ins, k1], by simp [lk_ins], by simp [lk_ins, k11], by simp [lk_ins, k12], by simp [lk_ins], s2, s3, ci, rfl⟩⟩
   ·rw [e1]
    have z0 : (0 : Int) <= j := by omega
    obtain ⟨q, c, i1, i2, i3⟩ := Rd.index (rd5 (some (ABlk.arr 1 [[.int .i64 n]] false)) (some (ABlk.arr 4 [[.int .i64 n, .int .i64 (last + 1), .int .i64 0, .int .i64 0]] false))) .i64 (i := (j : Int)) (d := R.flows[j].c) (by omega) (by rw [show ((j : Int)).toNat = j by omega, List.getElem?_map, List.getElem?_eq_getElem hj]; rfl)
    obtain rfl := rd_flow i3
    have ld : aload (h' ++ [some (ABlk.arr 1 [[.int .i64 n]] false)] ++ [some (ABlk.arr 4 [[.int .i64 n, .int .i64 (last + 1), .int .i64 0, .int .i64 0]] false)]) true 4 q = some (.agg R.flows[j].cells) := by rw [aload_p i2]; rfl
    generalize R.flows[j] = w at *
    obtain ⟨a2, h4, s1, s2, s3⟩ := fin w (h' ++ [some (ABlk.arr 1 [[.int .i64 n]] false)] ++ [some (ABlk.arr 4 [w.cells] false)]) (Ext.b2 _ _) e2
    rw [<- aappend_of (aelems_new _ 4 [_] false (some 1) (len := 1) rfl)] at s1
    simp only [Flow.cells, List.length_append, List.length_cons, List.length_nil, reduceAdd] at s1 ld
    simp only [go_sem, reduceEqDiff, reduceAdd, reduceLeDiff, k0, k4, k13, decide_eq_true z0, row5, i1, ld, List.length_append, List.length_cons, List.length_nil, s1, ew]
    exact ⟨_, by omega, (hI _ _ _).2 ⟨i + 1, a2, by simp [lk_ins, k0], by simp [lk_ins, k1], by simp [lk_ins], by simp [lk_ins, k11], by simp [lk_ins, k12], by simp [lk_ins], s2, s3, ci, rfl⟩⟩
 ·simp at ci
  obtain rfl : i = ms.length := by omega
  rw [List.take_length] at oo
  obtain ⟨of, cf⟩ := oo.flows
  have lr3 := (List.getElem?_eq_some_iff.1 row3).1
  simp only [go_sem, reduceEqDiff, reduceAdd, reduceLeDiff, k0, k4, row3, of.scalar, cells_of of.scalar]
  subst hFl
  have ff2 : (R.row g a) = [.int .i64 R.id, .int .i64 R.hard.group, .int .i64 R.hard.term, .int .i64 R.hard.vote, .int .i64 R.hard.log.base, .int .i64 R.hard.log.bterm, aentries R.hard.log.es, aints R.hard.conf.old, aints R.hard.conf.new, aints R.hard.conf.learners, abytes R.hard.snap,
   .int .i64 R.commit, .int .i64 R.applied, .int .i64 R.role, .int .i64 R.leader, .int .i64 R.elapsed, .int .i64 R.timeout, g, a, .int .i64 R.round, .int .i64 R.beat] := rfl
  have hl := hX.1
  exact XAt.setF (R' := { R with flows := (ms.filter fun n => !decide (n = R.id)).map fun n => flowTo R.flows n last }) hx X3 row3 rfl (by unfold wA; omega) ⟨ff, ra⟩ (Own.mono _ (fun m hm => by omega) (fun _ _ _ y => y) _ of) cf
end Glb
namespace Glb
open Go
open Nat (reduceAdd reduceDiv reduceEqDiff reduceLeDiff reduceMod reducePow)
set_option maxRecDepth 10000
set_option maxHeartbeats 8000000
theorem freeR_four (dep : Nat -> Nat -> Bool) (lo i : Nat) (l : List (Nat × Nat × ABlk)) (h : AHeap) :
  freeR dep lo 4 i l h = (((((l.any fun x => dep i x.1 && x.2.1 == lo) || isFree h[lo]?) && ((l.any fun x => dep i x.1 && x.2.1 == lo + 1) || isFree h[lo + 1]?)) && ((l.any fun x => dep i x.1 && x.2.1 == lo + 1 + 1) || isFree h[lo + 1 + 1]?)) && ((l.any fun x => dep i x.1 && x.2.1 == lo + 1 + 1 + 1) || isFree h[lo + 1 + 1 + 1]?)) := by
 simp [freeR, List.range_succ, Bool.and_assoc, Nat.add_assoc]
attribute [go_sem] freeR_four
theorem at_app {h j : AHeap} (i : Nat) : (h ++ j)[h.length + i]? = j[i]? := by rw [List.getElem?_append_right (by omega)]; congr 1; omega
structure TwoAt (lo n2 n3 : Nat) (h : AHeap) (l2 l3 : List Int) : Prop where
 ex : ∃ (a b : AV) (A B : Nat -> Prop), h[n2]? = some (some (.arr 1 [[a]] false)) /\ h[n3]? = some (some (.arr 1 [[b]] false)) /\ (∀ m, A m -> lo <= m /\ m ≠ n2 /\ m ≠ n3 /\ ¬ B m) /\ (∀ m, B m -> lo <= m /\ m ≠ n2 /\ m ≠ n3) /\
  Own (dInts l2) A h a /\ canApp h a /\ Own (dInts l3) B h b /\ canApp h b
 lt : n2 < h.length /\ n3 < h.length /\ lo <= n2 /\ lo <= n3 /\ n2 ≠ n3
theorem settle_f1_ok {P : Program} {f : FuncId} (hf : Is P f c_raft_call_settle_f1) {lo n2 n3 : Nat} {h : AHeap} {l2 l3 : List Int} (hh : TwoAt lo n2 n3 h l2 l3) (hl : l2.length <= 2^20 /\ l3.length <= 2^20) (w : Flow) :
  ACalls P f [.agg w.cells, .ptr n2 1 0 0, .ptr n3 1 0 0] h fun _ h' => TwoAt lo n2 n3 h' (l2 ++ [w.node]) (l3 ++ [w.mat]) /\ Ext (fun m => lo <= m) h h' := by
 refine fun_sound hf.1 (Nat.le_of_ble_eq_true rfl) ?_
 show vc P c_raft_call_settle_f1.code ⟨[(0, .agg w.cells), (1, .ptr n2 1 0 0), (2, .ptr n3 1 0 0)], [], h⟩ (atEnd c_raft_call_settle_f1.res _)
 obtain ⟨a, b, A, B, e2, e3, hA, hB, oa, ca, ob, cb⟩ := hh.ex
 obtain ⟨lt2, lt3, lo2, lo3, ne⟩ := hh.lt
 have E2 : ∀ x, (h ++ [x])[n2]? = _ := fun x => (Ext.b1 x).get e2
 have E3 : ∀ x, (h ++ [x])[n3]? = _ := fun x => (Ext.b1 x).get e3
 have E2' : ∀ x y z, (h ++ [x] ++ [y] ++ [z])[n2]? = _ := fun x y z => (Ext.b3 x y z).get e2
 have E3' : ∀ x y z, (h ++ [x] ++ [y] ++ [z])[n3]? = _ := fun x y z => (Ext.b3 x y z).get e3
 have N2 : ∀ n, notRes (h.length + 1) n (.ptr n2 1 0 0) = true := fun n => notRes_lt (by omega)
 have N3 : ∀ n, notRes (h.length + 1) n (.ptr n3 1 0 0) = true := fun n => notRes_lt (by omega)
 have sa := oa.scalar
 have sb := ob.scalar
 simp only [c_raft_call_settle_f1, Flow.cells, go_sem, reduceEqDiff, reduceAdd, reducePow, reduceDiv, reduceMod, decide_true, E2', E3', N2, N3, loose_cons]
 obtain ⟨H4, hH4⟩ : ∃ H4, H4 = h ++ [some (ABlk.arr 4 [[.int .i64 w.node, .int .i64 w.next, .int .i64 w.mat, .int .i64 w.round]] false)] ++ [some (ABlk.arr 1 [[.int .i64 w.node]] false)] ++ [none] := ⟨_, rfl⟩
 have X4 : Ext nof h H4 := by rw [hH4]; exact Ext.b3 _ _ _
 have l4 : H4.length = h.length + 3 := by rw [hH4]; simp
 have c0 : H4[h.length]? = some (some (ABlk.arr 4 [[.int .i64 w.node, .int .i64 w.next, .int .i64 w.mat, .int .i64 w.round]] false)) := by rw [hH4]; exact bx30 _ _ _ _
 have c1 : H4[h.length + 1]? = some (some (ABlk.arr 1 [[.int .i64 w.node]] false)) := by rw [hH4]; exact bx31 _ _ _ _
 have c2 : H4[h.length + 1 + 1]? = some none := by rw [hH4]; exact bx32 _ _ _ _
 have oa1 : Own (dInts l2) (fun m => (A m /\ m < h.length) \/ H4.length <= m) H4 a := Own.mono _ (fun m hm => .inl hm) (fun m hm y hy => X4.get hy) _ (Own.lt _ _ oa)
 have ca1 : canApp H4 a := ca.keep oa (fun m hm y hy => X4.get hy)
 obtain ⟨a', h', s1, s2, s3, s4⟩ := own_appF (bytes := 8) (es := [[.int .i64 w.node]]) (ys := [[.int .i64 w.node]]) oa1 ca1 (Ext.refl _ _) (by simp [OwnLL, OwnL, Own]) (fun m hm => .inr hm) (by simp; omega)
 have ae : aelems H4 1 (.ref (h.length + 1) 1 0 1 (some 1)) = some [[.int .i64 w.node]] := by simp [aelems, c1, go_sem, reduceIte]
 rw [<- aappend_of ae] at s1
 rw [<- hH4, s1]
 have kk : ∀ m, m < H4.length -> ¬ (A m /\ m < h.length) -> h'[m]? = H4[m]? := fun m hm hn => s4.2 m hm (fun z => by rcases z with z | z; exact hn z; omega)
 have K0 := (kk h.length (by omega) (by omega)).trans c0
 have K1 := (kk (h.length + 1) (by omega) (by omega)).trans c1
 have K2 := (kk (h.length + 1 + 1) (by omega) (by omega)).trans c2
 have KE2 := (kk n2 (by omega) (fun z => (hA n2 z.1).2.1 rfl)).trans (X4.get e2)
 have KE3 := (kk n3 (by omega) (fun z => (hA n3 z.1).2.2.1 rfl)).trans (X4.get e3)
 have l' := s4.1
 have q0 : (h.length + 1 + 1 = h.length) = False := eq_false (by omega)
 have q1 : (h.length + 1 + 1 = n2) = False := eq_false (by omega)
 have q2 : (h.length + 1 + 1 = n3) = False := eq_false (by omega)
 have l2' : h.length + 1 + 1 < h'.length := by omega
 simp only [go_sem, reduceEqDiff, reducePow, reduceDiv, reduceMod, decide_true, loose_cons, freeR_two, List.getElem?_set, K0, K1, K2, KE2, KE3, q0, q1, q2]
 obtain ⟨H5, hH5⟩ : ∃ H5, H5 = h'.set (h.length + 1 + 1) (some (ABlk.arr 1 [[.int .i64 w.mat]] false)) := ⟨_, rfl⟩
 have l5 : H5.length = h'.length := by rw [hH5, List.length_set]
 have k5 : ∀ m, m ≠ h.length + 1 + 1 -> H5[m]? = h'[m]? := fun m hm => by rw [hH5]; exact List.getElem?_set_ne (fun e => hm e.symm)
 have d2 : H5[h.length + 1 + 1]? = some (some (ABlk.arr 1 [[.int .i64 w.mat]] false)) := by rw [hH5]; exact List.getElem?_set_self l2'
 have keepB : Keep (fun m => B m /\ m < h.length) h H5 := fun m hm y hy => (k5 m (by omega)).trans ((kk m (by omega) (fun z => (hA m z.1).2.2.2 hm.1)).trans (X4.get hy))
 have ob1 : Own (dInts l3) (fun m => (B m /\ m < h.length) \/ H5.length <= m) H5 b := Own.mono _ (fun m hm => .inl hm) keepB _ (Own.lt _ _ ob)
 have cb1 : canApp H5 b := cb.keep (Own.lt _ _ ob) keepB
 obtain ⟨b', h6, t1, t2, t3, t4⟩ := own_appF (bytes := 8) (es := [[.int .i64 w.mat]]) (ys := [[.int .i64 w.mat]]) ob1 cb1 (Ext.refl _ _) (by simp [OwnLL, OwnL, Own]) (fun m hm => .inr hm) (by simp; omega)
 have ae5 : aelems H5 1 (.ref (h.length + 1 + 1) 1 0 1 (some 1)) = some [[.int .i64 w.mat]] := by simp [aelems, d2, go_sem, reduceIte]
 rw [<- aappend_of ae5] at t1
 rw [<- hH5, t1]
 have kk6 : ∀ m, m < H5.length -> ¬ (B m /\ m < h.length) -> h6[m]? = H5[m]? := fun m hm hn => t4.2 m hm (fun z => by rcases z with z | z; exact hn z; omega)
 have L0 := (kk6 h.length (by omega) (by omega)).trans ((k5 _ (by omega)).trans K0)
 have L1 := (kk6 (h.length + 1) (by omega) (by omega)).trans ((k5 _ (by omega)).trans K1)
 have L2 := (kk6 (h.length + 1 + 1) (by omega) (by omega)).trans d2
 have LE2 := (kk6 n2 (by omega) (fun z => (hB n2 z.1).2.1 rfl)).trans ((k5 _ (by omega)).trans KE2)
 have LE3 := (kk6 n3 (by omega) (fun z => (hB n3 z.1).2.2 rfl)).trans ((k5 _ (by omega)).trans KE3)
 have l6 := t4.1
 have sa' := s2.scalar
 have sb' := t2.scalar
 have ne' : (n2 = n3) = False := eq_false ne
 have ne'' : (n3 = n2) = False := eq_false (fun e => ne e.symm)
 have l62 : n2 < h6.length := by omega
 have l63 : n3 < h6.length := by omega
 have p0 : (n2 = h.length + 1) = False := eq_false (by omega)
 have p1 : (n2 = h.length + 1 + 1) = False := eq_false (by omega)
 have p2 : (n3 = h.length + 1) = False := eq_false (by omega)
 have p3 : (n3 = h.length + 1 + 1) = False := eq_false (by omega)
 simp only [go_sem, reduceEqDiff, reduceAdd, reduceLeDiff, reducePow, reduceDiv, reduceMod, decide_true, loose_cons, freeR_two, List.getElem?_set, L0, L1, L2, LE2, LE3, ne', ne'', sa', sb', cells_of sa', cells_of sb', l62, p0, p1, p2, p3, Bool.or_true, Bool.true_or, Bool.and_true, Bool.true_and]
 have k7 : ∀ m, m ≠ n2 -> m ≠ n3 -> ((h6.set n2 (some (ABlk.arr 1 [[a']] false))).set n3 (some (ABlk.arr 1 [[b']] false)))[m]? = h6[m]? := fun m z2 z3 => (List.getElem?_set_ne (fun e => z3 e.symm)).trans (List.getElem?_set_ne (fun e => z2 e.symm))
 have e4 : dInts (l2 ++ [w.node]) = .sl 1 (l2.map (fun n => [D.int .i64 n]) ++ [[.int .i64 w.node]]) := by simp [dInts]
 have e5 : dInts (l3 ++ [w.mat]) = .sl 1 (l3.map (fun n => [D.int .i64 n]) ++ [[.int .i64 w.mat]]) := by simp [dInts]
 have kA : Keep (fun m => ((A m /\ m < h.length) \/ H4.length <= m) /\ m < h'.length) h' ((h6.set n2 (some (ABlk.arr 1 [[a']] false))).set n3 (some (ABlk.arr 1 [[b']] false))) := by
  rintro m ⟨hm, hlt⟩ y hy
  have hne : m ≠ n2 /\ m ≠ n3 /\ m ≠ h.length + 1 + 1 /\ ¬ (B m /\ m < h.length) := by
   rcases hm with ⟨z, z'⟩ | z
   ·have := hA m z; exact ⟨this.2.1, this.2.2.1, by omega, fun q => this.2.2.2 q.1⟩
   ·exact ⟨by omega, by omega, by omega, fun q => by omega⟩
  exact (k7 m hne.1 hne.2.1).trans ((kk6 m (by omega) hne.2.2.2).trans ((k5 m hne.2.2.1).trans hy))
 have kB : Keep (fun m => ((B m /\ m < h.length) \/ H5.length <= m) /\ m < h6.length) h6 ((h6.set n2 (some (ABlk.arr 1 [[a']] false))).set n3 (some (ABlk.arr 1 [[b']] false))) := by
  rintro m ⟨hm, hlt⟩ y hy
  have hne : m ≠ n2 /\ m ≠ n3 := by
   rcases hm with ⟨z, z'⟩ | z
   ·exact (hB m z).2
   ·exact ⟨by omega, by omega⟩
  exact (k7 m hne.1 hne.2).trans hy
 have s2' := Own.lt _ _ s2
 have t2' := Own.lt _ _ t2
 refine ⟨⟨⟨a', b', fun m => ((A m /\ m < h.length) \/ H4.length <= m) /\ m < h'.length, fun m => ((B m /\ m < h.length) \/ H5.length <= m) /\ m < h6.length, ?_, ?_, ?_, ?_, ?_, ?_, ?_, ?_⟩, ⟨by simp; omega, by simp; omega, lo2, lo3, ne⟩⟩, ?_⟩
 ·rw [List.getElem?_set_ne (fun e => ne e.symm), List.getElem?_set_self l62]
 ·rw [List.getElem?_set_self (by simp; omega)]
 ·rintro m ⟨hm, hlt⟩
  rcases hm with ⟨z, z'⟩ | z
  ·have := hA m z; exact ⟨this.1, this.2.1, this.2.2.1, fun q => by rcases q.1 with q | q; exact this.2.2.2 q.1; omega⟩
  ·exact ⟨by omega, by omega, by omega, fun q => by rcases q.1 with q | q <;> omega⟩
 ·rintro m ⟨hm, hlt⟩
  rcases hm with ⟨z, z'⟩ | z
  ·exact hB m z
  ·exact ⟨by omega, by omega, by omega⟩
 ·rw [e4]; exact Own.mono _ (fun m hm => hm) kA _ s2'
 ·exact s3.keep s2' kA
 ·rw [e5]; exact Own.mono _ (fun m hm => hm) kB _ t2'
 ·exact t3.keep t2' kB
 ·refine ⟨by simp; omega, fun m hm hlo => ?_⟩
  have nA : ¬ (A m /\ m < h.length) := fun z => hlo (hA m z.1).1
  have nB : ¬ (B m /\ m < h.length) := fun z => hlo (hB m z.1).1
  exact (k7 m (fun e => hlo (by omega)) (fun e => hlo (by omega))).trans ((kk6 m (by omega) nB).trans ((k5 m (by omega)).trans ((kk m (by omega) nA).trans (X4.2 m hm (fun y => y)))))
theorem TwoAt.up {lo n2 n3 : Nat} {h h' : AHeap} {l2 l3 : List Int} (hh : TwoAt lo n2 n3 h l2 l3) (hx : Ext nof h h') : TwoAt lo n2 n3 h' l2 l3 := by
 obtain ⟨⟨a, b, A, B, e2, e3, hA, hB, oa, ca, ob, cb⟩, lt2, lt3, lo2, lo3, ne⟩ := hh
 have kA : ∀ F, Keep F h h' := fun F m hm y hy => hx.get hy
 exact ⟨⟨a, b, A, B, hx.get e2, hx.get e3, hA, hB, Own.mono _ (fun _ y => y) (kA _) _ oa, ca.keep oa (kA _), Own.mono _ (fun _ y => y) (kA _) _ ob, cb.keep ob (kA _)⟩, by have := hx.1; omega, by have := hx.1; omega, lo2, lo3, ne⟩
def RSettleOk (P : Program) (f : FuncId) : Prop := isFn P f = true /\ ∀ (L : Nat -> Nat) (h : AHeap) (r o : Nat) (x : RX) (k : Nat), XAt L h r o x -> x.r.fit k -> k <= 2^28 ->
 ACalls P f [.agg [.ptr r 21 0 0, .ptr o 5 0 0]] h fun _ h' => XTo wA nof L h r o x.settle h'
theorem rsettle_ok {P : Program} {f f1 f2 f3 f4 f5 f6 : FuncId} (hf : Is P f (c_raft_call_settle f1 f2 f3 f4 f5 f6)) (h1 : RLastOk P f1) (h2 : Is P f2 c_raft_call_settle_f1) (h3 : EachOk P f3) (h4 : NowOk P f4) (h5 : AgreedOk P f5) (u6 : TermOk P f6) : RSettleOk P f := by
 refine ⟨hf.2, fun L h r o x k hx hfit hk => fun_sound hf.1 (Nat.le_of_ble_eq_true rfl) ?_⟩
 show vc P (c_raft_call_settle f1 f2 f3 f4 f5 f6).code ⟨[(0, .agg [.ptr r 21 0 0, .ptr o 5 0 0])], [], h⟩ (atEnd (c_raft_call_settle f1 f2 f3 f4 f5 f6).res _)
 obtain ⟨R, out⟩ := x
 simp only at hfit
 have lt := hx.lt
 obtain ⟨g, ff, ra⟩ := id hx.r
 obtain ⟨ma, ca, aa, oa⟩ := id hx.o
 have rr := ra.row
 have lr := (List.getElem?_eq_some_iff.1 rr).1
 have rdf := Own.rd _ (F' := fun m => L m = 2 /\ m < h.length) (fun _ y => y) _ (Own.lt _ _ ra.fo)
 have hfl := hfit.flows.1
 simp only [Raft.row] at rr
 have R1 : ∀ a, (h ++ [a])[r]? = _ := fun a => (Ext.b1 a).get rr
 have B1 := bx10 h (some (ABlk.arr 2 [[.ptr r 21 0 0, .ptr o 5 0 0]] false))
 have R5 : ∀ a b c d e, (h ++ [a] ++ [b] ++ [c] ++ [d] ++ [e])[r]? = _ := fun a b c d e => ((Ext.b4 a b c d).tr (Ext.b1 e)).get rr
 have NR : ∀ sz i o', notRes (h.length + 1) 4 (.ptr r sz i o') = true := fun sz i o' => notRes_lt (by omega)
 have NB : ∀ sz i o', notRes (h.length + 1) 4 (.ptr h.length sz i o') = true := fun sz i o' => notRes_lt (by omega)
 have rw5 : ∀ a b c d e, RowR (h ++ [a] ++ [b] ++ [c] ++ [d] ++ [e]) r R := fun a b c d e => ⟨g, ff, R5 a b c d e⟩
 have a3 : h.length + 1 + 3 = h.length + 1 + 1 + 1 + 1 := rfl
 have a2 : h.length + 1 + 2 = h.length + 1 + 1 + 1 := rfl
 simp only [c_raft_call_settle, go_sem, reduceEqDiff, reduceAdd, reducePow, reduceDiv, reduceMod, loose_cons, R5, NR, NB, a2, a3]
 refine use1 h1.1 (h1.2 _ r R (rw5 _ _ _ _ _) (hfit.logOk hk)) ?_
 simp only [go_sem, reduceEqDiff, reduceAdd, reduceLeDiff, reducePow, reduceDiv, reduceMod, decide_true, loose_cons, R5]
 refine ⟨by simp, by simp, by simp, ?_⟩
 obtain ⟨H5, hH5⟩ : ∃ H5, H5 = h ++ [some (ABlk.arr 2 [[.ptr r 21 0 0, .ptr o 5 0 0]] false)] ++ [some (ABlk.arr 1 [[.int .i64 R.id]] false)] ++ [some (ABlk.arr 1 [[.int .i64 R.last]] false)] ++ [some (ABlk.arr 1 [[.ref (h.length + 1) 1 0 1 (some 1)]] false)] ++ [some (ABlk.arr 1 [[.ref (h.length + 1 + 1) 1 0 1 (some 1)]] false)] := ⟨_, rfl⟩
 have X5 : Ext nof h H5 := by rw [hH5]; exact (Ext.b4 _ _ _ _).tr (Ext.b1 _)
 have l5 : H5.length = h.length + 5 := by rw [hH5]; simp
 have H5' : H5 = h ++ [some (ABlk.arr 2 [[.ptr r 21 0 0, .ptr o 5 0 0]] false), some (ABlk.arr 1 [[.int .i64 R.id]] false), some (ABlk.arr 1 [[.int .i64 R.last]] false), some (ABlk.arr 1 [[.ref (h.length + 1) 1 0 1 (some 1)]] false), some (ABlk.arr 1 [[.ref (h.length + 1 + 1) 1 0 1 (some 1)]] false)] := by rw [hH5]; simp
 have C0 : H5[h.length]? = some (some (ABlk.arr 2 [[.ptr r 21 0 0, .ptr o 5 0 0]] false)) := by rw [H5']; exact at_app 0
 have C1 : H5[h.length + 1]? = some (some (ABlk.arr 1 [[.int .i64 R.id]] false)) := by rw [H5']; exact at_app 1
 have C2 : H5[h.length + 1 + 1]? = some (some (ABlk.arr 1 [[.int .i64 R.last]] false)) := by rw [H5']; exact at_app 2
 have C3 : H5[h.length + 1 + 1 + 1]? = some (some (ABlk.arr 1 [[.ref (h.length + 1) 1 0 1 (some 1)]] false)) := by rw [H5']; exact at_app 3
 have C4 : H5[h.length + 1 + 1 + 1 + 1]? = some (some (ABlk.arr 1 [[.ref (h.length + 1 + 1) 1 0 1 (some 1)]] false)) := by rw [H5']; exact at_app 4
 clear H5'
 rw [<- hH5]
 clear hH5
 have T0 : TwoAt (h.length + 1) (h.length + 1 + 1 + 1) (h.length + 1 + 1 + 1 + 1) H5 [R.id] [R.last] := by
  refine ⟨⟨_, _, fun m => m = h.length + 1, fun m => m = h.length + 1 + 1, C3, C4, fun m hm => ⟨by omega, by omega, by omega, by omega⟩, fun m hm => ⟨by omega, by omega, by omega⟩, ?_, ⟨_, _, C1, (fun e => by cases e), (fun c hc => by cases hc; simp)⟩, ?_, ⟨_, _, C2, (fun e => by cases e), (fun c hc => by cases hc; simp)⟩⟩, by omega, by omega, by omega, by omega, by omega⟩
  ·exact .inr (.inr ⟨_, 0, some 1, _, _, rfl, rfl, C1, by simp, (fun c hc => by cases hc; simp), by simp [OwnLL, OwnL, Own]⟩)
  ·exact .inr (.inr ⟨_, 0, some 1, _, _, rfl, rfl, C2, by simp, (fun c hc => by cases hc; simp), by simp [OwnLL, OwnL, Own]⟩)
 obtain ⟨J, hJ⟩ : ∃ J : Nat -> AHeap -> Prop, ∀ k h', J k h' ↔ TwoAt (h.length + 1) (h.length + 1 + 1 + 1) (h.length + 1 + 1 + 1 + 1) h' (R.id :: (R.flows.take k).map Flow.node) (R.last :: (R.flows.take k).map Flow.mat) /\ Ext (fun m => h.length + 1 <= m) H5 h' := ⟨_, fun _ _ => Iff.rfl⟩
 have J1 : ∀ k h', J k h' -> Rd (fun m => L m = 2 /\ m < h.length) h' (dFlows R.flows) ff := by
  intro k h' hh
  obtain ⟨-, e⟩ := (hJ k h').1 hh
  exact Rd.mono (fun _ y => y) (fun m hm y hy => (e.2 m (by omega) (by omega)).trans (X5.get hy)) _ _ rdf
 have J2 : ∀ k (hk : k < R.flows.length) h' H, J k h' -> Ext nof h' H -> ACalls P f2 ([] ++ [.agg (R.flows[k]).cells] ++ [.ptr (h.length + 1 + 1 + 1) 1 0 0, .ptr (h.length + 1 + 1 + 1 + 1) 1 0 0]) H fun _ h'' => J (k + 1) h'' := by
  intro k hk h' H hh hX
  obtain ⟨t, e⟩ := (hJ k h').1 hh
  have ek : R.flows.take (k + 1) = R.flows.take k ++ [R.flows[k]] := List.take_succ_eq_append_getElem hk
  have tl := List.length_take_le k R.flows
  refine (settle_f1_ok h2 (t.up hX) ⟨by simp; omega, by simp; omega⟩ R.flows[k]).mono fun v h'' z => (hJ _ _).2 ?_
  rw [ek]
  refine ⟨by rw [List.map_append, List.map_append]; exact z.1, (e.trans (hX.trans z.2 (F'' := fun m => h.length + 1 <= m) (fun _ _ y => y.elim) (fun _ _ y => y)) (fun _ _ y => y) (fun _ _ y => y))⟩
 refine wCall_use ⟨h3.1, h3.2 (fun m => L m = 2 /\ m < h.length) H5 r R g ff f2 [] [.ptr (h.length + 1 + 1 + 1) 1 0 0, .ptr (h.length + 1 + 1 + 1 + 1) 1 0 0] J (X5.get ra.row) h2.2 (by omega) ((hJ _ _).2 ⟨by simpa using T0, Ext.refl _ _⟩) J1 J2⟩ ?_
 rintro _ h6 hh
 obtain ⟨t6, e6⟩ := (hJ _ _).1 hh
 rw [List.take_length] at t6
 obtain ⟨a, b, A, B, e2, e3, hA, hB, oa', ca, ob, cb⟩ := t6.ex
 have X6 : Ext nof h h6 := ⟨by have := X5.1; have := e6.1; omega, fun m hm _ => (e6.2 m (by omega) (by omega)).trans (X5.2 m hm (fun y => y))⟩
 have r6 := X6.get rr
 have l6 := X6.1
 have b6 := (e6.2 h.length (by omega) (by omega)).trans C0
 have sa := oa'.scalar
 have sb := ob.scalar
 have ra' := Own.rd _ (F' := A) (fun _ y => y) _ oa'
 have rb' := Own.rd _ (F' := B) (fun _ y => y) _ ob
 simp only [go_sem, reduceEqDiff, b6, e2, e3]
 refine use1 h4.1 (h4.2 h6 r R ⟨g, ff, r6⟩ (hfit.ofR hk)) ?_
 simp only [go_sem, reduceEqDiff, reducePow, reduceDiv, reduceMod, decide_true, b6, e2, e3]
 refine use1 h5.1 (h5.2 nof A B h6 R.now _ _ _ _ _ (rd_confv nof h6 R.now) ra' rb' (hfit.nowFew (by decide)) (by simp; omega) (by simp; omega)) ?_
 simp only [go_sem, reduceEqDiff, reduceAdd, reduceLeDiff, reducePow, reduceDiv, reduceMod, decide_true, b6, r6, e2, e3]
 refine use1 u6.1 (u6.2 nof h6 R.hard.log _ _ (rd_logv' R.hard.log h6) (hfit.logOk hk)) ?_
 have eS : R.now.agreed (R.id :: R.flows.map Flow.node) (R.last :: R.flows.map Flow.mat) = R.settled := rfl
 rw [eS]
 have hx6 := hx.up X6
 have lr6 := (List.getElem?_eq_some_iff.1 r6).1
 have no : R.settle = R -> XTo wA nof L h r o (({ r := R, o := out } : RX).settle) h6 := fun e => by
  have : (({ r := R, o := out } : RX).settle) = ⟨R, out⟩ := by show (⟨R.settle, out⟩ : RX) = _; rw [e]
  rw [this]; exact XTo.from X6 hx6.to
 simp only [go_sem, reduceEqDiff, reduceAdd, b6, r6]
 by_cases c1 : R.commit < R.settled
 ·cases c2 : R.hard.log.has R.settled
  ·simp only [go_sem, reduceEqDiff, decide_eq_true c1]
   exact no (by unfold Raft.settle; rw [if_neg (by simp [c2])])
  ·by_cases c3 : R.hard.log.term R.settled = R.hard.term
   ·simp only [go_sem, reduceEqDiff, reduceAdd, reduceLeDiff, b6, r6, decide_eq_true c1, decide_eq_true c3]
    obtain ⟨g6, f6, ra6⟩ := hx6.r
    obtain ⟨ma6, ca6, aa6, oa6⟩ := hx6.o
    have e7 : (({ r := R, o := out } : RX).settle) = ⟨{ R with commit := R.settled }, out⟩ := by
     show (⟨R.settle, out⟩ : RX) = _; unfold Raft.settle; rw [if_pos ⟨c1, c2, c3⟩]
    rw [e7]
    have ra7 := (ra.keep (h' := h6) (fun _ _ _ => rfl) fun m hm _ => X6.2 m hm (fun y => y))
    exact XTo.from X6 (XAt.setR (R' := { R with commit := R.settled }) ra7 oa6 hx6.lt rfl rfl)
   ·simp only [go_sem, reduceEqDiff, reduceAdd, b6, r6, decide_eq_true c1, decide_eq_false c3]
    exact no (by unfold Raft.settle; rw [if_neg (fun z => c3 z.2.2)])
 ·simp only [go_sem, reduceEqDiff, decide_eq_false c1]
  exact no (by unfold Raft.settle; rw [if_neg (fun z => c1 z.1)])
end Glb
namespace Glb
open Go
open Nat (reduceAdd reduceDiv reduceEqDiff reduceLeDiff reduceMod reducePow)
set_option maxRecDepth 10000
set_option maxHeartbeats 8000000
def AppendP (P : Program) (f : FuncId) : Prop := isFn P f = true /\ ∀ (F : Nat -> Prop) (h : AHeap) (l : Log) (a : List AV) (prev : Int) (e : List Entry) (b : AV), RdL F h l.c a -> Rd F h (dEntries e) b -> LogOk l -> SmallEntries e ->
 ACalls P f [.agg a, .int .i64 prev, b] h fun r h' => r = .tup [.agg (l.laid prev e).v, .int .i64 (l.laidAt prev e)] /\ h' = h
theorem AppendOk.p {P : Program} {f : FuncId} (hc : AppendOk P f) : AppendP P f := ⟨hc.1, fun F h l a prev e b ha hb hl he => (hc.2 F h l a prev e b ha hb hl he).freeze fun _ _ ⟨_, h1, h2, h3⟩ => ⟨h3, _, h1 ▸ Frz.tup2 (Frz.aggD (OwnL.fz _ (fun _ x => x) _ h2)) (Frz.int _ _), rfl⟩⟩
theorem wA0 : ¬ wA 0 := fun h => h rfl
theorem XTo.keep {W Q L h r o x h' m} {b : Option ABlk} (T : XTo W Q L h r o x h') (h0 : ¬ W (L m)) (hq : ¬ Q m) (hb : h[m]? = some b) : h'[m]? = some b := by
 obtain ⟨L1, x1, l1, e1⟩ := T
 exact (e1.2 m (List.getElem?_eq_some_iff.1 hb).1 (fun z => z.elim h0 hq)).trans hb
theorem XTo.rowR {W Q L h r o x h'} (T : XTo W Q L h r o x h') : RowR h' r x.r := let ⟨_, x1, _⟩ := T; x1.rowR
theorem XAt.ge {L h r o x} (a : XAt L h r o x) {m : Nat} (hm : h.length <= m) : L m = 0 := Classical.byContradiction fun z => by have := a.lt m z; omega
theorem XTo.callN {P : Program} {f : FuncId} {avs : List AV} {W Q Q' L h r o x h' h3 x'} {K : AV -> Prop} (T : XTo W Q L h r o x h') (hx : Ext nof h' h3) (hQ : ∀ m, m < h.length -> Q' m -> Q m)
  (hc : ∀ L1, XAt L1 h' r o x -> ACalls P f avs h3 fun v h'' => K v /\ XTo W Q' L1 h3 r o x' h'') : ACalls P f avs h3 fun v h'' => K v /\ XTo W Q L h r o x' h'' := by
 obtain ⟨L1, x1, l1, e1⟩ := T
 refine (hc L1 x1).mono ?_
 rintro v h'' ⟨k, b⟩
 exact ⟨k, XTo.trans1 l1 e1 hQ (XTo.from hx b)⟩
theorem XTo.callM {P : Program} {f : FuncId} {avs : List AV} {W Q Q' L h r o x h' h3 x'} (T : XTo W Q L h r o x h') (hx : Ext nof h' h3) (hQ : ∀ m, m < h.length -> Q' m -> Q m)
  (hc : ∀ L1, XAt L1 h' r o x -> ACalls P f avs h3 fun _ h'' => XTo W Q' L1 h3 r o x' h'') : ACalls P f avs h3 fun _ h'' => XTo W Q L h r o x' h'' :=
 (T.callN (K := fun _ => True) hx hQ fun L1 x1 => (hc L1 x1).mono fun _ _ b => ⟨trivial, b⟩).mono fun _ _ b => b.2
theorem XTo.setR {W Q L h r o R R' out h' g f} (T : XTo W Q L h r o ⟨R, out⟩ h') (row : h'[r]? = some (some (.arr 21 [R.row g f] false))) (e1 : R'.granted = R.granted) (e2 : R'.flows = R.flows) (hW : ∀ k, k ≠ 0 -> W k) :
  XTo W Q L h r o ⟨R', out⟩ (h'.set r (some (.arr 21 [R'.row g f] false))) := by
 obtain ⟨L1, x1, l1, e1'⟩ := T
 obtain ⟨g1, f1, ra⟩ := x1.r
 obtain ⟨ma, ca, aa, oa⟩ := x1.o
 have := ra.row.symm.trans row
 simp only [Option.some.injEq, ABlk.arr.injEq, List.cons.injEq, Raft.row] at this
 obtain ⟨-, ⟨⟨-, -, -, -, -, -, -, -, -, -, -, -, -, -, -, -, -, rfl, rfl, -⟩, -⟩, -⟩ := this
 exact XTo.trans1 l1 e1' (fun _ _ y => y) ((XAt.setR (Q := Q) ra oa x1.lt e1 e2).weakW fun k hk => hW k hk)
theorem rd_one {F : Nat -> Prop} {h : AHeap} {n : Nat} {t k : Int} {data : List Int} {d : AV} {G : Nat -> Prop} (hb : h[n]? = some (some (.arr 3 [[.int .i64 t, .int .i64 k, d]] false))) (hd : Rd G h (dBytes data) d) (hF : ∀ m, G m -> F m) (hn : F n) :
  Rd F h (dEntries [⟨t, k, data⟩]) (.ref n 3 0 1 (some 1)) := by
 refine ⟨_, .inr (.inr ⟨n, 0, 1, some 1, _, _, rfl, hn, hb, by simp, (fun c hc => by cases hc; omega), rfl⟩), ?_⟩
 simp only [List.map_cons, List.map_nil, Entry.c, RdLL, RdL, Rd, List.drop_zero, List.take_succ_cons, List.take_zero]
 exact ⟨_, _, rfl, ⟨_, _, rfl, rfl, _, _, rfl, rfl, _, _, rfl, Rd.mono hF (fun _ _ _ y => y) _ _ hd, rfl⟩, rfl⟩
def RLayOk (P : Program) (f : FuncId) : Prop := isFn P f = true /\ ∀ (G : Nat -> Prop) (L : Nat -> Nat) (h : AHeap) (r o : Nat) (x : RX) (k j : Nat) (kind : Int) (data : List Int) (d : AV), XAt L h r o x -> x.r.fit k -> k < 2^28 -> x.few j -> j <= 2^20 -> Rd G h (dBytes data) d -> bytesOk data /\ data.length <= 2^16 -> i64ok kind ->
 ACalls P f [.agg [.ptr r 21 0 0, .ptr o 5 0 0], .int .i64 kind, d] h fun v h' => v = .int .i64 (x.r.last + 1) /\ XTo wA nof L h r o (x.lay kind data) h'
theorem rlay_ok {P : Program} {f f1 f2 f3 f4 f5 : FuncId} (hf : Is P f (c_raft_call_lay f1 f2 f3 f4 f5)) (u1 : RLastOk P f1) (u2 : AppendP P f2) (u3 : SliceOk P f3) (u4 : TellOk P f4) (u5 : RMeetOk P f5) : RLayOk P f := by
 refine ⟨hf.2, fun G L h r o x k j kind data d hx hfit hk hj hj2 hd hdata hkind => fun_sound hf.1 (Nat.le_of_ble_eq_true rfl) ?_⟩
 show vc P (c_raft_call_lay f1 f2 f3 f4 f5).code ⟨[(0, .agg [.ptr r 21 0 0, .ptr o 5 0 0]), (1, .int .i64 kind), (2, d)], [], h⟩ (atEnd (c_raft_call_lay f1 f2 f3 f4 f5).res _)
 have hmore := hfit.more (e := ⟨x.r.hard.term, kind, data⟩) ⟨hdata, ⟨by have := hfit.term; show _ <= x.r.hard.term; omega, by have := hfit.term; show x.r.hard.term <= _; omega⟩, hkind⟩
 have hr := lay_r x kind data
 have ho := lay_o x kind data
 have elay : x.lay kind data = ⟨(x.lay kind data).r, (x.lay kind data).o⟩ := rfl
 rw [elay, hr, ho]
 obtain ⟨R, out⟩ := x
 simp only at hfit hmore hj ⊢
 have lt := hx.lt
 obtain ⟨g, ff, ra⟩ := id hx.r
 have rr := ra.row
 have lr := (List.getElem?_eq_some_iff.1 rr).1
 simp only [Raft.row] at rr
 have R1 : ∀ a, (h ++ [a])[r]? = _ := fun a => (Ext.b1 a).get rr
 have R2 : ∀ a b, (h ++ [a] ++ [b])[r]? = _ := fun a b => (Ext.b2 a b).get rr
 have sd := hd.scalar
 have bl := hfit.base
 have ll := hfit.last
 have hl0 : 0 <= R.last := by unfold Raft.last Log.last; omega
 have hl1 : R.last <= 2^40 + k := hfit.last
 have ew : IntKind.i64.wrap (R.last + 1) = R.last + 1 := wrap_i64 (by omega)
 simp only [c_raft_call_lay, go_sem, reduceEqDiff, reduceAdd]
 refine use1 u1.1 (u1.2 _ r R ⟨g, ff, R1 _⟩ (hfit.logOk (by omega))) ?_
 obtain ⟨H1, hH1⟩ : ∃ H1, H1 = h ++ [some (ABlk.arr 2 [[.ptr r 21 0 0, .ptr o 5 0 0]] false)] ++ [some (ABlk.arr 3 [[.int .i64 R.hard.term, .int .i64 kind, d]] false)] := ⟨_, rfl⟩
 have X1 : Ext nof h H1 := by rw [hH1]; exact Ext.b2 _ _
 have l1 : H1.length = h.length + 2 := by rw [hH1]; simp
 have C0 : H1[h.length]? = some (some (ABlk.arr 2 [[.ptr r 21 0 0, .ptr o 5 0 0]] false)) := by rw [hH1]; exact bx20 _ _ _
 have C1 : H1[h.length + 1]? = some (some (ABlk.arr 3 [[.int .i64 R.hard.term, .int .i64 kind, d]] false)) := by rw [hH1]; exact bx21 _ _ _
 have r1 := X1.get rr
 have lr1 := (List.getElem?_eq_some_iff.1 r1).1
 have ne0 : (r = h.length) = False := eq_false (by omega)
 have ap := u2.2 (fun _ => True) H1 R.hard.log _ R.last [⟨R.hard.term, kind, data⟩] (.ref (h.length + 1) 3 0 1 (some 1)) (RdL.mono (F := nof) (fun _ _ => trivial) (fun _ _ _ y => y) _ _ (rd_logv' R.hard.log H1)) (rd_one C1 (hd.up X1) (fun _ _ => trivial) trivial) (hfit.logOk (by omega)) ⟨by simp, fun e he => by simp at he; subst he; show data.length <= _; omega⟩
 have elaid : R.hard.log.laid R.last [⟨R.hard.term, kind, data⟩] = ⟨R.hard.log.base, R.hard.log.bterm, R.hard.log.es ++ [⟨R.hard.term, kind, data⟩]⟩ := laid_one _ _
 rw [elaid] at ap
 simp only [Log.v_eq] at ap
 simp only [go_sem, reduceEqDiff, reduceAdd, reduceLeDiff, R1, R2, sd, cells_of sd]
 rw [<- hH1]
 clear hH1
 refine use1 u2.1 ap ?_
 rw [kDB_mk0]
 simp only [go_sem, reduceEqDiff, reduceAdd, reduceLeDiff, reducePow, reduceDiv, reduceMod, decide_true, r1, C0, lr1, ne0]
 rw [ew]
 have hx1 := hx.up X1
 have ra1 := (ra.keep (h' := H1) (fun _ _ _ => rfl) fun m hm _ => X1.2 m hm (fun y => y))
 obtain ⟨ma1, ca1, aa1, oa1⟩ := id hx1.o
 obtain ⟨R', hR'⟩ : ∃ R' : Raft, R' = { R with hard := { R.hard with log := ⟨R.hard.log.base, R.hard.log.bterm, R.hard.log.es ++ [⟨R.hard.term, kind, data⟩]⟩ } } := ⟨_, rfl⟩
 have T1 : XTo wA nof L H1 r o ⟨R', out⟩ (H1.set r (some (.arr 21 [R'.row g ff] false))) := XAt.setR ra1 oa1 hx1.lt (by rw [hR']) (by rw [hR'])
 have hmore : R'.fit (k + 1) := by rw [hR']; exact hmore
 obtain ⟨H2, hH2⟩ : ∃ H2, H2 = H1.set r (some (.arr 21 [R'.row g ff] false)) := ⟨_, rfl⟩
 have row2 : R'.row g ff = [.int .i64 R.id, .int .i64 R.hard.group, .int .i64 R.hard.term, .int .i64 R.hard.vote, .int .i64 R.hard.log.base, .int .i64 R.hard.log.bterm, aentries (R.hard.log.es ++ [⟨R.hard.term, kind, data⟩]), aints R.hard.conf.old, aints R.hard.conf.new, aints R.hard.conf.learners, abytes R.hard.snap,
  .int .i64 R.commit, .int .i64 R.applied, .int .i64 R.role, .int .i64 R.leader, .int .i64 R.elapsed, .int .i64 R.timeout, g, ff, .int .i64 R.round, .int .i64 R.beat] := by rw [hR']; rfl
 have r2 : H2[r]? = some (some (.arr 21 [R'.row g ff] false)) := by rw [hH2]; exact List.getElem?_set_self lr1
 rw [<- hH2] at T1
 rw [row2] at hH2 r2
 rw [<- hH2]
 have eR'l : R'.hard.log = ⟨R.hard.log.base, R.hard.log.bterm, R.hard.log.es ++ [⟨R.hard.term, kind, data⟩]⟩ := by rw [hR']
 have eR'g : R'.hard.group = R.hard.group := by rw [hR']
 have sl := u3.2 nof H2 R'.hard.log _ (R.last + 1) 1 (rd_logv' R'.hard.log H2) (hmore.logOk (by omega))
 have es : R'.hard.log.slice (R.last + 1) 1 = [⟨R.hard.term, kind, data⟩] := by rw [eR'l, <- laid_one]; exact slice_one _ _
 rw [es, eR'l] at sl
 simp only at sl
 refine wCall_use ⟨u3.1, sl⟩ ?_
 rintro e1 H3 ⟨oe, -, X3⟩
 have se := oe.scalar
 have z2 : ∀ m, L m = 0 -> ¬ wA (L m) := fun m e => by rw [e]; exact wA0
 have C2 := T1.keep (z2 _ (hx.ge (Nat.le_refl _))) (fun y => y) C0
 have C3 := X3.get C2
 rw [kDB_mk0]
 have r3 := X3.get r2
 simp only [go_sem, reduceEqDiff, reduceAdd, reduceLeDiff, reducePow, reduceDiv, reduceMod, decide_true, C3, cells_of se, r3]
 have el : ({ Change.zero with kind := 2, from_ := R.last + 1, log := ⟨0, 0, [⟨R.hard.term, kind, data⟩]⟩ } : Change).cells e1 .nils .nils .nils .nils = [.int .i64 2, .int .i64 0, .int .i64 0, .int .i64 0, .int .i64 (R.last + 1), .int .i64 0, .int .i64 0, e1, .nils, .nils, .nils, .nils, .int .i64 0, .int .i64 0, .int .i64 0, .int .i64 0, .int .i64 0] := rfl
 have tl := XTo.callM (Q' := fun m => H2.length <= m) T1 X3 (fun m hm (z : H2.length <= m) => by rw [hH2, List.length_set] at z; omega) fun L1 x1 =>
  (u4.2 (fun m => H2.length <= m) L1 H3 r o _ { Change.zero with kind := 2, from_ := R.last + 1, log := ⟨0, 0, [⟨R.hard.term, kind, data⟩]⟩ } e1 .nils .nils .nils .nils (x1.up X3) oe (Own.nils 1) (Own.nils 1) (Own.nils 1) (Own.nils 1) (fun n hn => x1.ge hn) (by have := hj.2; show (out.changes.length + 1) * 216 <= 2^46; have a : out.changes.length + 1 <= 2^21 := by { have b : out.changes.length <= j := this; omega }; exact Nat.le_trans (Nat.mul_le_mul_right 216 a) (by decide))).mono fun _ _ b => b.weakW wO_wA
 rw [el] at tl
 refine wCall_use ⟨u4.1, tl⟩ ?_
 intro _ H4 T2
 have D2 := T2.keep (z2 _ (hx.ge (Nat.le_refl _))) (fun y => y) C0
 rw [kDB_mk0]
 simp only [go_sem, reduceEqDiff, reduceAdd, reduceLeDiff, reducePow, reduceDiv, reduceMod, decide_true, D2]
 have eT : (({ r := R', o := out } : RX).tell { Change.zero with kind := 2, from_ := R.last + 1, log := ⟨0, 0, [⟨R.hard.term, kind, data⟩]⟩ }) = ⟨R', { out with changes := out.changes ++ [{ Change.zero with kind := 2, group := R.hard.group, from_ := R.last + 1, log := ⟨0, 0, [⟨R.hard.term, kind, data⟩]⟩ }] }⟩ := by
  unfold RX.tell; simp only [eR'g]
 rw [eT] at T2
 by_cases c : kind = 2
 ·simp only [go_sem, reduceEqDiff, decide_eq_true c, D2]
  have mt := XTo.callM (Q' := nof) T2 (Ext.refl _ _) (fun _ _ y => y) fun L1 x1 => u5.2 L1 H4 r o _ (k + 1) R.last x1 hmore (by omega) ⟨hl0, by omega⟩
  refine wCall_use ⟨u5.1, mt⟩ ?_
  intro _ H5 T3
  rw [if_pos c, <- hR']
  simp only [go_sem, reduceEqDiff, ew]
  have e5 : R'.flows = R.flows := by rw [hR']
  rw [<- e5]
  exact XTo.from X1 T3
 ·rw [if_neg c, <- hR']
  simp only [go_sem, reduceEqDiff, decide_eq_false c, ew]
  exact XTo.from X1 T2
end Glb
namespace Glb
open Go
open Nat (reduceAdd reduceDiv reduceEqDiff reduceLeDiff reduceMod reducePow)
set_option maxRecDepth 10000
set_option maxHeartbeats 8000000
def RLeadOk (P : Program) (f : FuncId) : Prop := isFn P f = true /\ ∀ (L : Nat -> Nat) (h : AHeap) (r o : Nat) (x : RX) (k j : Nat), XAt L h r o x -> x.r.fit k -> k < 2^28 -> x.few j -> j < 2^20 ->
 ACalls P f [.agg [.ptr r 21 0 0, .ptr o 5 0 0]] h fun _ h' => XTo wA nof L h r o x.lead h'
theorem rlead_ok {P : Program} {f f1 f2 f3 f4 f5 f6 : FuncId} (hf : Is P f (c_raft_call_lead f1 f2 f3 f4 f5 f6)) (u1 : RLastOk P f1) (u2 : RMeetOk P f2) (u3 : RLayOk P f3) (u4 : ToOk P f4) (u5 : EachOk P f5) (u6 : RSettleOk P f6) : RLeadOk P f := by
 refine ⟨hf.2, fun L h r o x k j hx hfit hk hj hj2 => fun_sound hf.1 (Nat.le_of_ble_eq_true rfl) ?_⟩
 show vc P (c_raft_call_lead f1 f2 f3 f4 f5 f6).code ⟨[(0, .agg [.ptr r 21 0 0, .ptr o 5 0 0])], [], h⟩ (atEnd (c_raft_call_lead f1 f2 f3 f4 f5 f6).res _)
 obtain ⟨R, out⟩ := x
 simp only at hfit
 have lt := hx.lt
 have X1 := Ext.b1 (h := h) (some (ABlk.arr 2 [[.ptr r 21 0 0, .ptr o 5 0 0]] false))
 have hx1 := hx.up X1
 obtain ⟨g, ff, ra⟩ := hx1.r
 obtain ⟨ma, ca, aa, oa⟩ := hx1.o
 have rr := ra.row
 have lrh : r < h.length := lt r (by rw [ra.lr]; omega)
 have lr1 : r < h.length + 1 := by omega
 simp only [Raft.row] at rr
 have B1 := bx10 h (some (ABlk.arr 2 [[.ptr r 21 0 0, .ptr o 5 0 0]] false))
 have ne : (r = h.length) = False := eq_false (by omega)
 simp only [c_raft_call_lead, go_sem, reduceEqDiff, reduceAdd, reduceLeDiff, reducePow, reduceDiv, reduceMod, decide_true, rr, ne, B1, lr1, List.length_set, List.set_set]
 have T0 : XTo wA nof L (h ++ [some (ABlk.arr 2 [[.ptr r 21 0 0, .ptr o 5 0 0]] false)]) r o ⟨{ R with role := 2, leader := R.id, beat := 0, granted := [], flows := [] }, out⟩ _ := XAt.setR0 (R' := { R with role := 2, leader := R.id, beat := 0, granted := [], flows := [] }) ra oa hx1.lt rfl rfl
 simp only [Raft.row] at T0
 have z2 : ∀ m, h.length <= m -> ¬ wA (L m) := fun m e => by rw [hx.ge e]; exact wA0
 generalize List.set (h ++ [some (ABlk.arr 2 [[.ptr r 21 0 0, .ptr o 5 0 0]] false)]) r _ = H1 at *
 have D0 := T0.keep (z2 _ (Nat.le_refl _)) (fun y => y) B1
 have hl1 : R.last <= 2^40 + k := hfit.last
 have hl0 : 0 <= R.last := by have := hfit.base; unfold Raft.last Log.last; omega
 have f0 : ({ R with role := 2, leader := R.id, beat := 0, granted := [], flows := [] } : Raft).fit k := by
  obtain ⟨g1, g2, g3, g4, g5, g6, g7, g8, g9, g10, g11, g12, g13, g14, g15⟩ := hfit
  exact ⟨g1, g2, g3, g4, g5, g6, g7, g8, g9, g10, ⟨Int.le_refl _, by show (0 : Int) <= 1; omega⟩, g12, by simp, ⟨by simp, by simp⟩, g15⟩
 have el : ({ R with role := 2, leader := R.id, beat := 0, granted := [], flows := [] } : Raft).last = R.last := rfl
 refine use1 u1.1 (by have := u1.2 H1 r _ T0.rowR (f0.logOk (by omega)); rw [el] at this; exact this) ?_
 have rw1 : ∃ g f, H1[r]? = some (some (.arr 21 [({ R with role := 2, leader := R.id, beat := 0, granted := [], flows := [] } : Raft).row g f] false)) := T0.rowR
 obtain ⟨g1, ff1, row1⟩ := rw1
 simp only [Raft.row] at row1
 simp only [go_sem, reduceEqDiff, reducePow, reduceDiv, reduceMod, decide_true, D0]
 have mt := XTo.callM (Q' := nof) T0 (Ext.refl _ _) (fun _ _ y => y) fun L1 x1 => u2.2 L1 H1 r o _ k R.last x1 f0 (by omega) ⟨hl0, by omega⟩
 refine wCall_use ⟨u2.1, mt⟩ ?_
 intro _ H2 T2
 have D2 := T2.keep (z2 _ (Nat.le_refl _)) (fun y => y) B1
 have eled : ({ R with role := 2, leader := R.id, beat := 0, granted := [], flows := [] } : Raft).meet ({ R with role := 2, leader := R.id, beat := 0, granted := [], flows := [] } : Raft).flows R.last = R.led := rfl
 simp only [eled] at T2
 have f2 := hfit.led (by omega)
 simp only [go_sem, reduceEqDiff, reduceAdd, reduceLeDiff, reducePow, reduceDiv, reduceMod, decide_true, D2]
 have lt' := XTo.callN (Q' := nof) T2 (Ext.refl _ _) (fun _ _ y => y) fun L1 x1 => u3.2 nof L1 H2 r o ⟨R.led, out⟩ k j 0 [] .nils x1 f2 hk hj (by omega) (Rd.nils 1) ⟨fun _ h => by simp at h, by simp⟩ ⟨by omega, by omega⟩
 refine wCall_use ⟨u3.1, lt'⟩ ?_
 rintro _ H3 ⟨-, T3⟩
 have D3 := T3.keep (z2 _ (Nat.le_refl _)) (fun y => y) B1
 have f3 : (({ r := R.led, o := out } : RX).lay 0 []).r.fit (k + 1) := Raft.fit.lay (x := { r := R.led, o := out }) (kind := 0) (data := []) f2 (by omega) ⟨fun _ h => by simp at h, by simp⟩ ⟨by omega, by omega⟩
 have j3 : (({ r := R.led, o := out } : RX).lay 0 []).few (j + 1) := RX.few.lay (x := { r := R.led, o := out }) hj 0 []
 simp only [go_sem, reduceEqDiff, reduceAdd, reduceLeDiff, D3]
 have et := XTo.callM (Q' := nof) T3 (Ext.refl _ _) (fun _ _ y => y) fun L1 x1 => (eachTo_ok u5 u4 x1 f3 (by omega) j3 (by omega)).mono fun _ _ b => b.weakW wO_wA
 refine wCall_use ⟨u5.1, et⟩ ?_
 intro _ H4 T4
 have D4 := T4.keep (z2 _ (Nat.le_refl _)) (fun y => y) B1
 have f4 : (({ r := R.led, o := out } : RX).lay 0 []).on.r.fit (k + 1) := by
  show (RX.each _ _).r.fit (k + 1); rw [(each_r _ _).1]; exact f3
 simp only [go_sem, reduceEqDiff, reduceAdd, reduceLeDiff, D4]
 have st := XTo.callM (Q' := nof) T4 (Ext.refl _ _) (fun _ _ y => y) fun L1 x1 => u6.2 L1 H4 r o _ (k + 1) x1 f4 (by omega)
 refine wCall_use ⟨u6.1, st⟩ ?_
 intro _ H5 T5
 simp only [go_sem]
 exact XTo.from X1 T5
end Glb
