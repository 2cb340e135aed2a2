/-
  A library of its own: its parts, one behind the other.
-/
import Derived.Test.YtdeiamnhnfmilaaGreatGlbConE
import Derived.Test.YtdeiamnhnfmilaaGreatGlbFloB
import Derived.Test.YtdeiamnhnfmilaaGreatGlbVotA
import Derived.Test.YtdeiamnhnfmilaaGreatGlbImgE
import Derived.Test.YtdeiamnhnfmilaaGreatGlbQuoA
import Derived.Test.YtdeiamnhnfmilaaGreatGlbKitB
import Derived.Test.YtdeiamnhnfmilaaGreatGlbDef
import Derived.Test.YtdeiamnhnfmilaaGreatGlbCraft
set_option linter.unusedSimpArgs false
set_option linter.unusedVariables false
namespace Glb
open Go
open Nat (reduceAdd reduceDiv reduceEqDiff reduceLeDiff reduceMod reducePow)
structure Raft where
 id : Int
 hard : Hard
 commit : Int
 applied : Int
 role : Int
 leader : Int
 elapsed : Int
 timeout : Int
 granted : List Int
 flows : List Flow
 round : Int
 beat : Int
 deriving DecidableEq
structure Rdy where
 msgs : List Msg
 changes : List Change
 apply : List Entry
 first : Int
 restore : Bool
 deriving DecidableEq
structure RX where
 r : Raft
 o : Rdy
 deriving DecidableEq
def Rdy.none : Rdy := ⟨[], [], [], 0, false⟩
def Msg.zero : Msg := ⟨0, 0, 0, 0, 0, 0, 0, 0, 0, 0, 0, 0, 0, 0, false, [], []⟩
def Change.zero : Change := ⟨0, 0, 0, 0, 0, ⟨0, 0, []⟩, ⟨[], [], []⟩, [], ⟨0, 0, 0, 0, 0⟩⟩
def Raft.new (id : Int) (h : Hard) (draw : Int) : Raft := ⟨id, h, h.log.base, h.log.base, 0, 0, 0, wait draw, [], [], 0, 0⟩
def Raft.now (r : Raft) : Conf := r.hard.of.1
def Raft.last (r : Raft) : Int := r.hard.log.last
def Raft.voter (r : Raft) (node : Int) : Bool := decide (node ∈ r.now.voters)
def Raft.follow (r : Raft) (leader : Int) : Raft := { r with role := 0, leader := leader, flows := [], granted := [] }
def RX.send (x : RX) (m : Msg) : RX := { x with o := { x.o with msgs := x.o.msgs ++ [{ m with from_ := x.r.id, group := x.r.hard.group, term := x.r.hard.term }] } }
def RX.tell (x : RX) (c : Change) : RX := { x with o := { x.o with changes := x.o.changes ++ [{ c with group := x.r.hard.group }] } }
def RX.term (x : RX) (term voted : Int) : RX := ({ x with r := { x.r with hard := { x.r.hard with term := term, vote := voted } } } : RX).tell { Change.zero with kind := 1, term := term, voted := voted }
def RX.follow (x : RX) (leader : Int) : RX := { x with r := x.r.follow leader }
def RX.to (x : RX) (f : Flow) : RX := x.send (f.send x.r.id x.r.hard x.r.commit x.r.round)
def RX.each (x : RX) (l : List Flow) : RX := l.foldl RX.to x
def flowTo (was : List Flow) (node last : Int) : Flow := (was.find? fun f => decide (f.node = node)).getD ⟨node, last + 1, 0, 0⟩
def Raft.meet (r : Raft) (was : List Flow) (last : Int) : Raft := { r with flows := (r.now.members.filter fun n => !decide (n = r.id)).map fun n => flowTo was n last }
def RX.lay (x : RX) (kind : Int) (data : List Int) : RX :=
 let last := x.r.last
 let l := x.r.hard.log.laid last [⟨x.r.hard.term, kind, data⟩]
 let y : RX := ({ x with r := { x.r with hard := { x.r.hard with log := l } } } : RX).tell { Change.zero with kind := 2, from_ := last + 1, log := ⟨0, 0, l.slice (last + 1) 1⟩ }
 if kind = 2 then { y with r := y.r.meet y.r.flows last } else y
def Raft.settled (r : Raft) : Int := r.now.agreed (r.id :: r.flows.map Flow.node) (r.last :: r.flows.map Flow.mat)
def Raft.settle (r : Raft) : Raft := if r.commit < r.settled /\ r.hard.log.has r.settled = true /\ r.hard.log.term r.settled = r.hard.term then { r with commit := r.settled } else r
def RX.settle (x : RX) : RX := { x with r := x.r.settle }
def RX.on (x : RX) : RX := x.each x.r.flows
def RX.lead (x : RX) : RX :=
 let r : Raft := { x.r with role := 2, leader := x.r.id, beat := 0, granted := [], flows := [] }
 ((({ x with r := r.meet [] r.last } : RX).lay 0 []).on).settle
def Raft.ends (r : Raft) : Raft := if r.role = 2 /\ r.hard.of.2 <= r.commit /\ r.voter r.id = false then r.follow 0 else r
def RX.ends (x : RX) : RX :=
 let r := x.r.ends
 if r.commit <= r.applied then ⟨r, x.o⟩ else ⟨{ r with applied := r.commit }, { x.o with first := r.applied + 1, apply := r.hard.log.slice (r.applied + 1) (r.commit - r.applied) }⟩
def RX.sends (x : RX) (l : List Msg) : RX := l.foldl RX.send x
def RX.stand (x : RX) (draw : Int) : RX :=
 let y := (x.term (x.r.hard.term + 1) x.r.id).follow 0
 let z : RX := { y with r := { y.r with role := 1, elapsed := 0, timeout := wait draw, granted := [y.r.id] } }
 if z.r.now.won z.r.granted then z.lead else z.sends (asks z.r.id z.r.hard.group z.r.hard.term z.r.hard.log z.r.now)
def Raft.begin (r : Raft) : RX := ⟨r, Rdy.none⟩
def Raft.tick (r : Raft) (draw : Int) : RX :=
 if r.role = 2 then (if r.beat + 1 ≥ 2 then (({ r with beat := 0 } : Raft).begin).on else ({ r with beat := r.beat + 1 } : Raft).begin).ends
 else
  let s : Raft := { r with elapsed := r.elapsed + 1 }
  (if s.timeout <= s.elapsed /\ s.voter s.id = true /\ s.hard.term < 2^40 /\ s.last < 2^40 then s.begin.stand draw else s.begin).ends
def RX.asked (x : RX) (m : Msg) : RX :=
 let ok := grants x.r.hard.term x.r.hard.vote x.r.hard.log m
 let y : RX := if ok then (let z : RX := { x with r := { x.r with elapsed := 0 } }; if z.r.hard.vote = m.from_ then z else z.term z.r.hard.term m.from_) else x
 y.send { Msg.zero with kind := 2, to := m.from_, ok := ok }
def RX.voted (x : RX) (m : Msg) : RX :=
 if ¬ x.r.role = 1 \/ m.ok = false \/ m.from_ ∈ x.r.granted \/ x.r.voter m.from_ = false then x else
 let y : RX := { x with r := { x.r with granted := x.r.granted ++ [m.from_] } }
 if y.r.now.won y.r.granted then y.lead else y
def RX.answer (x : RX) (m : Msg) (ok : Bool) (index : Int) : RX := x.send { Msg.zero with kind := 4, to := m.from_, ok := ok, index := index, round := m.round }
def RX.append (x : RX) (m : Msg) : RX :=
 if m.index < x.r.hard.log.base then x.answer m true x.r.commit else
 if x.r.hard.log.has m.index = false \/ ¬ x.r.hard.log.term m.index = m.prev then x.answer m false (max 0 (min x.r.last (m.index - 1))) else
 let l := x.r.hard.log.laid m.index m.es
 let at' := x.r.hard.log.laidAt m.index m.es
 if 0 < at' /\ at' <= x.r.commit then x else
 let y : RX := if 0 < at' then ({ x with r := { x.r with hard := { x.r.hard with log := l } } } : RX).tell { Change.zero with kind := 2, from_ := at', log := ⟨0, 0, l.slice at' l.es.length⟩ } else x
 ({ y with r := { y.r with commit := max y.r.commit (min m.commit (m.index + m.es.length)) } } : RX).answer m true (m.index + m.es.length)
def flowAt (l : List Flow) (node : Int) : Option Nat := l.findIdx? fun f => decide (f.node = node)
def RX.heard (x : RX) (m : Msg) : RX :=
 if ¬ x.r.role = 2 then x else
 match flowAt x.r.flows m.from_ with
 | none => x
 | some i =>
  let f := ((x.r.flows[i]?).getD ⟨0, 0, 0, 0⟩).heard m
  let y : RX := { x with r := { x.r with flows := x.r.flows.set i f } }
  let z := if m.ok then y.settle else y
  if m.ok = false \/ f.next <= z.r.last then z.to f else z
def Raft.snapped (r : Raft) (base term : Int) : Log := if r.hard.log.has base = true /\ r.hard.log.term base = term then r.hard.log.cut base else ⟨base, term, []⟩
def RX.base (x : RX) (base term : Int) (c : Conf) (snap : List Int) : RX :=
 ({ x with r := { x.r with hard := { x.r.hard with log := x.r.snapped base term, conf := c, snap := snap } } } : RX).tell { Change.zero with kind := 3, log := ⟨base, term, []⟩, conf := c, snap := snap }
def twoBlobs (l : List Int) : List Int × List Int × Int :=
 let a := blobC.dec (some l)
 let b := blobC.dec a.2
 (a.1, b.1, b.2.end_)
def RX.restore (x : RX) (m : Msg) : RX :=
 if m.index <= x.r.commit then x.answer m true x.r.commit else
 let s := twoBlobs m.data
 if ¬ s.2.2 = 0 \/ ¬ (getConf s.1).2 = 0 then x else
 let y := x.base m.index m.prev (getConf s.1).1 s.2.1
 (⟨{ y.r with commit := m.index, applied := m.index }, { y.o with restore := true }⟩ : RX).answer m true m.index
def RX.step (x : RX) (m : Msg) : RX :=
 if ¬ m.group = x.r.hard.group \/ m.kind < 1 \/ 5 < m.kind \/ (m.kind = 1 /\ x.r.voter m.from_ = false) then x else
 let y := if x.r.hard.term < m.term then (x.term m.term 0).follow 0 else x
 if m.term < y.r.hard.term then
  (if m.kind = 1 then y.send { Msg.zero with kind := 2, to := m.from_ } else if m.kind = 3 \/ m.kind = 5 then y.send { Msg.zero with kind := 4, to := m.from_ } else y)
 else if m.kind = 1 then y.asked m else if m.kind = 2 then y.voted m else if m.kind = 4 then y.heard m
 else if y.r.role = 2 then y else
  let z : RX := { y with r := { y.r.follow m.from_ with elapsed := 0 } }
  if m.kind = 3 then z.append m else z.restore m
def Raft.step (r : Raft) (m : Msg) : RX := (r.begin.step m).ends
def Raft.propose (r : Raft) (kind : Int) (data : List Int) : Int × RX × Int :=
 if ¬ r.role = 2 then (0, r.begin, 30) else
 if ¬ kind = 1 /\ ¬ kind = 2 then (0, r.begin, 13) else
 if kind = 2 /\ ¬ (getConf data).2 = 0 then (0, r.begin, 4) else
 if 2^40 <= r.last then (0, r.begin, 17) else
 (r.last + 1, (((r.begin.lay kind data).on).settle).ends, 0)
def Raft.read (r : Raft) : Int × RX × Int :=
 if ¬ r.role = 2 then (0, r.begin, 30) else
 if r.hard.log.has r.commit = false \/ ¬ r.hard.log.term r.commit = r.hard.term then (0, r.begin, 11) else
 (r.round + 1, ({ r with round := r.round + 1 } : Raft).begin.on, 0)
def Raft.safe (r : Raft) (round : Int) : Bool :=
 if ¬ r.role = 2 \/ round < 1 \/ r.round < round then false else
 r.now.won (r.id :: (r.flows.filter fun f => decide (round <= f.round)).map Flow.node)
def Raft.compact (r : Raft) (index : Int) (snap : List Int) : RX × Int :=
 if index <= r.hard.log.base \/ r.applied < index then (r.begin, 3) else
 let up : Hard := { r.hard with log := { r.hard.log with es := r.hard.log.es.take (index - r.hard.log.base).toNat } }
 ((r.begin.base index (r.hard.log.term index) up.of.1 snap).ends, 0)
theorem laid_one (l : Log) (e : Entry) : l.laid l.last [e] = ⟨l.base, l.bterm, l.es ++ [e]⟩ := by
 have h1 : l.has l.last = true := by unfold Log.has Log.last; simp; omega
 have h2 : l.has (l.last + 1) = false := by unfold Log.has; simp; omega
 have h3 : l.agree (l.last + 1) [e] = 0 := by simp [Log.agree, h2]
 unfold Log.laid
 rw [if_pos ⟨h1, by rw [h3]; simp⟩, h3]
 congr 1
 rw [show (l.last + ((0 : Nat) : Int) - l.base).toNat = l.es.length by unfold Log.last; omega]
 simp
theorem slice_one (l : Log) (e : Entry) : (l.laid l.last [e]).slice (l.last + 1) 1 = [e] := by
 rw [laid_one]
 unfold Log.slice
 have h : (⟨l.base, l.bterm, l.es ++ [e]⟩ : Log).last = l.last + 1 := by unfold Log.last; simp; omega
 rw [h, if_neg (by unfold Log.last; simp only; omega)]
 simp only
 rw [show (l.last + 1 - l.base - 1).toNat = l.es.length by unfold Log.last; omega]
 simp
end Glb
namespace Glb
open Go
open Nat (reduceAdd reduceDiv reduceEqDiff reduceLeDiff reduceMod reducePow)
set_option maxRecDepth 10000
set_option maxHeartbeats 8000000
theorem own_appQ {sz bytes : Nat} {F F0 Q : Nat -> Prop} {ds es : List (List D)} {h0 h : AHeap} {av : AV} {ys : List (List AV)} (ho : Own (.sl sz ds) F0 h0 av) (hc : canApp h0 av)
  (hx : Ext nof h0 h) (hy : OwnLL es Q h ys) (hQ : ∀ m, Q m -> F m /\ ¬ F0 m) (h0F : ∀ m, F0 m -> F m) (hF : ∀ m, h0.length <= m -> F m) (hb : (ds.length + es.length) * bytes <= 2 ^ 46) :
  ∃ av' h', aappendY h sz bytes av ys = some (av', h') /\ Own (.sl sz (ds ++ es)) F h' av' /\ canApp h' av' /\ Ext F0 h h' := by
 have hyl := OwnLL_length hy
 have fresh : ∀ (hh : AHeap) (dd : List (List D)) (es' : List (List AV)), F hh.length -> OwnLL dd F hh es' ->
   Own (.sl sz dd) F (append1 hh sz es').2 (append1 hh sz es').1 /\ canApp (append1 hh sz es').2 (append1 hh sz es').1 := by
  intro hh dd es' hl hd
  have hlen := OwnLL_length hd
  refine ⟨?_, ⟨es', true, by simp [append1], (fun _ => rfl), (fun c hc => by cases hc)⟩⟩
  simp only [Own, append1]
  refine .inr (.inr ⟨hh.length, 0, none, es', true, by rw [hlen], hl, by simp, by omega, (fun c hc => by cases hc), ?_⟩)
  have : (es'.drop 0).take dd.length = es' := by rw [List.drop_zero, List.take_of_length_le (by omega)]
  rw [this]
  refine OwnLL.mono dd (fun m hm => ⟨hm.1, by have := hm.2; omega⟩) ?_ _ (OwnLL.lt dd _ hd)
  intro m hm x hx
  rw [List.getElem?_append_left hm.2]; exact hx
 simp only [Own] at ho
 rcases ho with ⟨rfl, rfl⟩ | ⟨t, c, rfl, rfl⟩ | ⟨n, off, cap, row, g, rfl, hn0, hrow, hle, hcl, hd0⟩
 · -- nothing yet
  have hy' : OwnLL es F h ys := OwnLL.mono es (fun m hm => (hQ _ hm).1) (fun _ _ _ x => x) _ hy
  obtain ⟨a, b⟩ := fresh h es ys (hF _ hx.1) hy'
  refine ⟨_, _, ?_, by simpa using a, b, ?_⟩
  ·simp only [aappendY]; rw [if_pos (by rw [hyl]; simpa using hb)]
  ·exact Ext.app _ _ _
 ·have hc1 : c = true := hc
  subst hc1
  have hy' : OwnLL es F h ys := OwnLL.mono es (fun m hm => (hQ _ hm).1) (fun _ _ _ x => x) _ hy
  simp only [aappendY]
  rw [if_pos ⟨trivial, by rw [hyl]; simpa using hb⟩]
  by_cases hy0 : ys.length = 0
  ·rw [if_pos hy0]
   have hes : es = [] := List.eq_nil_of_length_eq_zero (by omega)
   subst hes
   refine ⟨_, _, rfl, ?_, rfl, Ext.refl _ _⟩
   simp only [Own]
   exact .inr (.inl ⟨t, true, rfl, rfl⟩)
  ·rw [if_neg hy0, if_pos trivial]
   obtain ⟨a, b⟩ := fresh h es ys (hF _ hx.1) hy'
   exact ⟨_, _, rfl, by simpa [append1] using a, b, Ext.app _ _ _⟩
 ·have hn : F n := h0F _ hn0
  have hd : OwnLL ds (fun m => F m /\ m ≠ n) h0 ((row.drop off).take ds.length) := OwnLL.mono ds (fun m hm => ⟨h0F _ hm.1, hm.2⟩) (fun _ _ _ x => x) _ hd0
  obtain ⟨row', g', hrow', hcn, hcs⟩ := hc
  rw [hrow] at hrow'
  obtain ⟨rfl, rfl⟩ : row = row' /\ g = g' := by simpa using hrow'
  have hnlt := (List.getElem?_eq_some_iff.1 hrow).1
  have hrow1 : h[n]? = some (some (.arr sz row g)) := hx.get hrow
  have hnlt1 := (List.getElem?_eq_some_iff.1 hrow1).1
  have hd1 : OwnLL ds (fun m => F m /\ m ≠ n) h ((row.drop off).take ds.length) := OwnLL.mono ds (fun m hm => hm) (hx.keep _) _ hd
  have hy1 : OwnLL es (fun m => F m /\ m ≠ n) h ys := OwnLL.mono es (fun m hm => ⟨(hQ _ hm).1, by rintro rfl; exact (hQ _ hm).2 hn0⟩) (fun _ _ _ x => x) _ hy
  have both : OwnLL (ds ++ es) F h ((row.drop off).take ds.length ++ ys) := OwnLL.mono _ (fun m hm => hm.1) (fun _ _ _ x => x) _ (OwnLL_app hd1 hy1)
  simp only [aappendY, hrow1]
  rw [if_pos ⟨trivial, trivial, hle, by rw [hyl]; exact hb⟩]
  cases cap with
  | none =>
   obtain rfl := hcn rfl
   simp only [if_true]
   have both' : OwnLL (ds ++ es) F (h.set n none) (row.take ds.length ++ ys) := by
    have := OwnLL_app hd1 hy1
    rw [List.drop_zero] at this
    exact OwnLL.mono _ (fun m hm => hm.1) (fun m hm x hx => by rw [List.getElem?_set_ne (fun e => hm.2 e.symm)]; exact hx) _ this
   obtain ⟨a, b⟩ := fresh (h.set n none) (ds ++ es) (row.take ds.length ++ ys) (by rw [List.length_set]; exact hF _ hx.1) both'
   exact ⟨_, _, rfl, a, b, (Ext.set none (fun _ => hn0)).trans (Ext.app F0 _ _) (fun _ _ x => x) (fun _ _ x => x)⟩
  | some c =>
   have hc1 := hcl c rfl
   have hc2 := hcs c rfl
   cases c with
   | zero =>
    have h0 : ds.length = 0 := by omega
    have hds : ds = [] := List.eq_nil_of_length_eq_zero h0
    subst hds
    simp only [List.length_nil, if_true]
    by_cases hy0 : ys.length = 0
    ·rw [if_pos hy0]
     have hes : es = [] := List.eq_nil_of_length_eq_zero (by omega)
     subst hes
     refine ⟨_, _, rfl, ?_, ⟨row, g, hrow1, (fun e => by cases e), (fun c hc => by cases hc; omega)⟩, Ext.refl _ _⟩
     simp only [Own]
     exact .inr (.inr ⟨n, off, some 0, row, g, rfl, hn, hrow1, by simpa using hle, (fun c hc => by cases hc; simp), by simp [OwnLL]⟩)
    ·rw [if_neg hy0]
     have hy2 : OwnLL es F h ys := OwnLL.mono es (fun m hm => hm.1) (fun _ _ _ x => x) _ hy1
     obtain ⟨a, b⟩ := fresh h es ys (hF _ hx.1) hy2
     exact ⟨_, _, rfl, by simpa [append1] using a, b, Ext.app _ _ _⟩
   | succ c =>
    simp only
    by_cases hcap : c + 1 < ds.length + ys.length
    ·rw [if_pos hcap]
     obtain ⟨a, b⟩ := fresh h (ds ++ es) _ (hF _ hx.1) both
     exact ⟨_, _, rfl, a, b, Ext.app _ _ _⟩
    ·rw [if_neg hcap, if_pos (by omega)]
     have hsl : (splice row (off + ds.length) ys).length = row.length := by simp [splice]; omega
     refine ⟨_, _, rfl, ?_, ⟨_, g, by rw [List.getElem?_set_self hnlt1], (fun e => by cases e), (fun c' hc' => by cases hc'; rw [hsl]; exact hc2)⟩, Ext.set _ (fun _ => hn0)⟩
     simp only [Own]
     refine .inr (.inr ⟨n, off, some (c + 1), splice row (off + ds.length) ys, g, by rw [List.length_append, hyl], hn, by rw [List.getElem?_set_self hnlt1], by rw [hsl, List.length_append]; omega,
      (fun c' hc' => by cases hc'; rw [List.length_append]; omega), ?_⟩)
     have e : ((splice row (off + ds.length) ys).drop off).take (ds ++ es).length = (row.drop off).take ds.length ++ ys := by
      apply List.ext_getElem?
      intro i
      simp only [List.getElem?_take, List.getElem?_drop, List.length_append, splice, List.getElem?_append, List.length_take, List.length_append, List.length_drop]
      rw [show min (off + ds.length) row.length = off + ds.length by omega, show min ds.length (row.length - off) = ds.length by omega]
      by_cases h1 : i < ds.length
      ·rw [if_pos (by omega), if_pos (by omega), if_pos (by omega), if_pos (by omega), if_pos h1]
       simp [h1]
      ·by_cases h2 : i < ds.length + es.length
       ·rw [if_pos h2, if_pos (by omega), if_neg (by omega), if_neg h1]
        congr 1; omega
       ·rw [if_neg h2, if_neg h1, List.getElem?_eq_none (by omega)]
     rw [e]
     refine OwnLL.mono _ (fun m hm => hm) ?_ _ (OwnLL_app hd1 hy1)
     intro m hm x hx
     rw [List.getElem?_set_ne (fun e => hm.2 e.symm)]; exact hx
def dFlows (l : List Flow) : D := .sl 4 (l.map Flow.c)
def Raft.row (x : Raft) (g f : AV) : List AV := [.int .i64 x.id, .int .i64 x.hard.group, .int .i64 x.hard.term, .int .i64 x.hard.vote, .int .i64 x.hard.log.base, .int .i64 x.hard.log.bterm, aentries x.hard.log.es, aints x.hard.conf.old, aints x.hard.conf.new, aints x.hard.conf.learners, abytes x.hard.snap,
 .int .i64 x.commit, .int .i64 x.applied, .int .i64 x.role, .int .i64 x.leader, .int .i64 x.elapsed, .int .i64 x.timeout, g, f, .int .i64 x.round, .int .i64 x.beat]
structure RAt (L : Nat -> Nat) (h : AHeap) (r : Nat) (x : Raft) (g f : AV) : Prop where
 row : h[r]? = some (some (.arr 21 [x.row g f] false))
 go : Own (dInts x.granted) (fun m => L m = 1) h g
 gc : canApp h g
 fo : Own (dFlows x.flows) (fun m => L m = 2) h f
 fc : canApp h f
 lr : L r = 6
structure OAt (L : Nat -> Nat) (h : AHeap) (o : Nat) (x : Rdy) (ma ca aa : AV) : Prop where
 row : h[o]? = some (some (.arr 5 [[ma, ca, aa, .int .i64 x.first, .bool x.restore]] false))
 m : Own (dMsgs x.msgs) (fun m => L m = 3) h ma
 mc : canApp h ma
 c : Own (dChanges x.changes) (fun m => L m = 4) h ca
 cc : canApp h ca
 a : Own (dEntries x.apply) (fun m => L m = 5) h aa
 lo : L o = 7
structure XAt (L : Nat -> Nat) (h : AHeap) (r o : Nat) (x : RX) : Prop where
 r : ∃ g f, RAt L h r x.r g f
 o : ∃ ma ca aa, OAt L h o x.o ma ca aa
 lt : ∀ m, L m ≠ 0 -> m < h.length
def wO : Nat -> Prop := fun k => k = 3 \/ k = 4 \/ k = 5 \/ k = 7
def wA : Nat -> Prop := fun k => k ≠ 0
def XTo (W Q : Nat -> Prop) (L : Nat -> Nat) (h : AHeap) (r o : Nat) (x : RX) (h' : AHeap) : Prop := ∃ L', XAt L' h' r o x /\ (∀ m, m < h.length -> L m ≠ 0 \/ ¬ Q m -> L' m = L m) /\ Ext (fun m => W (L m) \/ Q m) h h'
theorem RAt.keep {L h r x g f L' h'} (a : RAt L h r x g f) (hL : ∀ m, m < h.length -> L m ≠ 0 -> L' m = L m) (hk : ∀ m, m < h.length -> L m = 1 \/ L m = 2 \/ L m = 6 -> h'[m]? = h[m]?) : RAt L' h' r x g f := by
 have lr := (List.getElem?_eq_some_iff.1 a.row).1
 have gl := Own.lt _ _ a.go
 have fl := Own.lt _ _ a.fo
 have kg : Keep (fun m => L m = 1 /\ m < h.length) h h' := fun m hm y hy => (hk m hm.2 (.inl hm.1)).trans hy
 have kf : Keep (fun m => L m = 2 /\ m < h.length) h h' := fun m hm y hy => (hk m hm.2 (.inr (.inl hm.1))).trans hy
 exact ⟨(hk r lr (.inr (.inr a.lr))).trans a.row, Own.mono _ (fun m hm => (hL m hm.2 (by rw [hm.1]; omega)).trans hm.1) kg _ gl, a.gc.keep gl kg, Own.mono _ (fun m hm => (hL m hm.2 (by rw [hm.1]; omega)).trans hm.1) kf _ fl, a.fc.keep fl kf, (hL r lr (by rw [a.lr]; omega)).trans a.lr⟩
theorem OAt.keep {L h o x ma ca aa L' h'} (a : OAt L h o x ma ca aa) (hL : ∀ m, m < h.length -> L m ≠ 0 -> L' m = L m) (hk : ∀ m, m < h.length -> L m = 3 \/ L m = 4 \/ L m = 5 \/ L m = 7 -> h'[m]? = h[m]?) : OAt L' h' o x ma ca aa := by
 have lr := (List.getElem?_eq_some_iff.1 a.row).1
 have ml := Own.lt _ _ a.m
 have cl := Own.lt _ _ a.c
 have al := Own.lt _ _ a.a
 have km : Keep (fun m => L m = 3 /\ m < h.length) h h' := fun m hm y hy => (hk m hm.2 (.inl hm.1)).trans hy
 have kc : Keep (fun m => L m = 4 /\ m < h.length) h h' := fun m hm y hy => (hk m hm.2 (.inr (.inl hm.1))).trans hy
 have ka : Keep (fun m => L m = 5 /\ m < h.length) h h' := fun m hm y hy => (hk m hm.2 (.inr (.inr (.inl hm.1)))).trans hy
 exact ⟨(hk o lr (.inr (.inr (.inr a.lo)))).trans a.row, Own.mono _ (fun m hm => (hL m hm.2 (by rw [hm.1]; omega)).trans hm.1) km _ ml, a.mc.keep ml km, Own.mono _ (fun m hm => (hL m hm.2 (by rw [hm.1]; omega)).trans hm.1) kc _ cl, a.cc.keep cl kc, Own.mono _ (fun m hm => (hL m hm.2 (by rw [hm.1]; omega)).trans hm.1) ka _ al, (hL o lr (by rw [a.lo]; omega)).trans a.lo⟩
theorem XAt.up {L h r o x h'} (a : XAt L h r o x) (hx : Ext nof h h') : XAt L h' r o x := by
 obtain ⟨⟨g, f, ra⟩, ⟨ma, ca, aa, oa⟩, lt⟩ := a
 exact ⟨⟨g, f, ra.keep (fun _ _ _ => rfl) fun m hm _ => hx.2 m hm (fun y => y)⟩, ⟨ma, ca, aa, oa.keep (fun _ _ _ => rfl) fun m hm _ => hx.2 m hm (fun y => y)⟩, fun m hm => Nat.lt_of_lt_of_le (lt m hm) hx.1⟩
theorem XAt.to {W Q L h r o x} (a : XAt L h r o x) : XTo W Q L h r o x h := ⟨L, a, fun _ _ _ => rfl, Ext.refl _ _⟩
theorem XTo.trans1 {W Q Q' L L1 h r o h' x' h''} (l1 : ∀ m, m < h.length -> L m ≠ 0 \/ ¬ Q m -> L1 m = L m) (e1 : Ext (fun m => W (L m) \/ Q m) h h') (hQ : ∀ m, m < h.length -> Q' m -> Q m) (b : XTo W Q' L1 h' r o x' h'') : XTo W Q L h r o x' h'' := by
 obtain ⟨L2, x2, l2, e2⟩ := b
 have hh := e1.1
 have st : ∀ m, m < h.length -> L m ≠ 0 \/ ¬ Q m -> L1 m ≠ 0 \/ ¬ Q' m := fun m hm c => by
  rcases c with c | c
  ·left; rw [l1 m hm (.inl c)]; exact c
  ·right; exact fun z => c (hQ m hm z)
 refine ⟨L2, x2, fun m hm c => (l2 m (by omega) (st m hm c)).trans (l1 m hm c), e1.trans e2 (fun _ _ y => y) (fun m hm y => ?_)⟩
 rcases y with y | y
 ·by_cases c : L m ≠ 0 \/ ¬ Q m
  ·left; rw [l1 m hm c] at y; exact y
  ·right; exact Classical.byContradiction fun z => c (.inr z)
 ·exact .inr (hQ m hm y)
theorem XTo.call0 {P : Program} {f : FuncId} {avs : List AV} {W Q Q' L h r o x h' x'} (a : XTo W Q L h r o x h') (hQ : ∀ m, m < h.length -> Q' m -> Q m) (hc : ∀ L', XAt L' h' r o x -> ACalls P f avs h' fun _ h'' => XTo W Q' L' h' r o x' h'') : ACalls P f avs h' fun _ h'' => XTo W Q L h r o x' h'' := by
 obtain ⟨L1, x1, l1, e1⟩ := a
 exact (hc L1 x1).mono fun v h'' b => XTo.trans1 l1 e1 hQ b
theorem XTo.up {W Q L h r o x h' h''} (a : XTo W Q L h r o x h') (hx : Ext nof h' h'') : XTo W Q L h r o x h'' := by
 obtain ⟨L1, x1, l1, e1⟩ := a
 exact ⟨L1, x1.up hx, l1, e1.trans hx (fun _ _ y => y) (fun _ _ y => y.elim)⟩
theorem XTo.weakQ {W Q Q' L h r o x h'} (a : XTo W Q L h r o x h') (hQ : ∀ m, m < h.length -> Q m -> Q' m) : XTo W Q' L h r o x h' := by
 obtain ⟨L1, x1, l1, e1⟩ := a
 exact ⟨L1, x1, fun m hm c => l1 m hm (c.imp id fun z y => z (hQ m hm y)), e1.weak fun m hm y => y.imp id (hQ m hm)⟩
theorem XTo.from {W Q L h r o x h1 h'} (hx : Ext nof h h1) (a : XTo W Q L h1 r o x h') : XTo W Q L h r o x h' := by
 obtain ⟨L1, x1, l1, e1⟩ := a
 have hh := hx.1
 exact ⟨L1, x1, fun m hm c => l1 m (by omega) c, hx.trans e1 (fun _ _ y => y.elim) (fun _ _ y => y)⟩
theorem XTo.weakW {W W' Q L h r o x h'} (a : XTo W Q L h r o x h') (hW : ∀ k, W k -> W' k) : XTo W' Q L h r o x h' := by
 obtain ⟨L1, x1, l1, e1⟩ := a
 exact ⟨L1, x1, l1, e1.weak fun m _ y => y.imp (hW _) id⟩
theorem wO_wA : ∀ k, wO k -> wA k := fun k h => by unfold wO at h; unfold wA; omega
theorem XAt.setR {Q L h r o R R' out g f ma ca aa} (ra : RAt L h r R g f) (oa : OAt L h o out ma ca aa) (lt : ∀ m, L m ≠ 0 -> m < h.length) (e1 : R'.granted = R.granted) (e2 : R'.flows = R.flows) :
  XTo wA Q L h r o ⟨R', out⟩ (h.set r (some (.arr 21 [R'.row g f] false))) := by
 have lr := (List.getElem?_eq_some_iff.1 ra.row).1
 have ne : ∀ m, L m ≠ 6 -> (h.set r (some (.arr 21 [R'.row g f] false)))[m]? = h[m]? := fun m hm => List.getElem?_set_ne (by rintro rfl; exact hm ra.lr)
 have kg : Keep (fun m => L m = 1) h (h.set r (some (.arr 21 [R'.row g f] false))) := fun m hm y hy => (ne m (by omega)).trans hy
 have kf : Keep (fun m => L m = 2) h (h.set r (some (.arr 21 [R'.row g f] false))) := fun m hm y hy => (ne m (by omega)).trans hy
 refine ⟨L, ⟨⟨g, f, List.getElem?_set_self lr, ?_, ra.gc.keep ra.go kg, ?_, ra.fc.keep ra.fo kf, ra.lr⟩, ⟨ma, ca, aa, oa.keep (fun _ _ _ => rfl) fun m hm y => ne m (by omega)⟩, fun m hm => by rw [List.length_set]; exact lt m hm⟩, fun _ _ _ => rfl, Ext.set _ fun _ => .inl (by rw [ra.lr]; unfold wA; omega)⟩
 ·rw [e1]; exact Own.mono _ (fun _ y => y) kg _ ra.go
 ·rw [e2]; exact Own.mono _ (fun _ y => y) kf _ ra.fo
theorem XAt.setR0 {Q L h r o R R' out g f ma ca aa} (ra : RAt L h r R g f) (oa : OAt L h o out ma ca aa) (lt : ∀ m, L m ≠ 0 -> m < h.length) (e1 : R'.granted = []) (e2 : R'.flows = []) :
  XTo wA Q L h r o ⟨R', out⟩ (h.set r (some (.arr 21 [R'.row .nils .nils] false))) := by
 have lr := (List.getElem?_eq_some_iff.1 ra.row).1
 have ne : ∀ m, L m ≠ 6 -> (h.set r (some (.arr 21 [R'.row .nils .nils] false)))[m]? = h[m]? := fun m hm => List.getElem?_set_ne (by rintro rfl; exact hm ra.lr)
 refine ⟨L, ⟨⟨.nils, .nils, List.getElem?_set_self lr, ?_, trivial, ?_, trivial, ra.lr⟩, ⟨ma, ca, aa, oa.keep (fun _ _ _ => rfl) fun m hm y => ne m (by omega)⟩, fun m hm => by rw [List.length_set]; exact lt m hm⟩, fun _ _ _ => rfl, Ext.set _ fun _ => .inl (by rw [ra.lr]; unfold wA; omega)⟩
 ·rw [e1]; exact Own.nils 1
 ·rw [e2]; exact Own.nils 4
open Classical in
noncomputable def relab (L : Nat -> Nat) (Q : Nat -> Prop) (a b k : Nat) : Nat -> Nat := fun m => if L m = 0 /\ m < b /\ (Q m \/ a <= m) then k else L m
theorem relab_old {L Q a b k m} (h : L m ≠ 0 \/ (¬ Q m /\ m < a)) : relab L Q a b k m = L m := by
 unfold relab
 rw [if_neg]
 rintro ⟨h1, -, h2⟩
 rcases h with h | ⟨h3, h4⟩
 ·exact h h1
 ·rcases h2 with h2 | h2
  ·exact h3 h2
  ·omega
theorem relab_new {L Q a b k m} (h1 : L m = 0) (hb : m < b) (h : Q m \/ a <= m) : relab L Q a b k m = k := by
 unfold relab
 rw [if_pos ⟨h1, hb, h⟩]
theorem relab_lt {L Q a b k m} (hl : L m ≠ 0 -> m < b) (h : relab L Q a b k m ≠ 0) : m < b := by
 unfold relab at h
 split at h
 ·rename_i c; exact c.2.1
 ·exact hl h
def grown (L : Nat -> Nat) (Q : Nat -> Prop) (a k n : Nat) : Prop := L n = k \/ (L n = 0 /\ (Q n \/ a <= n))
theorem XAt.addMsg {Q L h r o R out g f ma ca aa} (ra : RAt L h r R g f) (oa : OAt L h o out ma ca aa) (lt : ∀ m, L m ≠ 0 -> m < h.length) {m : Msg} {e d : AV} {h1 : AHeap} (hx : Ext nof h h1) (he : Own (dEntries m.es) Q h e) (hd : Own (dBytes m.data) Q h d)
  (hQ : ∀ n, Q n -> L n = 0) (hb : (out.msgs.length + 1) * 168 <= 2 ^ 46) :
  ∃ ma' h2, aappendY h1 17 168 ma [m.cells e d] = some (ma', h2) /\ ma'.scalar = true /\ Ext (fun n => L n = 3) h1 h2 /\ h2[o]? = some (some (.arr 5 [[ma, ca, aa, .int .i64 out.first, .bool out.restore]] false)) /\
   XTo wO Q L h r o ⟨R, { out with msgs := out.msgs ++ [m] }⟩ (h2.set o (some (.arr 5 [[ma', ca, aa, .int .i64 out.first, .bool out.restore]] false))) := by
 have hi : OwnLL [m.c] (fun n => Q n /\ n < h.length) h1 [m.cells e d] := by
  refine OwnLL.mono [m.c] (fun _ y => y) (fun n hn y hy => hx.get hy) _ ?_
  refine OwnLL.lt [m.c] _ ?_
  simp only [OwnLL, OwnL, Own, Msg.c, Msg.cells]
  exact ⟨_, _, rfl, ⟨_, _, rfl, rfl, _, _, rfl, rfl, _, _, rfl, rfl, _, _, rfl, rfl, _, _, rfl, rfl, _, _, rfl, rfl, _, _, rfl, rfl, _, _, rfl, rfl, _, _, rfl, rfl, _, _, rfl, rfl, _, _, rfl, rfl, _, _, rfl, rfl, _, _, rfl, rfl, _, _, rfl, rfl, _, _, rfl, rfl, _, _, rfl, he, _, _, rfl, hd, rfl⟩, rfl⟩
 have ge : ∀ n, h.length <= n -> L n = 0 := fun n hn => Classical.byContradiction fun z => by have := lt n z; omega
 have oa1 := oa.keep (h' := h1) (fun _ _ _ => rfl) (fun n hn _ => hx.2 n hn (fun y => y))
 obtain ⟨ma', h2, s1, s2, s3, s4⟩ := own_appQ (sz := 17) (bytes := 168) (F := grown L Q h.length 3) (ds := out.msgs.map Msg.c) (es := [m.c]) oa.m oa.mc hx hi
  (fun n hn => ⟨.inr ⟨hQ n hn.1, .inl hn.1⟩, by rw [hQ n hn.1]; omega⟩) (fun n hn => .inl hn) (fun n hn => .inr ⟨ge n hn, .inr hn⟩) (by simpa using hb)
 have ob := (List.getElem?_eq_some_iff.1 oa1.row).1
 have st : ∀ n, n < h.length -> L n ≠ 3 -> n ≠ o -> (h2.set o (some (.arr 5 [[ma', ca, aa, .int .i64 out.first, .bool out.restore]] false)))[n]? = h[n]? := fun n hn h3 ho =>
  (List.getElem?_set_ne (fun e => ho e.symm)).trans ((s4.2 n (Nat.lt_of_lt_of_le hn hx.1) h3).trans (hx.2 n hn (fun y => y)))
 have ol : o < h.length := (List.getElem?_eq_some_iff.1 oa.row).1
 have ol2 : o < h2.length := by have := s4.1; omega
 have nl : ∀ n, L n ≠ 0 -> L n ≠ 7 -> n ≠ o := fun n _ h7 e => h7 (e ▸ oa.lo)
 have s2l := Own.lt _ _ s2
 have km : Keep (fun n => grown L Q h.length 3 n /\ n < h2.length) h2 (h2.set o (some (.arr 5 [[ma', ca, aa, .int .i64 out.first, .bool out.restore]] false))) := fun n hn y hy =>
  (List.getElem?_set_ne (by rintro rfl; have := oa.lo; rcases hn.1 with z | ⟨z, -⟩ <;> omega)).trans hy
 have tm : ∀ n, grown L Q h.length 3 n /\ n < h2.length -> relab L Q h.length h2.length 3 n = 3 := by
  rintro n ⟨z | ⟨z, z'⟩, hn⟩
  ·rw [relab_old (.inl (by omega))]; exact z
  ·exact relab_new z hn z'
 have cl := Own.lt _ _ oa.c
 have al := Own.lt _ _ oa.a
 have kc : Keep (fun n => L n = 4 /\ n < h.length) h (h2.set o (some (.arr 5 [[ma', ca, aa, .int .i64 out.first, .bool out.restore]] false))) := fun n hn y hy => (st n hn.2 (by omega) (nl n (by omega) (by omega))).trans hy
 have ka : Keep (fun n => L n = 5 /\ n < h.length) h (h2.set o (some (.arr 5 [[ma', ca, aa, .int .i64 out.first, .bool out.restore]] false))) := fun n hn y hy => (st n hn.2 (by omega) (nl n (by omega) (by omega))).trans hy
 refine ⟨ma', h2, s1, s2.scalar, s4, (s4.2 o ob (fun (z : L o = 3) => by rw [oa.lo] at z; omega)).trans oa1.row, relab L Q h.length h2.length 3, ⟨⟨g, f, ra.keep (fun n _ hn => relab_old (.inl hn)) fun n hn c => st n hn (by omega) (nl n (by omega) (by omega))⟩, ⟨ma', ca, aa, List.getElem?_set_self ol2, ?_, ?_, ?_, ?_, ?_, ?_⟩, fun n hn => by rw [List.length_set]; exact relab_lt (fun z => by have := lt n z; have := hx.1; have := s4.1; omega) hn⟩, fun n hn c => relab_old ?_, ?_⟩
 ·show Own (.sl 17 ((out.msgs ++ [m]).map Msg.c)) _ _ _
  rw [show (out.msgs ++ [m]).map Msg.c = out.msgs.map Msg.c ++ [m.c] by simp]
  exact Own.mono _ tm km _ s2l
 ·exact s3.keep s2l km
 ·exact Own.mono _ (fun n hn => by rw [relab_old (.inl (by omega))]; exact hn.1) kc _ cl
 ·exact oa.cc.keep cl kc
 ·exact Own.mono _ (fun n hn => by rw [relab_old (.inl (by omega))]; exact hn.1) ka _ al
 ·rw [relab_old (.inl (by rw [oa.lo]; omega))]; exact oa.lo
 ·exact c.imp id fun z => ⟨z, hn⟩
 ·refine (hx.trans s4 (F'' := fun m => wO (L m) \/ Q m) (fun _ _ y => y.elim) (fun n _ (y : L n = 3) => .inl (.inl y))).trans (Ext.set (F := fun m => m = o) _ (fun _ => rfl)) (fun _ _ y => y) (fun n _ y => .inl (by rw [y, oa.lo]; exact .inr (.inr (.inr rfl))))
theorem XAt.addChg {Q L h r o R out g f ma ca aa} (ra : RAt L h r R g f) (oa : OAt L h o out ma ca aa) (lt : ∀ m, L m ≠ 0 -> m < h.length) {m : Change} {e co cn ce sn : AV} {h1 : AHeap} (hx : Ext nof h h1) (he : Own (dEntries m.log.es) Q h e) (h2' : Own (dInts m.conf.old) Q h co) (h3' : Own (dInts m.conf.new) Q h cn) (h4' : Own (dInts m.conf.learners) Q h ce) (hd : Own (dBytes m.snap) Q h sn)
  (hQ : ∀ n, Q n -> L n = 0) (hb : (out.changes.length + 1) * 216 <= 2 ^ 46) :
  ∃ ca' h2, aappendY h1 17 216 ca [m.cells e co cn ce sn] = some (ca', h2) /\ ca'.scalar = true /\ Ext (fun n => L n = 4) h1 h2 /\ h2[o]? = some (some (.arr 5 [[ma, ca, aa, .int .i64 out.first, .bool out.restore]] false)) /\
   XTo wO Q L h r o ⟨R, { out with changes := out.changes ++ [m] }⟩ (h2.set o (some (.arr 5 [[ma, ca', aa, .int .i64 out.first, .bool out.restore]] false))) := by
 have hi : OwnLL [m.c] (fun n => Q n /\ n < h.length) h1 [m.cells e co cn ce sn] := by
  refine OwnLL.mono [m.c] (fun _ y => y) (fun n hn y hy => hx.get hy) _ ?_
  refine OwnLL.lt [m.c] _ ?_
  simp only [OwnLL, OwnL, Own, Change.c, Change.cells]
  exact ⟨_, _, rfl, ⟨_, _, rfl, rfl, _, _, rfl, rfl, _, _, rfl, rfl, _, _, rfl, rfl, _, _, rfl, rfl, _, _, rfl, rfl, _, _, rfl, rfl, _, _, rfl, he, _, _, rfl, h2', _, _, rfl, h3', _, _, rfl, h4', _, _, rfl, hd, _, _, rfl, rfl, _, _, rfl, rfl, _, _, rfl, rfl, _, _, rfl, rfl, _, _, rfl, rfl, rfl⟩, rfl⟩
 have ge : ∀ n, h.length <= n -> L n = 0 := fun n hn => Classical.byContradiction fun z => by have := lt n z; omega
 have oa1 := oa.keep (h' := h1) (fun _ _ _ => rfl) (fun n hn _ => hx.2 n hn (fun y => y))
 obtain ⟨ca', h2, s1, s2, s3, s4⟩ := own_appQ (sz := 17) (bytes := 216) (F := grown L Q h.length 4) (ds := out.changes.map Change.c) (es := [m.c]) oa.c oa.cc hx hi
  (fun n hn => ⟨.inr ⟨hQ n hn.1, .inl hn.1⟩, by rw [hQ n hn.1]; omega⟩) (fun n hn => .inl hn) (fun n hn => .inr ⟨ge n hn, .inr hn⟩) (by simpa using hb)
 have ob := (List.getElem?_eq_some_iff.1 oa1.row).1
 have st : ∀ n, n < h.length -> L n ≠ 4 -> n ≠ o -> (h2.set o (some (.arr 5 [[ma, ca', aa, .int .i64 out.first, .bool out.restore]] false)))[n]? = h[n]? := fun n hn h3 ho =>
  (List.getElem?_set_ne (fun e => ho e.symm)).trans ((s4.2 n (Nat.lt_of_lt_of_le hn hx.1) h3).trans (hx.2 n hn (fun y => y)))
 have ol : o < h.length := (List.getElem?_eq_some_iff.1 oa.row).1
 have ol2 : o < h2.length := by have := s4.1; omega
 have nl : ∀ n, L n ≠ 0 -> L n ≠ 7 -> n ≠ o := fun n _ h7 e => h7 (e ▸ oa.lo)
 have s2l := Own.lt _ _ s2
 have km : Keep (fun n => grown L Q h.length 4 n /\ n < h2.length) h2 (h2.set o (some (.arr 5 [[ma, ca', aa, .int .i64 out.first, .bool out.restore]] false))) := fun n hn y hy =>
  (List.getElem?_set_ne (by rintro rfl; have := oa.lo; rcases hn.1 with z | ⟨z, -⟩ <;> omega)).trans hy
 have tm : ∀ n, grown L Q h.length 4 n /\ n < h2.length -> relab L Q h.length h2.length 4 n = 4 := by
  rintro n ⟨z | ⟨z, z'⟩, hn⟩
  ·rw [relab_old (.inl (by omega))]; exact z
  ·exact relab_new z hn z'
 have cl := Own.lt _ _ oa.m
 have al := Own.lt _ _ oa.a
 have kc : Keep (fun n => L n = 3 /\ n < h.length) h (h2.set o (some (.arr 5 [[ma, ca', aa, .int .i64 out.first, .bool out.restore]] false))) := fun n hn y hy => (st n hn.2 (by omega) (nl n (by omega) (by omega))).trans hy
 have ka : Keep (fun n => L n = 5 /\ n < h.length) h (h2.set o (some (.arr 5 [[ma, ca', aa, .int .i64 out.first, .bool out.restore]] false))) := fun n hn y hy => (st n hn.2 (by omega) (nl n (by omega) (by omega))).trans hy
 refine ⟨ca', h2, s1, s2.scalar, s4, (s4.2 o ob (fun (z : L o = 4) => by rw [oa.lo] at z; omega)).trans oa1.row, relab L Q h.length h2.length 4, ⟨⟨g, f, ra.keep (fun n _ hn => relab_old (.inl hn)) fun n hn c => st n hn (by omega) (nl n (by omega) (by omega))⟩, ⟨ma, ca', aa, List.getElem?_set_self ol2, ?_, ?_, ?_, ?_, ?_, ?_⟩, fun n hn => by rw [List.length_set]; exact relab_lt (fun z => by have := lt n z; have := hx.1; have := s4.1; omega) hn⟩, fun n hn c => relab_old ?_, ?_⟩
 ·exact Own.mono _ (fun n hn => by rw [relab_old (.inl (by omega))]; exact hn.1) kc _ cl
 ·exact oa.mc.keep cl kc
 ·show Own (.sl 17 ((out.changes ++ [m]).map Change.c)) _ _ _
  rw [show (out.changes ++ [m]).map Change.c = out.changes.map Change.c ++ [m.c] by simp]
  exact Own.mono _ tm km _ s2l
 ·exact s3.keep s2l km
 ·exact Own.mono _ (fun n hn => by rw [relab_old (.inl (by omega))]; exact hn.1) ka _ al
 ·rw [relab_old (.inl (by rw [oa.lo]; omega))]; exact oa.lo
 ·exact c.imp id fun z => ⟨z, hn⟩
 ·refine (hx.trans s4 (F'' := fun m => wO (L m) \/ Q m) (fun _ _ y => y.elim) (fun n _ (y : L n = 4) => .inl (.inr (.inl y)))).trans (Ext.set (F := fun m => m = o) _ (fun _ => rfl)) (fun _ _ y => y) (fun n _ y => .inl (by rw [y, oa.lo]; exact .inr (.inr (.inr rfl))))
end Glb
namespace Glb
open Go
open Nat (reduceAdd reduceDiv reduceEqDiff reduceLeDiff reduceMod reducePow)
set_option maxRecDepth 10000
set_option maxHeartbeats 8000000
def SendOk (P : Program) (f : FuncId) : Prop := isFn P f = true /\ ∀ (Q : Nat -> Prop) (L : Nat -> Nat) (h : AHeap) (r o : Nat) (x : RX) (m : Msg) (e d : AV), XAt L h r o x -> Own (dEntries m.es) Q h e -> Own (dBytes m.data) Q h d -> (∀ n, Q n -> L n = 0) -> (x.o.msgs.length + 1) * 168 <= 2 ^ 46 ->
 ACalls P f [.agg [.ptr r 21 0 0, .ptr o 5 0 0], .agg (m.cells e d)] h fun _ h' => XTo wO Q L h r o (x.send m) h'
theorem send_ok {P : Program} {f : FuncId} (hf : Is P f c_raft_call_send) : SendOk P f := by
 refine ⟨hf.2, fun Q L h r o x m e d hx he hd hQ hb => fun_sound hf.1 (Nat.le_of_ble_eq_true rfl) ?_⟩
 show vc P c_raft_call_send.code ⟨[(0, .agg [.ptr r 21 0 0, .ptr o 5 0 0]), (1, .agg (m.cells e d))], [], h⟩ (atEnd c_raft_call_send.res _)
 obtain ⟨R, out⟩ := x
 obtain ⟨⟨g, f', ra⟩, ⟨ma, ca, aa, oa⟩, lt⟩ := hx
 have rr := ra.row
 have orow := oa.row
 have lr := (List.getElem?_eq_some_iff.1 rr).1
 have lo := (List.getElem?_eq_some_iff.1 orow).1
 simp only [Raft.row] at rr
 have R2 : ∀ a b, (h ++ [a] ++ [b])[r]? = _ := fun a b => (Ext.b2 a b).get rr
 have O2 : ∀ a b, (h ++ [a] ++ [b])[o]? = _ := fun a b => (Ext.b2 a b).get orow
 have O3 : ∀ a b c, (h ++ [a] ++ [b] ++ [c])[o]? = _ := fun a b c => (Ext.b3 a b c).get orow
 simp only [c_raft_call_send, Msg.cells, go_sem, reduceEqDiff, reduceAdd, reduceLeDiff, reducePow, reduceDiv, reduceMod, decide_true, he.scalar, hd.scalar, R2, O3]
 refine ⟨notRes_lt (by omega), ?_⟩
 have l2 : (h ++ [some (ABlk.arr 2 [[.ptr r 21 0 0, .ptr o 5 0 0]] false)] ++ [some (ABlk.arr 17 [[.int .i64 m.kind, .int .i64 R.id, .int .i64 m.to, .int .i64 R.hard.group, .int .i64 R.hard.term, .int .i64 m.index, .int .i64 m.prev, .int .i64 m.commit, .int .i64 m.round, .int .i64 m.txn, .int .i64 m.part, .int .i64 m.ballot, .int .i64 m.value, .int .i64 m.seq, .bool m.ok, e, d]] false)]).length = h.length + 2 := by simp
 have ae := aelems_new (h ++ [some (ABlk.arr 2 [[.ptr r 21 0 0, .ptr o 5 0 0]] false)] ++ [some (ABlk.arr 17 [[.int .i64 m.kind, .int .i64 R.id, .int .i64 m.to, .int .i64 R.hard.group, .int .i64 R.hard.term, .int .i64 m.index, .int .i64 m.prev, .int .i64 m.commit, .int .i64 m.round, .int .i64 m.txn, .int .i64 m.part, .int .i64 m.ballot, .int .i64 m.value, .int .i64 m.seq, .bool m.ok, e, d]] false)]) 17 [[.int .i64 m.kind, .int .i64 R.id, .int .i64 m.to, .int .i64 R.hard.group, .int .i64 R.hard.term, .int .i64 m.index, .int .i64 m.prev, .int .i64 m.commit, .int .i64 m.round, .int .i64 m.txn, .int .i64 m.part, .int .i64 m.ballot, .int .i64 m.value, .int .i64 m.seq, .bool m.ok, e, d]] false (some 1) (len := 1) rfl
 have X3 := Ext.b3 (h := h) (some (ABlk.arr 2 [[.ptr r 21 0 0, .ptr o 5 0 0]] false)) (some (ABlk.arr 17 [[.int .i64 m.kind, .int .i64 R.id, .int .i64 m.to, .int .i64 R.hard.group, .int .i64 R.hard.term, .int .i64 m.index, .int .i64 m.prev, .int .i64 m.commit, .int .i64 m.round, .int .i64 m.txn, .int .i64 m.part, .int .i64 m.ballot, .int .i64 m.value, .int .i64 m.seq, .bool m.ok, e, d]] false)) (some (ABlk.arr 17 [[.int .i64 m.kind, .int .i64 R.id, .int .i64 m.to, .int .i64 R.hard.group, .int .i64 R.hard.term, .int .i64 m.index, .int .i64 m.prev, .int .i64 m.commit, .int .i64 m.round, .int .i64 m.txn, .int .i64 m.part, .int .i64 m.ballot, .int .i64 m.value, .int .i64 m.seq, .bool m.ok, e, d]] false))
 obtain ⟨ma', h2, s1, s2, s3, s4, s5⟩ := XAt.addMsg ra oa lt (m := { m with from_ := R.id, group := R.hard.group, term := R.hard.term }) X3 he hd hQ hb
 simp only [Msg.cells] at s1
 rw [<- aappend_of ae, l2] at s1
 rw [s1]
 have l3 : o < h2.length := (List.getElem?_eq_some_iff.1 s4).1
 have ge : ∀ n, h.length <= n -> L n = 0 := fun n hn => Classical.byContradiction fun z => by have := lt n z; omega
 have C0 := (s3.2 h.length (by simp) (fun (z : L _ = 3) => by rw [ge _ (Nat.le_refl _)] at z; omega)).trans (bx30 h _ _ _)
 have C1 := (s3.2 (h.length + 1) (by simp) (fun (z : L _ = 3) => by rw [ge _ (by omega)] at z; omega)).trans (bx31 h _ _ _)
 simp only [go_sem, reduceEqDiff, reduceAdd, reduceLeDiff, reducePow, reduceDiv, reduceMod, decide_true, s2, cells_of s2, s4, l3, C0, C1]
 exact s5
def TellOk (P : Program) (f : FuncId) : Prop := isFn P f = true /\ ∀ (Q : Nat -> Prop) (L : Nat -> Nat) (h : AHeap) (r o : Nat) (x : RX) (m : Change) (e co cn ce sn : AV), XAt L h r o x -> Own (dEntries m.log.es) Q h e -> Own (dInts m.conf.old) Q h co -> Own (dInts m.conf.new) Q h cn -> Own (dInts m.conf.learners) Q h ce -> Own (dBytes m.snap) Q h sn ->
 (∀ n, Q n -> L n = 0) -> (x.o.changes.length + 1) * 216 <= 2 ^ 46 -> ACalls P f [.agg [.ptr r 21 0 0, .ptr o 5 0 0], .agg (m.cells e co cn ce sn)] h fun _ h' => XTo wO Q L h r o (x.tell m) h'
theorem tell_ok {P : Program} {f : FuncId} (hf : Is P f c_raft_call_tell) : TellOk P f := by
 refine ⟨hf.2, fun Q L h r o x m e co cn ce sn hx he h2' h3' h4' hd hQ hb => fun_sound hf.1 (Nat.le_of_ble_eq_true rfl) ?_⟩
 show vc P c_raft_call_tell.code ⟨[(0, .agg [.ptr r 21 0 0, .ptr o 5 0 0]), (1, .agg (m.cells e co cn ce sn))], [], h⟩ (atEnd c_raft_call_tell.res _)
 obtain ⟨R, out⟩ := x
 obtain ⟨⟨g, f', ra⟩, ⟨ma, ca, aa, oa⟩, lt⟩ := hx
 have rr := ra.row
 have orow := oa.row
 have lr := (List.getElem?_eq_some_iff.1 rr).1
 have lo := (List.getElem?_eq_some_iff.1 orow).1
 simp only [Raft.row] at rr
 have R2 : ∀ a b, (h ++ [a] ++ [b])[r]? = _ := fun a b => (Ext.b2 a b).get rr
 have O2 : ∀ a b, (h ++ [a] ++ [b])[o]? = _ := fun a b => (Ext.b2 a b).get orow
 have O3 : ∀ a b c, (h ++ [a] ++ [b] ++ [c])[o]? = _ := fun a b c => (Ext.b3 a b c).get orow
 simp only [c_raft_call_tell, Change.cells, go_sem, reduceEqDiff, reduceAdd, reduceLeDiff, reducePow, reduceDiv, reduceMod, decide_true, he.scalar, h2'.scalar, h3'.scalar, h4'.scalar, hd.scalar, R2, O3]
 refine ⟨notRes_lt (by omega), ?_⟩
 have l2 : (h ++ [some (ABlk.arr 2 [[.ptr r 21 0 0, .ptr o 5 0 0]] false)] ++ [some (ABlk.arr 17 [[.int .i64 m.kind, .int .i64 R.hard.group, .int .i64 m.term, .int .i64 m.voted, .int .i64 m.from_, .int .i64 m.log.base, .int .i64 m.log.bterm, e, co, cn, ce, sn, .int .i64 m.vote.txn, .int .i64 m.vote.part, .int .i64 m.vote.promised, .int .i64 m.vote.ballot, .int .i64 m.vote.value]] false)]).length = h.length + 2 := by simp
 have ae := aelems_new (h ++ [some (ABlk.arr 2 [[.ptr r 21 0 0, .ptr o 5 0 0]] false)] ++ [some (ABlk.arr 17 [[.int .i64 m.kind, .int .i64 R.hard.group, .int .i64 m.term, .int .i64 m.voted, .int .i64 m.from_, .int .i64 m.log.base, .int .i64 m.log.bterm, e, co, cn, ce, sn, .int .i64 m.vote.txn, .int .i64 m.vote.part, .int .i64 m.vote.promised, .int .i64 m.vote.ballot, .int .i64 m.vote.value]] false)]) 17 [[.int .i64 m.kind, .int .i64 R.hard.group, .int .i64 m.term, .int .i64 m.voted, .int .i64 m.from_, .int .i64 m.log.base, .int .i64 m.log.bterm, e, co, cn, ce, sn, .int .i64 m.vote.txn, .int .i64 m.vote.part, .int .i64 m.vote.promised, .int .i64 m.vote.ballot, .int .i64 m.vote.value]] false (some 1) (len := 1) rfl
 have X3 := Ext.b3 (h := h) (some (ABlk.arr 2 [[.ptr r 21 0 0, .ptr o 5 0 0]] false)) (some (ABlk.arr 17 [[.int .i64 m.kind, .int .i64 R.hard.group, .int .i64 m.term, .int .i64 m.voted, .int .i64 m.from_, .int .i64 m.log.base, .int .i64 m.log.bterm, e, co, cn, ce, sn, .int .i64 m.vote.txn, .int .i64 m.vote.part, .int .i64 m.vote.promised, .int .i64 m.vote.ballot, .int .i64 m.vote.value]] false)) (some (ABlk.arr 17 [[.int .i64 m.kind, .int .i64 R.hard.group, .int .i64 m.term, .int .i64 m.voted, .int .i64 m.from_, .int .i64 m.log.base, .int .i64 m.log.bterm, e, co, cn, ce, sn, .int .i64 m.vote.txn, .int .i64 m.vote.part, .int .i64 m.vote.promised, .int .i64 m.vote.ballot, .int .i64 m.vote.value]] false))
 obtain ⟨ca', h2, s1, s2, s3, s4, s5⟩ := XAt.addChg ra oa lt (m := { m with group := R.hard.group }) X3 he h2' h3' h4' hd hQ hb
 simp only [Change.cells] at s1
 rw [<- aappend_of ae, l2] at s1
 rw [s1]
 have l3 : o < h2.length := (List.getElem?_eq_some_iff.1 s4).1
 have ge : ∀ n, h.length <= n -> L n = 0 := fun n hn => Classical.byContradiction fun z => by have := lt n z; omega
 have C0 := (s3.2 h.length (by simp) (fun (z : L _ = 4) => by rw [ge _ (Nat.le_refl _)] at z; omega)).trans (bx30 h _ _ _)
 have C1 := (s3.2 (h.length + 1) (by simp) (fun (z : L _ = 4) => by rw [ge _ (by omega)] at z; omega)).trans (bx31 h _ _ _)
 simp only [go_sem, reduceEqDiff, reduceAdd, reduceLeDiff, reducePow, reduceDiv, reduceMod, decide_true, s2, cells_of s2, s4, l3, C0, C1]
 exact s5
def RowR (h : AHeap) (r : Nat) (x : Raft) : Prop := ∃ g f, h[r]? = some (some (.arr 21 [x.row g f] false))
theorem XAt.rowR {L h r o x} (a : XAt L h r o x) : RowR h r x.r := let ⟨g, f, ra⟩ := a.r; ⟨g, f, ra.row⟩
theorem OfOk.p {P : Program} {f : FuncId} (hc : OfOk P f) : OfP P f := ⟨hc.1, fun G h x ags ha hR => (hc.2 G h x ags ha hR).freeze fun _ _ ⟨_, h1, h2, h3⟩ => ⟨h3, _, h1 ▸ Frz.tup2 (Frz.aggD (OwnL.fz _ (fun _ x => x) _ h2)) (Frz.int _ _), rfl⟩⟩
theorem rd_hardv' (x : Hard) (h : AHeap) : RdL nof h x.c [.int .i64 x.group, .int .i64 x.term, .int .i64 x.vote, .int .i64 x.log.base, .int .i64 x.log.bterm, aentries x.log.es, aints x.conf.old, aints x.conf.new, aints x.conf.learners, abytes x.snap] := by
 rw [<- Hard.v_eq]; exact rd_hardv nof h x
theorem rd_logv' (x : Log) (h : AHeap) : RdL nof h x.c [.int .i64 x.base, .int .i64 x.bterm, aentries x.es] := by
 rw [<- Log.v_eq]; exact rd_logv nof h x
theorem rd_confv' (x : Conf) (h : AHeap) : RdL nof h x.c [aints x.old, aints x.new, aints x.learners] := by
 rw [<- Conf.v_eq]; exact rd_confv nof h x
attribute [go_sem] scalar_aentries scalar_aints scalar_abytes
def NowOk (P : Program) (f : FuncId) : Prop := isFn P f = true /\ ∀ (h : AHeap) (r : Nat) (x : Raft), RowR h r x -> x.hard.ofR -> ACalls P f [.ptr r 21 0 0] h fun res h' => res = .agg x.now.v /\ h' = h
def RLastOk (P : Program) (f : FuncId) : Prop := isFn P f = true /\ ∀ (h : AHeap) (r : Nat) (x : Raft), RowR h r x -> LogOk x.hard.log -> ACalls P f [.ptr r 21 0 0] h fun res h' => res = .int .i64 x.last /\ h' = h
def VoterOk (P : Program) (f : FuncId) : Prop := isFn P f = true /\ ∀ (h : AHeap) (r : Nat) (x : Raft) (n : Int), RowR h r x -> x.hard.ofR -> x.now.few (2^30) -> ACalls P f [.ptr r 21 0 0, .int .i64 n] h fun res h' => res = .bool (x.voter n) /\ h' = h
def BeginOk (P : Program) (f : FuncId) : Prop := isFn P f = true /\ ∀ (h : AHeap) (r o : Nat), ACalls P f [.ptr r 21 0 0, .ptr o 5 0 0] h fun res h' => res = .agg [.ptr r 21 0 0, .ptr o 5 0 0] /\ Ext nof h h'
theorem now_ok {P : Program} {f g : FuncId} (hf : Is P f (c_raft_Raft_now g)) (hg : OfP P g) : NowOk P f := by
 refine ⟨hf.2, fun h r x hr hR => ACalls.freeze (K := fun res h' => res = .agg x.now.v /\ Ext nof h h') (fun_sound hf.1 (Nat.le_of_ble_eq_true rfl) ?_) (fun r _ ⟨e, hx⟩ => ⟨hx, r, by rw [e]; exact Frz.aggD (fzL_self _ _ _), e⟩)⟩
 show vc P (c_raft_Raft_now g).code ⟨[(0, .ptr r 21 0 0)], [], h⟩ (atEnd (c_raft_Raft_now g).res _)
 obtain ⟨gg, ff, rr⟩ := hr
 have lr := (List.getElem?_eq_some_iff.1 rr).1
 simp only [Raft.row] at rr
 have R1 : ∀ a, (h ++ [a])[r]? = _ := fun a => (Ext.b1 a).get rr
 have cof := fun H => hg.2 nof H x.hard _ (rd_hardv' x.hard H) hR
 simp only [Conf.v_eq] at cof
 simp only [c_raft_Raft_now, go_sem, reduceEqDiff, reduceAdd, reduceLeDiff, R1]
 refine use1 hg.1 (cof _) ?_
 simp only [go_sem, reduceEqDiff, reduceAdd, reduceLeDiff]
 exact ⟨by unfold Raft.now; rw [Conf.v_eq], Ext.b2 _ _⟩
theorem last17_ok {P : Program} {f g : FuncId} (hf : Is P f (c_raft_Raft_last g)) (hg : LastOk P g) : RLastOk P f := by
 refine ⟨hf.2, fun h r x hr hl => fun_sound hf.1 (Nat.le_of_ble_eq_true rfl) ?_⟩
 show vc P (c_raft_Raft_last g).code ⟨[(0, .ptr r 21 0 0)], [], h⟩ (atEnd (c_raft_Raft_last g).res _)
 obtain ⟨gg, ff, rr⟩ := hr
 simp only [Raft.row] at rr
 simp only [c_raft_Raft_last, go_sem, reduceEqDiff, reduceAdd, reduceLeDiff, rr]
 refine use1 hg.1 (hg.2 nof h x.hard.log _ (rd_logv' x.hard.log h) hl) ?_
 simp only [go_sem, reduceEqDiff]
 rfl
theorem voter_ok {P : Program} {f g v c : FuncId} (hf : Is P f (c_raft_Raft_voter g v c)) (hg : NowOk P g) (hv : ListOk P v Conf.voters) (hc : HasOk P c) : VoterOk P f := by
 refine ⟨hf.2, fun h r x n hr hR hfew => ACalls.freeze (K := fun res h' => res = .bool (x.voter n) /\ Ext nof h h') (fun_sound hf.1 (Nat.le_of_ble_eq_true rfl) ?_) (fun r _ ⟨e, hx⟩ => ⟨hx, r, by rw [e]; exact Frz.bool _, e⟩)⟩
 show vc P (c_raft_Raft_voter g v c).code ⟨[(0, .ptr r 21 0 0), (1, .int .i64 n)], [], h⟩ (atEnd (c_raft_Raft_voter g v c).res _)
 simp only [c_raft_Raft_voter, go_sem, reduceEqDiff]
 refine use1 hg.1 (hg.2 h r x hr hR) ?_
 simp only [go_sem, reduceEqDiff]
 refine wCall_use ⟨hv.1, hv.2 nof h x.now _ (rd_confv nof h x.now) ⟨by have := hfew.1; omega, by have := hfew.2.1; omega, by have := hfew.2.2; omega⟩⟩ ?_
 rintro w H ⟨ow, hx⟩
 simp only [go_sem, reduceEqDiff]
 have vl : x.now.voters.length <= 2^40 := by have u := uni_length (x.now.old ++ x.now.new); simp only [List.length_append] at u; have := hfew.1; have := hfew.2.1; simp only [Conf.voters]; omega
 refine use1 hc.1 (hc.2 (fun _ => True) H _ w n (Own.rd _ (fun _ _ => trivial) _ ow) vl) ?_
 simp only [go_sem, reduceEqDiff]
 exact ⟨rfl, hx⟩
theorem begin_ok {P : Program} {f : FuncId} (hf : Is P f c_raft_Raft_begin) : BeginOk P f := by
 refine ⟨hf.2, fun h r o => fun_sound hf.1 (Nat.le_of_ble_eq_true rfl) ?_⟩
 show vc P c_raft_Raft_begin.code ⟨[(0, .ptr r 21 0 0), (1, .ptr o 5 0 0)], [], h⟩ (atEnd c_raft_Raft_begin.res _)
 simp only [c_raft_Raft_begin, go_sem, reduceEqDiff, reduceAdd, reduceLeDiff]
 exact Ext.b1 _
def FollowOk (P : Program) (f : FuncId) : Prop := isFn P f = true /\ ∀ (L : Nat -> Nat) (h : AHeap) (r o : Nat) (x : RX) (l : Int), XAt L h r o x -> ACalls P f [.ptr r 21 0 0, .int .i64 l] h fun _ h' => XTo wA nof L h r o (x.follow l) h'
theorem follow_ok {P : Program} {f : FuncId} (hf : Is P f c_raft_Raft_follow) : FollowOk P f := by
 refine ⟨hf.2, fun L h r o x l hx => fun_sound hf.1 (Nat.le_of_ble_eq_true rfl) ?_⟩
 show vc P c_raft_Raft_follow.code ⟨[(0, .ptr r 21 0 0), (1, .int .i64 l)], [], h⟩ (atEnd c_raft_Raft_follow.res _)
 obtain ⟨R, out⟩ := x
 obtain ⟨⟨g, f', ra⟩, ⟨ma, ca, aa, oa⟩, lt⟩ := hx
 have rr := ra.row
 have lr := (List.getElem?_eq_some_iff.1 rr).1
 simp only [Raft.row] at rr
 simp only [c_raft_Raft_follow, go_sem, reduceEqDiff, reduceAdd, reduceLeDiff, rr, lr, List.set_set]
 exact XAt.setR0 (R' := R.follow l) ra oa lt rfl rfl
def TermSOk (P : Program) (f : FuncId) : Prop := isFn P f = true /\ ∀ (L : Nat -> Nat) (h : AHeap) (r o : Nat) (x : RX) (t v : Int), XAt L h r o x -> (x.o.changes.length + 1) * 216 <= 2 ^ 46 -> ACalls P f [.agg [.ptr r 21 0 0, .ptr o 5 0 0], .int .i64 t, .int .i64 v] h fun _ h' => XTo wA nof L h r o (x.term t v) h'
theorem term17_ok {P : Program} {f g : FuncId} (hf : Is P f (c_raft_call_term g)) (hg : TellOk P g) : TermSOk P f := by
 refine ⟨hf.2, fun L h r o x t v hx hb => fun_sound hf.1 (Nat.le_of_ble_eq_true rfl) ?_⟩
 show vc P (c_raft_call_term g).code ⟨[(0, .agg [.ptr r 21 0 0, .ptr o 5 0 0]), (1, .int .i64 t), (2, .int .i64 v)], [], h⟩ (atEnd (c_raft_call_term g).res _)
 obtain ⟨R, out⟩ := x
 have hx1 := hx.up (Ext.b1 (some (ABlk.arr 2 [[.ptr r 21 0 0, .ptr o 5 0 0]] false)))
 obtain ⟨⟨g', f', ra⟩, ⟨ma, ca, aa, oa⟩, lt⟩ := hx1
 have lt0 := hx.lt
 have rr := ra.row
 have lr := (List.getElem?_eq_some_iff.1 rr).1
 have B0 := bx10 h (some (ABlk.arr 2 [[.ptr r 21 0 0, .ptr o 5 0 0]] false))
 have lrh : r < h.length := lt0 r (by rw [ra.lr]; omega)
 have ne : ¬ r = h.length := by omega
 have X1 := Ext.b1 (h := h) (some (ABlk.arr 2 [[.ptr r 21 0 0, .ptr o 5 0 0]] false))
 simp only [Raft.row] at rr
 have lr1 : r < h.length + 1 := by omega
 simp only [c_raft_call_term, go_sem, reduceEqDiff, reduceAdd, reduceLeDiff, reducePow, reduceDiv, reduceMod, decide_true, rr, lr1, ne, B0, List.length_set, List.set_set]
 have T : XTo wA nof L (h ++ [some (ABlk.arr 2 [[.ptr r 21 0 0, .ptr o 5 0 0]] false)]) r o ⟨{ R with hard := { R.hard with term := t, vote := v } }, out⟩ _ := XAt.setR (R' := { R with hard := { R.hard with term := t, vote := v } }) ra oa lt rfl rfl
 simp only [Raft.row] at T
 refine wCall_use ⟨hg.1, XTo.call0 T (fun _ _ y => y) fun L1 x1 => (hg.2 nof L1 _ r o _ { Change.zero with kind := 1, term := t, voted := v } .nils .nils .nils .nils .nils x1 (Own.nils 3) (Own.nils 1) (Own.nils 1) (Own.nils 1) (Own.nils 1) (fun _ y => y.elim) hb).mono fun _ _ b => b.weakW wO_wA⟩ ?_
 intro _ h' b
 simp only [go_sem]
 exact XTo.from X1 b
def ToOk (P : Program) (f : FuncId) : Prop := isFn P f = true /\ ∀ (L : Nat -> Nat) (h : AHeap) (r o : Nat) (x : RX) (w : Flow), XAt L h r o x -> w.placed -> x.r.hard.fit -> (x.o.msgs.length + 1) * 168 <= 2 ^ 46 ->
 ACalls P f [.agg [.ptr r 21 0 0, .ptr o 5 0 0], .agg w.cells] h fun _ h' => XTo wO nof L h r o (x.to w) h'
theorem to_ok {P : Program} {f g k : FuncId} (hf : Is P f (c_raft_call_to g k)) (hg : FNextOk P g) (hk : SendOk P k) : ToOk P f := by
 refine ⟨hf.2, fun L h r o x w hx hw hfit hb => fun_sound hf.1 (Nat.le_of_ble_eq_true rfl) ?_⟩
 show vc P (c_raft_call_to g k).code ⟨[(0, .agg [.ptr r 21 0 0, .ptr o 5 0 0]), (1, .agg w.cells)], [], h⟩ (atEnd (c_raft_call_to g k).res _)
 obtain ⟨R, out⟩ := x
 have hx2 := fun a b => hx.up (Ext.b2 (h := h) a b)
 have lt := hx.lt
 obtain ⟨⟨g', f', ra⟩, -, -⟩ := id hx
 have rr := ra.row
 simp only [Raft.row] at rr
 have R2 : ∀ a b, (h ++ [a] ++ [b])[r]? = _ := fun a b => (Ext.b2 a b).get rr
 have X2 := Ext.b2 (h := h) (some (ABlk.arr 2 [[.ptr r 21 0 0, .ptr o 5 0 0]] false)) (some (ABlk.arr 4 [w.cells] false))
 have B0 := bx20 h (some (ABlk.arr 2 [[.ptr r 21 0 0, .ptr o 5 0 0]] false)) (some (ABlk.arr 4 [w.cells] false))
 have hxx := hx2 (some (ABlk.arr 2 [[.ptr r 21 0 0, .ptr o 5 0 0]] false)) (some (ABlk.arr 4 [w.cells] false))
 have nx := hg.2 (h ++ [some (ABlk.arr 2 [[.ptr r 21 0 0, .ptr o 5 0 0]] false)] ++ [some (ABlk.arr 4 [w.cells] false)]) w R.id R.hard R.commit R.round hw hfit
 simp only [Hard.v_eq, Flow.cells] at nx X2 B0 hxx
 simp only [c_raft_call_to, Flow.cells, go_sem, reduceEqDiff, reduceAdd, reduceLeDiff, R2]
 refine wCall_use ⟨hg.1, nx⟩ ?_
 rintro _ H ⟨e, d, rfl, he, hd, hX⟩
 have l2 := X2.1
 simp only [len_app1] at he hd l2
 have hxH := hxx.up hX
 have RH := hX.get (R2 _ _)
 have C0 := hX.get B0
 have C1 := hX.get (bx21 h (some (ABlk.arr 2 [[.ptr r 21 0 0, .ptr o 5 0 0]] false)) (some (ABlk.arr 4 [[.int .i64 w.node, .int .i64 w.next, .int .i64 w.mat, .int .i64 w.round]] false)))
 rw [kDB_mk0]
 simp only [go_sem, reduceEqDiff, reduceAdd, reduceLeDiff, reducePow, reduceDiv, reduceMod, decide_true, RH, C0, C1]
 refine wCall_use ⟨hk.1, hk.2 (fun n => h.length + 2 <= n) L H r o _ _ e d hxH he hd (fun n hn => Classical.byContradiction fun z => by have := lt n z; omega) hb⟩ ?_
 intro _ h' T
 have XX := X2.tr hX
 rw [kDB_mk0]
 simp only [go_sem, reducePow, reduceDiv, reduceMod, decide_true]
 exact (XTo.from XX T).weakQ fun m hm (y : h.length + 2 <= m) => by omega
end Glb
