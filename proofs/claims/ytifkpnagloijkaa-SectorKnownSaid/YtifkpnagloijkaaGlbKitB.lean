/-
  A library of its own: its parts, one behind the other.
-/
import Derived.Test.YtifkpnagloijkaaGlbLibD
import Derived.Test.YtifkpnagloijkaaGlbKitA
import Derived.Test.YtifkpnagloijkaaGlbLibB
import Derived.Test.YtifkpnagloijkaaGlbLibE
set_option linter.unusedSimpArgs false
set_option linter.unusedVariables false
/-
  A list of one's own that is appended to, whatever else is one's own.
-/
namespace Glb
open Go

end Glb

/-
  Numbers, bytes and lists as bytes.
-/
namespace Glb
open Go
set_option maxRecDepth 10000
set_option maxHeartbeats 4000000

/-- a new row of so many -/
def amks (h : AHeap) (sz bytes : Nat) (zero : List AV) : AV → AV → Option (AV × AHeap)
  | .int _ l, .int _ c => if 0 ≤ l ∧ l ≤ c ∧ c * bytes ≤ 2 ^ 46 then some (.ref h.length sz 0 l.toNat (some c.toNat), h ++ [some (.arr sz (List.replicate c.toNat zero) false)]) else none
  | _, _ => none
theorem hev_mks (g : Opd → AV) (h : AHeap) (sz bytes : Nat) (zero : List AV) (l c : Opd) : hev g h (.mks sz bytes zero l c) = amks h sz bytes zero (g l) (g c) := by
  simp only [hev, lightOf, amks]
  generalize g l = x
  generalize g c = y
  cases x <;> cases y <;> simp only
  rename_i k l k' c
  by_cases q : 0 ≤ l ∧ l ≤ c ∧ c * (bytes : Int) ≤ 2 ^ 46
  · rw [if_pos q, if_pos q]
  · rw [if_neg q, if_neg q]
theorem amks_int {h : AHeap} {sz bytes : Nat} {zero : List AV} {k k' : IntKind} {l c : Int} (h0 : 0 ≤ l) (h1 : l ≤ c) (h2 : c * bytes ≤ 2 ^ 46) :
    amks h sz bytes zero (.int k l) (.int k' c) = some (.ref h.length sz 0 l.toNat (some c.toNat), h ++ [some (.arr sz (List.replicate c.toNat zero) false)]) := by
  simp only [amks]; rw [if_pos ⟨h0, h1, h2⟩]

theorem own_ints1 {n : IntKind} {F G : Nat → Prop} {h h' : AHeap} : ∀ {l : List Int} {ys : List (List AV)}, RdLL F h (l.map fun x => [.int n x]) ys → OwnLL (l.map fun x => [.int n x]) G h' ys := by
  intro l
  induction l with
  | nil => intro ys hh; simpa [RdLL, OwnLL] using hh
  | cons x l ih =>
    intro ys hh
    simp only [List.map_cons, RdLL] at hh
    obtain ⟨e, r, rfl, h1, h2⟩ := hh
    simp only [RdL, Rd] at h1
    obtain ⟨_, _, rfl, rfl, rfl⟩ := h1
    simp only [List.map_cons, OwnLL]
    exact ⟨_, _, rfl, ⟨_, _, rfl, by simp only [Own], rfl⟩, ih h2⟩

end Glb

/-
  Numbers, bytes and lists as bytes: the document's answer.
-/
namespace Glb
open Go
set_option maxRecDepth 10000
set_option maxHeartbeats 4000000

structure Conf where
  old : List Int
  new : List Int
  learners : List Int
  deriving DecidableEq

end Glb

/-
  Members, and what a member of a group must not forget: big, copied.
-/
namespace Glb
open Go
set_option maxRecDepth 10000
set_option maxHeartbeats 4000000

structure Hard where
  group : Int
  term : Int
  vote : Int
  log : Log
  conf : Conf
  snap : List Int
  deriving DecidableEq

def Hard.c (x : Hard) : List D := [.int .i64 x.group, .int .i64 x.term, .int .i64 x.vote, .int .i64 x.log.base, .int .i64 x.log.bterm, dEntries x.log.es, dInts x.conf.old, dInts x.conf.new, dInts x.conf.learners, dBytes x.snap]
end Glb

/-
  Calls whose answers are plain data: bytes, numbers, entries, logs, members, what a member must not forget, messages.
-/
namespace Glb
open Go
set_option maxRecDepth 10000
set_option maxHeartbeats 4000000

mutual
theorem upto_av (k : Nat) : ∀ d : D, d.av.upto k = true
  | .int i n => by simp only [D.av, AV.upto]
  | .bool b => by simp only [D.av, AV.upto]
  | .str s => by simp only [D.av, AV.upto]
  | .sl sz es => by simp only [D.av, AV.upto, uptoLL_av k es, Nat.zero_le, decide_true, Bool.or_true, Bool.and_self]
theorem uptoL_av (k : Nat) : ∀ l : List D, AV.uptoL k (D.avL l) = true
  | [] => by simp only [D.avL, AV.uptoL]
  | d :: r => by simp only [D.avL, AV.uptoL, upto_av k d, uptoL_av k r, Bool.and_self]
theorem uptoLL_av (k : Nat) : ∀ l : List (List D), AV.uptoLL k (D.avLL l) = true
  | [] => by simp only [D.avLL, AV.uptoLL]
  | d :: r => by simp only [D.avLL, AV.uptoLL, uptoL_av k d, uptoLL_av k r, Bool.and_self]
end
def abytes (l : List Int) : AV := (dBytes l).av
def aints (l : List Int) : AV := (dInts l).av
def aentries (l : List Entry) : AV := (dEntries l).av

theorem scalar_abytes (l : List Int) : (abytes l).scalar = true := av_scalar _
theorem scalar_aints (l : List Int) : (aints l).scalar = true := av_scalar _
theorem scalar_aentries (l : List Entry) : (aentries l).scalar = true := av_scalar _
theorem cells_abytes (l : List Int) : (abytes l).cells? = some [abytes l] := cells_of (av_scalar _)
theorem cells_aints (l : List Int) : (aints l).cells? = some [aints l] := cells_of (av_scalar _)
theorem cells_aentries (l : List Entry) : (aentries l).cells? = some [aentries l] := cells_of (av_scalar _)
theorem rd_abytes (F : Nat → Prop) (h : AHeap) (l : List Int) : Rd F h (dBytes l) (abytes l) := rd_av _ _ _
theorem rd_aints (F : Nat → Prop) (h : AHeap) (l : List Int) : Rd F h (dInts l) (aints l) := rd_av _ _ _
theorem rd_aentries (F : Nat → Prop) (h : AHeap) (l : List Entry) : Rd F h (dEntries l) (aentries l) := rd_av _ _ _
theorem len_abytes (l : List Int) : alen (abytes l) = some (.int .i64 l.length) := by simpa using (rd_abytes nof [] l).len
theorem len_aints (l : List Int) : alen (aints l) = some (.int .i64 l.length) := by simpa using (rd_aints nof [] l).len
theorem len_aentries (l : List Entry) : alen (aentries l) = some (.int .i64 l.length) := by simpa using (rd_aentries nof [] l).len
theorem abytes_eq (l : List Int) : abytes l = .vals 0 false 1 (l.map fun n => [.int .u8 n]) := by
  simp only [abytes, dBytes, D.av, avLL_map, List.map_map]
  congr 1
theorem aints_eq (l : List Int) : aints l = .vals 0 false 1 (l.map fun n => [.int .i64 n]) := by
  simp only [aints, dInts, D.av, avLL_map, List.map_map]
  congr 1

attribute [go_sem] scalar_abytes scalar_aints scalar_aentries cells_abytes cells_aints cells_aentries len_abytes len_aints len_aentries

theorem use1 {P : Program} {f : FuncId} {avs : List AV} {r : AV} {h : AHeap} {K : AV → AHeap → Prop} (hi : isFn P f = true) (hc : ACalls P f avs h fun r' h' => r' = r ∧ h' = h) (hk : K r h) : wCall P f avs h K :=
  wCall_use ⟨hi, hc⟩ fun _ _ ⟨e1, e2⟩ => by subst e1; subst e2; exact hk

/-- a call that answers plain data and leaves all as it was -/
def Pure (P : Program) (f : FuncId) (avs : List AV) (r : AV) : Prop := ∀ h, ACalls P f avs h fun r' h' => r' = r ∧ h' = h

theorem pure_d {P : Program} {f : FuncId} {avs : List AV} {d : D} (hc : ∀ h, ACalls P f avs h fun r h' => Own d (fun m => h.length ≤ m) h' r ∧ Ext nof h h') : Pure P f avs d.av :=
  fun h => (hc h).freeze fun _ _ hk => ⟨hk.2, _, Frz.d (Own.fz d (fun _ x => x) _ hk.1), rfl⟩
end Glb

/-
  Members, what a member must not forget, messages: held against one another; messages written over.
-/
namespace Glb
open Go
set_option maxRecDepth 10000
set_option maxHeartbeats 4000000

end Glb
