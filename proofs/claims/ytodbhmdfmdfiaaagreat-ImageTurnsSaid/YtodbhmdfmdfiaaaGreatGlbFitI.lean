/-
  A library of its own: its parts, one behind the other.
-/
import Derived.Test.YtodbhmdfmdfiaaaGreatGlbFitA
import Derived.Test.YtodbhmdfmdfiaaaGreatGlbFlow
import Derived.Test.YtodbhmdfmdfiaaaGreatGlbImgA
set_option linter.unusedSimpArgs false
set_option linter.unusedVariables false
/-
  Arguments that are flows, messages.
-/
namespace Glb
open Go

end Glb

/-
  What arguments of a statement on images are, and that their numbers fit their kinds.
-/
namespace Glb
open Go

def intsR (l : List Int) : Prop := ∀ n ∈ l, i64ok n
def Entry.R (e : Entry) : Prop := i64ok e.term ∧ i64ok e.kind ∧ bytesOk e.data
def Log.R (x : Log) : Prop := i64ok x.base ∧ i64ok x.bterm ∧ ∀ e ∈ x.es, e.R
def Conf.R (x : Conf) : Prop := intsR x.old ∧ intsR x.new ∧ intsR x.learners
def Hard.R (x : Hard) : Prop := i64ok x.group ∧ i64ok x.term ∧ i64ok x.vote ∧ x.log.R ∧ x.conf.R ∧ bytesOk x.snap
def Vote.R (x : Vote) : Prop := i64ok x.txn ∧ i64ok x.part ∧ i64ok x.promised ∧ i64ok x.ballot ∧ i64ok x.value
def Change.R (x : Change) : Prop := i64ok x.kind ∧ i64ok x.group ∧ i64ok x.term ∧ i64ok x.voted ∧ i64ok x.from_ ∧ x.log.R ∧ x.conf.R ∧ bytesOk x.snap ∧ x.vote.R
def Image.R (x : Image) : Prop := (∀ y ∈ x.hards, y.R) ∧ ∀ y ∈ x.votes, y.R

theorem wf_i64 {n : Int} (h : (Lit.int .i64 n).wf = true) : i64ok n := by
  simp only [Lit.wf, Bool.and_eq_true, decide_eq_true_eq] at h
  exact ⟨h.1, h.2⟩
theorem wf_u8 {n : Int} (h : (Lit.int .u8 n).wf = true) : 0 ≤ n ∧ n < 256 := by
  simp only [Lit.wf, Bool.and_eq_true, decide_eq_true_eq] at h
  have h1 : (0 : Int) ≤ n := h.1
  have h2 : n ≤ 255 := h.2
  omega

theorem FitsLL_mapR {T : Type} {ts : List Ty} {f : T → List D} {R : T → Prop} (hf : ∀ d, FitsL d ts → ∃ x, d = f x ∧ R x) : ∀ {es : List (List D)}, FitsLL es ts → ∃ l : List T, es = l.map f ∧ ∀ x ∈ l, R x := by
  intro es
  induction es with
  | nil => intro _; exact ⟨[], rfl, by simp⟩
  | cons e es ih =>
    intro h
    simp only [FitsLL] at h
    obtain ⟨x, rfl, hx⟩ := hf e h.1
    obtain ⟨l, rfl, hl⟩ := ih h.2
    exact ⟨x :: l, rfl, fun y hy => (List.mem_cons.1 hy).elim (fun e => e ▸ hx) (hl y)⟩

theorem fitsR_bytes {d : D} (h : Fits d (.sl 1 [.int .u8])) : ∃ l, d = dBytes l ∧ bytesOk l := by
  obtain ⟨es, rfl, h'⟩ := Fits_sl h
  obtain ⟨l, rfl, hl⟩ := FitsLL_mapR (f := fun n : Int => [D.int .u8 n]) (R := fun n => 0 ≤ n ∧ n < 256) (fun d hd => by
    obtain ⟨x, r, rfl, h1, h2⟩ := FitsL_cons hd
    obtain ⟨n, rfl, hn⟩ := Fits_int h1
    cases FitsL_nil h2
    exact ⟨n, rfl, wf_u8 hn⟩) h'
  exact ⟨l, rfl, hl⟩
theorem fitsR_ints {d : D} (h : Fits d (.sl 1 [.int .i64])) : ∃ l, d = dInts l ∧ intsR l := by
  obtain ⟨es, rfl, h'⟩ := Fits_sl h
  obtain ⟨l, rfl, hl⟩ := FitsLL_mapR (f := fun n : Int => [D.int .i64 n]) (R := i64ok) (fun d hd => by
    obtain ⟨x, r, rfl, h1, h2⟩ := FitsL_cons hd
    obtain ⟨n, rfl, hn⟩ := Fits_int h1
    cases FitsL_nil h2
    exact ⟨n, rfl, wf_i64 hn⟩) h'
  exact ⟨l, rfl, hl⟩
theorem fitsR_entry {d : List D} (h : FitsL d entryTy) : ∃ e : Entry, d = e.c ∧ e.R := by
  obtain ⟨_, _, rfl, h1, h⟩ := FitsL_cons h
  obtain ⟨_, _, rfl, h2, h⟩ := FitsL_cons h
  obtain ⟨_, _, rfl, h3, h⟩ := FitsL_cons h
  cases FitsL_nil h
  obtain ⟨t, rfl, w1⟩ := Fits_int h1
  obtain ⟨k, rfl, w2⟩ := Fits_int h2
  obtain ⟨b, rfl, w3⟩ := fitsR_bytes h3
  exact ⟨⟨t, k, b⟩, rfl, wf_i64 w1, wf_i64 w2, w3⟩
theorem fitsR_entries {d : D} (h : Fits d (.sl 3 entryTy)) : ∃ l, d = dEntries l ∧ ∀ e ∈ l, e.R := by
  obtain ⟨es, rfl, h'⟩ := Fits_sl h
  obtain ⟨l, rfl, hl⟩ := FitsLL_mapR (f := Entry.c) (R := Entry.R) (fun d hd => fitsR_entry hd) h'
  exact ⟨l, rfl, hl⟩
def hardTyI : List Ty := [.int .i64, .int .i64, .int .i64, .int .i64, .int .i64, .sl 3 entryTy, .sl 1 [.int .i64], .sl 1 [.int .i64], .sl 1 [.int .i64], .sl 1 [.int .u8]]
def voteTy : List Ty := [.int .i64, .int .i64, .int .i64, .int .i64, .int .i64]
def changeTy : List Ty := [.int .i64, .int .i64, .int .i64, .int .i64, .int .i64, .int .i64, .int .i64, .sl 3 entryTy, .sl 1 [.int .i64], .sl 1 [.int .i64], .sl 1 [.int .i64], .sl 1 [.int .u8], .int .i64, .int .i64, .int .i64, .int .i64, .int .i64]
def imageTy : List Ty := [.sl 10 hardTyI, .sl 5 voteTy]
theorem fitsR_hard {d : List D} (h : FitsL d hardTyI) : ∃ x : Hard, d = x.c ∧ x.R := by
  obtain ⟨_, _, rfl, g1, h⟩ := FitsL_cons h
  obtain ⟨_, _, rfl, g2, h⟩ := FitsL_cons h
  obtain ⟨_, _, rfl, g3, h⟩ := FitsL_cons h
  obtain ⟨_, _, rfl, g4, h⟩ := FitsL_cons h
  obtain ⟨_, _, rfl, g5, h⟩ := FitsL_cons h
  obtain ⟨_, _, rfl, g6, h⟩ := FitsL_cons h
  obtain ⟨_, _, rfl, g7, h⟩ := FitsL_cons h
  obtain ⟨_, _, rfl, g8, h⟩ := FitsL_cons h
  obtain ⟨_, _, rfl, g9, h⟩ := FitsL_cons h
  obtain ⟨_, _, rfl, g10, h⟩ := FitsL_cons h
  cases FitsL_nil h
  obtain ⟨a1, rfl, w1⟩ := Fits_int g1
  obtain ⟨a2, rfl, w2⟩ := Fits_int g2
  obtain ⟨a3, rfl, w3⟩ := Fits_int g3
  obtain ⟨a4, rfl, w4⟩ := Fits_int g4
  obtain ⟨a5, rfl, w5⟩ := Fits_int g5
  obtain ⟨a6, rfl, w6⟩ := fitsR_entries g6
  obtain ⟨a7, rfl, w7⟩ := fitsR_ints g7
  obtain ⟨a8, rfl, w8⟩ := fitsR_ints g8
  obtain ⟨a9, rfl, w9⟩ := fitsR_ints g9
  obtain ⟨a10, rfl, w10⟩ := fitsR_bytes g10
  exact ⟨⟨a1, a2, a3, ⟨a4, a5, a6⟩, ⟨a7, a8, a9⟩, a10⟩, rfl, wf_i64 w1, wf_i64 w2, wf_i64 w3, ⟨wf_i64 w4, wf_i64 w5, w6⟩, ⟨w7, w8, w9⟩, w10⟩
theorem fitsR_vote {d : List D} (h : FitsL d voteTy) : ∃ x : Vote, d = x.c ∧ x.R := by
  obtain ⟨_, _, rfl, g1, h⟩ := FitsL_cons h
  obtain ⟨_, _, rfl, g2, h⟩ := FitsL_cons h
  obtain ⟨_, _, rfl, g3, h⟩ := FitsL_cons h
  obtain ⟨_, _, rfl, g4, h⟩ := FitsL_cons h
  obtain ⟨_, _, rfl, g5, h⟩ := FitsL_cons h
  cases FitsL_nil h
  obtain ⟨a1, rfl, w1⟩ := Fits_int g1
  obtain ⟨a2, rfl, w2⟩ := Fits_int g2
  obtain ⟨a3, rfl, w3⟩ := Fits_int g3
  obtain ⟨a4, rfl, w4⟩ := Fits_int g4
  obtain ⟨a5, rfl, w5⟩ := Fits_int g5
  exact ⟨⟨a1, a2, a3, a4, a5⟩, rfl, wf_i64 w1, wf_i64 w2, wf_i64 w3, wf_i64 w4, wf_i64 w5⟩
theorem fitsR_change {d : List D} (h : FitsL d changeTy) : ∃ x : Change, d = x.c ∧ x.R := by
  obtain ⟨_, _, rfl, g1, h⟩ := FitsL_cons h
  obtain ⟨_, _, rfl, g2, h⟩ := FitsL_cons h
  obtain ⟨_, _, rfl, g3, h⟩ := FitsL_cons h
  obtain ⟨_, _, rfl, g4, h⟩ := FitsL_cons h
  obtain ⟨_, _, rfl, g5, h⟩ := FitsL_cons h
  obtain ⟨_, _, rfl, g6, h⟩ := FitsL_cons h
  obtain ⟨_, _, rfl, g7, h⟩ := FitsL_cons h
  obtain ⟨_, _, rfl, g8, h⟩ := FitsL_cons h
  obtain ⟨_, _, rfl, g9, h⟩ := FitsL_cons h
  obtain ⟨_, _, rfl, g10, h⟩ := FitsL_cons h
  obtain ⟨_, _, rfl, g11, h⟩ := FitsL_cons h
  obtain ⟨_, _, rfl, g12, h⟩ := FitsL_cons h
  obtain ⟨x, rfl, wv⟩ := fitsR_vote h
  obtain ⟨a1, rfl, w1⟩ := Fits_int g1
  obtain ⟨a2, rfl, w2⟩ := Fits_int g2
  obtain ⟨a3, rfl, w3⟩ := Fits_int g3
  obtain ⟨a4, rfl, w4⟩ := Fits_int g4
  obtain ⟨a5, rfl, w5⟩ := Fits_int g5
  obtain ⟨a6, rfl, w6⟩ := Fits_int g6
  obtain ⟨a7, rfl, w7⟩ := Fits_int g7
  obtain ⟨a8, rfl, w8⟩ := fitsR_entries g8
  obtain ⟨a9, rfl, w9⟩ := fitsR_ints g9
  obtain ⟨a10, rfl, w10⟩ := fitsR_ints g10
  obtain ⟨a11, rfl, w11⟩ := fitsR_ints g11
  obtain ⟨a12, rfl, w12⟩ := fitsR_bytes g12
  exact ⟨⟨a1, a2, a3, a4, a5, ⟨a6, a7, a8⟩, ⟨a9, a10, a11⟩, a12, x⟩, rfl, wf_i64 w1, wf_i64 w2, wf_i64 w3, wf_i64 w4, wf_i64 w5, ⟨wf_i64 w6, wf_i64 w7, w8⟩, ⟨w9, w10, w11⟩, w12, wv⟩
theorem fitsR_image {d : List D} (h : FitsL d imageTy) : ∃ x : Image, d = x.c ∧ x.R := by
  obtain ⟨_, _, rfl, g1, h⟩ := FitsL_cons h
  obtain ⟨_, _, rfl, g2, h⟩ := FitsL_cons h
  cases FitsL_nil h
  obtain ⟨es, rfl, h1⟩ := Fits_sl g1
  obtain ⟨l, rfl, hl⟩ := FitsLL_mapR (f := Hard.c) (R := Hard.R) (fun d hd => fitsR_hard hd) h1
  obtain ⟨es2, rfl, h2⟩ := Fits_sl g2
  obtain ⟨l2, rfl, hl2⟩ := FitsLL_mapR (f := Vote.c) (R := Vote.R) (fun d hd => fitsR_vote hd) h2
  exact ⟨⟨l, l2⟩, rfl, hl, hl2⟩
theorem fitsR_changesL {d : List D} (h : FitsL d [.sl 17 changeTy]) : ∃ l : List Change, d = [dChanges l] ∧ ∀ x ∈ l, x.R := by
  obtain ⟨_, _, rfl, g1, h⟩ := FitsL_cons h
  cases FitsL_nil h
  obtain ⟨es, rfl, h1⟩ := Fits_sl g1
  obtain ⟨l, rfl, hl⟩ := FitsLL_mapR (f := Change.c) (R := Change.R) (fun d hd => fitsR_change hd) h1
  exact ⟨l, rfl, hl⟩
end Glb
