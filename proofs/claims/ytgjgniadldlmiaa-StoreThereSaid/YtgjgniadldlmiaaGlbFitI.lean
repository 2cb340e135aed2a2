/-
  A library of its own: its parts, one behind the other.
-/
import Derived.Test.YtgjgniadldlmiaaGlbFitA
import Derived.Test.YtgjgniadldlmiaaGlbKitA
import Derived.Test.YtgjgniadldlmiaaGlbLibB
import Derived.Test.YtgjgniadldlmiaaGlbImgA
set_option linter.unusedSimpArgs false
set_option linter.unusedVariables false
/-
  Arguments that are flows, messages.
-/
namespace Glb
open Go

end Glb

/-
  What arguments of a statement on images are, and that their numbers fit their kinds.
-/
namespace Glb
open Go

def intsR (l : List Int) : Prop := ∀ n ∈ l, i64ok n
theorem wf_i64 {n : Int} (h : (Lit.int .i64 n).wf = true) : i64ok n := by
  simp only [Lit.wf, Bool.and_eq_true, decide_eq_true_eq] at h
  exact ⟨h.1, h.2⟩
theorem wf_u8 {n : Int} (h : (Lit.int .u8 n).wf = true) : 0 ≤ n ∧ n < 256 := by
  simp only [Lit.wf, Bool.and_eq_true, decide_eq_true_eq] at h
  have h1 : (0 : Int) ≤ n := h.1
  have h2 : n ≤ 255 := h.2
  omega

theorem FitsLL_mapR {T : Type} {ts : List Ty} {f : T → List D} {R : T → Prop} (hf : ∀ d, FitsL d ts → ∃ x, d = f x ∧ R x) : ∀ {es : List (List D)}, FitsLL es ts → ∃ l : List T, es = l.map f ∧ ∀ x ∈ l, R x := by
  intro es
  induction es with
  | nil => intro _; exact ⟨[], rfl, by simp⟩
  | cons e es ih =>
    intro h
    simp only [FitsLL] at h
    obtain ⟨x, rfl, hx⟩ := hf e h.1
    obtain ⟨l, rfl, hl⟩ := ih h.2
    exact ⟨x :: l, rfl, fun y hy => (List.mem_cons.1 hy).elim (fun e => e ▸ hx) (hl y)⟩

theorem fitsR_bytes {d : D} (h : Fits d (.sl 1 [.int .u8])) : ∃ l, d = dBytes l ∧ bytesOk l := by
  obtain ⟨es, rfl, h'⟩ := Fits_sl h
  obtain ⟨l, rfl, hl⟩ := FitsLL_mapR (f := fun n : Int => [D.int .u8 n]) (R := fun n => 0 ≤ n ∧ n < 256) (fun d hd => by
    obtain ⟨x, r, rfl, h1, h2⟩ := FitsL_cons hd
    obtain ⟨n, rfl, hn⟩ := Fits_int h1
    cases FitsL_nil h2
    exact ⟨n, rfl, wf_u8 hn⟩) h'
  exact ⟨l, rfl, hl⟩
theorem fitsR_ints {d : D} (h : Fits d (.sl 1 [.int .i64])) : ∃ l, d = dInts l ∧ intsR l := by
  obtain ⟨es, rfl, h'⟩ := Fits_sl h
  obtain ⟨l, rfl, hl⟩ := FitsLL_mapR (f := fun n : Int => [D.int .i64 n]) (R := i64ok) (fun d hd => by
    obtain ⟨x, r, rfl, h1, h2⟩ := FitsL_cons hd
    obtain ⟨n, rfl, hn⟩ := Fits_int h1
    cases FitsL_nil h2
    exact ⟨n, rfl, wf_i64 hn⟩) h'
  exact ⟨l, rfl, hl⟩
end Glb
