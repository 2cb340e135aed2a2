/-
  A library of its own: its parts, one behind the other.
-/
import Derived.Test.YtgjgniadldlmiaaGlbKitB
import Derived.Test.YtgjgniadldlmiaaGlbQuoA
import Derived.Test.YtgjgniadldlmiaaGlbMorA
import Derived.Test.YtgjgniadldlmiaaGlbCimage
import Derived.Test.YtgjgniadldlmiaaGlbLibB
set_option linter.unusedSimpArgs false
set_option linter.unusedVariables false
/-
  What is written as bytes, and read back: a theory of its own, no program in sight.
-/
namespace Glb
open Go
set_option maxRecDepth 10000

/-- what is left to be read; none: bad -/
abbrev Rdr := Option (List Int)
def valU (l : List Int) : Int := l.foldl (fun v x => v * 256 + x) 0
def valOf (l : List Int) : Int := IntKind.i64.wrap (valU l)
def i64ok (n : Int) : Prop := -9223372036854775808 ≤ n ∧ n ≤ 9223372036854775807
def bytesOk (l : List Int) : Prop := ∀ x ∈ l, 0 ≤ x ∧ x < 256

theorem bytesOk.take {l : List Int} (h : bytesOk l) (n : Nat) : bytesOk (l.take n) := fun x hx => h x (List.mem_of_mem_take hx)
theorem bytesOk.drop {l : List Int} (h : bytesOk l) (n : Nat) : bytesOk (l.drop n) := fun x hx => h x (List.mem_of_mem_drop hx)
theorem wrap_i64_eq (x : Int) : IntKind.i64.wrap x = (x + 9223372036854775808) % 18446744073709551616 - 9223372036854775808 := by
  simp only [IntKind.wrap, IntKind.bits, IntKind.signed]
  simp
  split <;> omega

theorem byteOf_eq (v : Int) (k : Nat) (hk : k ≤ 7) : byteOf v (7 - k) = (v % 18446744073709551616) / 256 ^ k % 256 := by
  rw [byteOf_low v k hk, wrap_u64]

theorem num_eq (v : Int) : num v = [(v % 18446744073709551616) / 72057594037927936 % 256, (v % 18446744073709551616) / 281474976710656 % 256, (v % 18446744073709551616) / 1099511627776 % 256, (v % 18446744073709551616) / 4294967296 % 256,
    (v % 18446744073709551616) / 16777216 % 256, (v % 18446744073709551616) / 65536 % 256, (v % 18446744073709551616) / 256 % 256, (v % 18446744073709551616) % 256] := by
  have h0 := byteOf_eq v 0 (by omega)
  have h1 := byteOf_eq v 1 (by omega)
  have h2 := byteOf_eq v 2 (by omega)
  have h3 := byteOf_eq v 3 (by omega)
  have h4 := byteOf_eq v 4 (by omega)
  have h5 := byteOf_eq v 5 (by omega)
  have h6 := byteOf_eq v 6 (by omega)
  have h7 := byteOf_eq v 7 (by omega)
  simp only [Nat.reduceSub, Int.reducePow] at h0 h1 h2 h3 h4 h5 h6 h7
  simp only [num, h0, h1, h2, h3, h4, h5, h6, h7, Int.pow_zero, Int.ediv_one]

theorem num_bytes (v : Int) : bytesOk (num v) := by
  rw [num_eq]
  intro x hx
  simp only [List.mem_cons, List.not_mem_nil, or_false] at hx
  rcases hx with rfl | rfl | rfl | rfl | rfl | rfl | rfl | rfl <;> omega

theorem valU_eight (a b c d e f g h : Int) : valU [a, b, c, d, e, f, g, h] = a * 72057594037927936 + b * 281474976710656 + c * 1099511627776 + d * 4294967296 + e * 16777216 + f * 65536 + g * 256 + h := by
  simp only [valU, List.foldl_cons, List.foldl_nil]; omega

theorem valOf_num {v : Int} (h : i64ok v) : valOf (num v) = v := by
  rw [num_eq, valOf, valU_eight, wrap_i64_eq]
  obtain ⟨h1, h2⟩ := h
  have : v % 18446744073709551616 = (if v < 0 then v + 18446744073709551616 else v) := by split <;> omega
  generalize v % 18446744073709551616 = u at *
  split at this <;> omega

theorem num_valOf {l : List Int} (h : l.length = 8) (hb : bytesOk l) : num (valOf l) = l ∧ i64ok (valOf l) := by
  match l, h with
  | [a, b, c, d, e, f, g, k], _ =>
    have ha := hb a (by simp)
    have hb' := hb b (by simp)
    have hc := hb c (by simp)
    have hd := hb d (by simp)
    have he := hb e (by simp)
    have hf := hb f (by simp)
    have hg := hb g (by simp)
    have hk := hb k (by simp)
    have hu : (valOf [a, b, c, d, e, f, g, k]) % 18446744073709551616 = a * 72057594037927936 + b * 281474976710656 + c * 1099511627776 + d * 4294967296 + e * 16777216 + f * 65536 + g * 256 + k := by
      rw [valOf, valU_eight, wrap_i64_eq]; omega
    refine ⟨?_, by rw [valOf, wrap_i64_eq]; constructor <;> omega⟩
    rw [num_eq, hu]
    simp only [List.cons.injEq, and_true]
    refine ⟨by omega, by omega, by omega, by omega, by omega, by omega, by omega, by omega⟩

theorem bytesOk.app {a b : List Int} (h : bytesOk a) (h' : bytesOk b) : bytesOk (a ++ b) := fun x hx => (List.mem_append.1 hx).elim (h x) (h' x)
def rInt : Rdr → Int × Rdr
  | none => (0, none)
  | some l => if l.length < 8 then (0, none) else (valOf (l.take 8), some (l.drop 8))

end Glb

/-
  What an image is made of, and how it is written.
-/
namespace Glb
open Go
set_option maxRecDepth 10000

structure Vote where
  txn : Int
  part : Int
  promised : Int
  ballot : Int
  value : Int
  deriving DecidableEq
structure Change where
  kind : Int
  group : Int
  term : Int
  voted : Int
  from_ : Int
  log : Log
  conf : Conf
  snap : List Int
  vote : Vote
  deriving DecidableEq
def Vote.c (v : Vote) : List D := [.int .i64 v.txn, .int .i64 v.part, .int .i64 v.promised, .int .i64 v.ballot, .int .i64 v.value]
def dHards (l : List Hard) : D := .sl 10 (l.map Hard.c)
def dVotes (l : List Vote) : D := .sl 5 (l.map Vote.c)
def Change.c (x : Change) : List D := [.int .i64 x.kind, .int .i64 x.group, .int .i64 x.term, .int .i64 x.voted, .int .i64 x.from_, .int .i64 x.log.base, .int .i64 x.log.bterm, dEntries x.log.es, dInts x.conf.old, dInts x.conf.new, dInts x.conf.learners, dBytes x.snap,
  .int .i64 x.vote.txn, .int .i64 x.vote.part, .int .i64 x.vote.promised, .int .i64 x.vote.ballot, .int .i64 x.vote.value]
def dChanges (l : List Change) : D := .sl 17 (l.map Change.c)
end Glb

/-
  What the program writes as bytes.
-/
namespace Glb
open Go
set_option maxRecDepth 10000
set_option maxHeartbeats 8000000

def IntP (P : Program) (f : FuncId) : Prop :=
  isFn P f = true ∧ ∀ (F : Nat → Prop) (h : AHeap) (l : List Int) (b : AV) (v : Int), Rd F h (dBytes l) b → l.length ≤ 2^42 → ACalls P f [b, .int .i64 v] h fun r h' => r = abytes (l ++ num v) ∧ h' = h
theorem Rd.any {F : Nat → Prop} {h : AHeap} {d : D} {a : AV} (hh : Rd F h d a) : Rd (fun _ => True) h d a := Rd.mono (fun _ _ => trivial) (Keep.lt _ _) _ _ hh
theorem IntOk.p {P : Program} {f : FuncId} (hc : IntOk P f) : IntP P f := ⟨hc.1, fun F h l b v hb hl => (hc.2 F h l b v hb hl).freeze fun _ _ hk => ⟨hk.2.2, _, Frz.d (Own.fz (dBytes _) (fun _ x => x) _ hk.1), rfl⟩⟩
theorem pack_Int_p {P : Program} {f r n : FuncId} (hf : Is P f (c_pack_Int r n)) (hr : RoomOk P r) (hn : NumberOk P n) : IntOk P f := by
  refine ⟨hf.2, fun F h l b v hb hl => fun_sound hf.1 (Nat.le_of_ble_eq_true rfl) ?_⟩
  show vc P (c_pack_Int r n).code ⟨[(0, b), (1, .int .i64 v)], [], h⟩ (atEnd (c_pack_Int r n).res _)
  simp only [c_pack_Int, go_sem, reduceIte, Nat.reduceEqDiff, Nat.reduceAdd, Nat.reduceLeDiff, Nat.reducePow, Nat.reduceDiv, Nat.reduceMod, decide_true]
  refine wCall_use ⟨hr.1, hr.2 F h l b 8 hb hl (by omega)⟩ ?_
  rintro a h1 ⟨o1, c1, x1⟩
  simp only [go_sem, reduceIte, Nat.reduceEqDiff, Nat.reduceAdd, Nat.reduceLeDiff, Nat.reducePow, Nat.reduceDiv, Nat.reduceMod, decide_true]
  refine wCall_use ⟨hn.1, hn.2 h.length h1 l a v o1 c1 x1.1 (by omega)⟩ ?_
  rintro a2 h2 ⟨o2, c2, x2⟩
  simp only [go_sem, reduceIte, Nat.reduceEqDiff, Nat.reduceAdd, Nat.reduceLeDiff, Nat.reducePow, Nat.reduceDiv, Nat.reduceMod, decide_true]
  exact ⟨o2, c2, x1.then x2 (fun m hm hm' => by omega)⟩

end Glb

/-
  What the program writes as bytes: images, changes.
-/
namespace Glb
open Go
set_option maxRecDepth 10000
set_option maxHeartbeats 8000000

end Glb

/-
  What the document writes as bytes.
-/
namespace Glb
open Go
set_option maxRecDepth 10000
set_option maxHeartbeats 8000000

end Glb
