/-
  A library of its own: its parts, one behind the other.
-/
import Derived.Test.YtodbhmdfmdfiaaaGlbKitB
import Derived.Test.YtodbhmdfmdfiaaaGlbQuoA
import Derived.Test.YtodbhmdfmdfiaaaGlbMorA
import Derived.Test.YtodbhmdfmdfiaaaGlbCimage
import Derived.Test.YtodbhmdfmdfiaaaGlbCgleberef13
set_option linter.unusedSimpArgs false
set_option linter.unusedVariables false
/-
  What is written as bytes, and read back: a theory of its own, no program in sight.
-/
namespace Glb
open Go
set_option maxRecDepth 10000

/-- what is left to be read; none: bad -/
abbrev Rdr := Option (List Int)
def valU (l : List Int) : Int := l.foldl (fun v x => v * 256 + x) 0
def valOf (l : List Int) : Int := IntKind.i64.wrap (valU l)
def i64ok (n : Int) : Prop := -9223372036854775808 ≤ n ∧ n ≤ 9223372036854775807
def bytesOk (l : List Int) : Prop := ∀ x ∈ l, 0 ≤ x ∧ x < 256

theorem bytesOk.take {l : List Int} (h : bytesOk l) (n : Nat) : bytesOk (l.take n) := fun x hx => h x (List.mem_of_mem_take hx)
theorem bytesOk.drop {l : List Int} (h : bytesOk l) (n : Nat) : bytesOk (l.drop n) := fun x hx => h x (List.mem_of_mem_drop hx)
theorem wrap_i64_eq (x : Int) : IntKind.i64.wrap x = (x + 9223372036854775808) % 18446744073709551616 - 9223372036854775808 := by
  simp only [IntKind.wrap, IntKind.bits, IntKind.signed]
  simp
  split <;> omega

theorem byteOf_eq (v : Int) (k : Nat) (hk : k ≤ 7) : byteOf v (7 - k) = (v % 18446744073709551616) / 256 ^ k % 256 := by
  rw [byteOf_low v k hk, wrap_u64]

theorem num_eq (v : Int) : num v = [(v % 18446744073709551616) / 72057594037927936 % 256, (v % 18446744073709551616) / 281474976710656 % 256, (v % 18446744073709551616) / 1099511627776 % 256, (v % 18446744073709551616) / 4294967296 % 256,
    (v % 18446744073709551616) / 16777216 % 256, (v % 18446744073709551616) / 65536 % 256, (v % 18446744073709551616) / 256 % 256, (v % 18446744073709551616) % 256] := by
  have h0 := byteOf_eq v 0 (by omega)
  have h1 := byteOf_eq v 1 (by omega)
  have h2 := byteOf_eq v 2 (by omega)
  have h3 := byteOf_eq v 3 (by omega)
  have h4 := byteOf_eq v 4 (by omega)
  have h5 := byteOf_eq v 5 (by omega)
  have h6 := byteOf_eq v 6 (by omega)
  have h7 := byteOf_eq v 7 (by omega)
  simp only [Nat.reduceSub, Int.reducePow] at h0 h1 h2 h3 h4 h5 h6 h7
  simp only [num, h0, h1, h2, h3, h4, h5, h6, h7, Int.pow_zero, Int.ediv_one]

theorem num_bytes (v : Int) : bytesOk (num v) := by
  rw [num_eq]
  intro x hx
  simp only [List.mem_cons, List.not_mem_nil, or_false] at hx
  rcases hx with rfl | rfl | rfl | rfl | rfl | rfl | rfl | rfl <;> omega

theorem valU_eight (a b c d e f g h : Int) : valU [a, b, c, d, e, f, g, h] = a * 72057594037927936 + b * 281474976710656 + c * 1099511627776 + d * 4294967296 + e * 16777216 + f * 65536 + g * 256 + h := by
  simp only [valU, List.foldl_cons, List.foldl_nil]; omega

theorem valOf_num {v : Int} (h : i64ok v) : valOf (num v) = v := by
  rw [num_eq, valOf, valU_eight, wrap_i64_eq]
  obtain ⟨h1, h2⟩ := h
  have : v % 18446744073709551616 = (if v < 0 then v + 18446744073709551616 else v) := by split <;> omega
  generalize v % 18446744073709551616 = u at *
  split at this <;> omega

theorem num_valOf {l : List Int} (h : l.length = 8) (hb : bytesOk l) : num (valOf l) = l ∧ i64ok (valOf l) := by
  match l, h with
  | [a, b, c, d, e, f, g, k], _ =>
    have ha := hb a (by simp)
    have hb' := hb b (by simp)
    have hc := hb c (by simp)
    have hd := hb d (by simp)
    have he := hb e (by simp)
    have hf := hb f (by simp)
    have hg := hb g (by simp)
    have hk := hb k (by simp)
    have hu : (valOf [a, b, c, d, e, f, g, k]) % 18446744073709551616 = a * 72057594037927936 + b * 281474976710656 + c * 1099511627776 + d * 4294967296 + e * 16777216 + f * 65536 + g * 256 + k := by
      rw [valOf, valU_eight, wrap_i64_eq]; omega
    refine ⟨?_, by rw [valOf, wrap_i64_eq]; constructor <;> omega⟩
    rw [num_eq, hu]
    simp only [List.cons.injEq, and_true]
    refine ⟨by omega, by omega, by omega, by omega, by omega, by omega, by omega, by omega⟩

/-- how things are written and read -/
structure Codec (T : Type) where
  enc : T → List Int
  dec : Rdr → T × Rdr
  ok : T → Prop
  bad : (dec none).2 = none
  big : ∀ x, 8 ≤ (enc x).length
  bytes : ∀ x, ok x → bytesOk (enc x)
  back : ∀ x r, ok x → dec (some (enc x ++ r)) = (x, some r)
  only : ∀ l x r, bytesOk l → dec (some l) = (x, some r) → l = enc x ++ r ∧ ok x
  ext : ∀ l x r t, dec (some l) = (x, some r) → dec (some (l ++ t)) = (x, some (r ++ t))

theorem bytesOk.app {a b : List Int} (h : bytesOk a) (h' : bytesOk b) : bytesOk (a ++ b) := fun x hx => (List.mem_append.1 hx).elim (h x) (h' x)
theorem bytesOk.right {a b : List Int} (h : bytesOk (a ++ b)) : bytesOk b := fun x hx => h x (List.mem_append.2 (.inr hx))

def rInt : Rdr → Int × Rdr
  | none => (0, none)
  | some l => if l.length < 8 then (0, none) else (valOf (l.take 8), some (l.drop 8))

def intC : Codec Int where
  enc := num
  dec := rInt
  ok := i64ok
  bad := rfl
  big _ := by simp [num_length]
  bytes v _ := num_bytes v
  back v r h := by
    simp only [rInt, List.length_append, num_length]
    rw [if_neg (by omega), List.take_left' (num_length v), List.drop_left' (num_length v), valOf_num h]
  only l x r hb h := by
    simp only [rInt] at h
    split at h
    · simp at h
    · rename_i hl
      simp only [Prod.mk.injEq, Option.some.injEq] at h
      obtain ⟨rfl, rfl⟩ := h
      obtain ⟨h1, h2⟩ := num_valOf (l := l.take 8) (by simp; omega) (hb.take 8)
      exact ⟨by rw [h1, List.take_append_drop], h2⟩
  ext l x r t h := by
    simp only [rInt] at h ⊢
    split at h
    · simp at h
    · rename_i hl
      simp only [Prod.mk.injEq, Option.some.injEq] at h
      obtain ⟨rfl, rfl⟩ := h
      rw [if_neg (by simp; omega), List.take_append_of_le_length (by omega), List.drop_append_of_le_length (by omega)]

def rBlob (r : Rdr) : List Int × Rdr :=
  match rInt r with
  | (_, none) => ([], none)
  | (n, some l) => if n < 0 ∨ (l.length : Int) < n then ([], none) else (l.take n.toNat, some (l.drop n.toNat))

theorem rBlob_some {l a r : List Int} (h : rBlob (some l) = (a, some r)) : 8 ≤ l.length ∧ ∃ n : Nat, valOf (l.take 8) = n ∧ n ≤ l.length - 8 ∧ a = (l.drop 8).take n ∧ r = (l.drop 8).drop n := by
  simp only [rBlob, rInt] at h
  split at h
  · cases h
  · rename_i n l' heq
    split at heq
    · cases heq
    · rename_i hl
      simp only [Prod.mk.injEq, Option.some.injEq] at heq
      obtain ⟨rfl, rfl⟩ := heq
      split at h
      · cases h
      · rename_i hn
        simp only [Prod.mk.injEq, Option.some.injEq] at h
        simp only [List.length_drop] at hn
        exact ⟨by omega, (valOf (l.take 8)).toNat, by omega, by omega, h.1.symm, h.2.symm⟩
theorem rBlob_of {l : List Int} {n : Nat} (h8 : 8 ≤ l.length) (hv : valOf (l.take 8) = n) (hn : n ≤ l.length - 8) : rBlob (some l) = ((l.drop 8).take n, some ((l.drop 8).drop n)) := by
  simp only [rBlob, rInt]
  rw [if_neg (by omega)]
  simp only [hv]
  rw [if_neg (by simp; omega)]
  simp

def blobOk (p : List Int) : Prop := p.length ≤ 9223372036854775807 ∧ bytesOk p
theorem i64ok_len {n : Nat} (h : n ≤ 9223372036854775807) : i64ok (n : Int) := by constructor <;> omega

def blobC : Codec (List Int) where
  enc p := num p.length ++ p
  dec := rBlob
  ok := blobOk
  bad := rfl
  big p := by simp [num_length]
  bytes p h := (num_bytes _).app h.2
  back p r h := by
    have e8 : (num p.length).length = 8 := num_length _
    rw [rBlob_of (n := p.length) (by simp [e8]) (by rw [List.append_assoc, List.take_left' e8, valOf_num (i64ok_len h.1)]) (by simp [e8])]
    rw [List.append_assoc, List.drop_left' e8, List.take_left' rfl, List.drop_left' rfl]
  only l x r hb h := by
    obtain ⟨h8, n, hv, hn, rfl, rfl⟩ := rBlob_some h
    obtain ⟨h1, h2⟩ := num_valOf (l := l.take 8) (by simp; omega) (hb.take 8)
    have hlen : ((l.drop 8).take n).length = n := by simp; omega
    rw [hv] at h1 h2
    refine ⟨?_, by rw [hlen]; exact (by have := h2.2; omega), (hb.drop 8).take n⟩
    rw [hlen, h1, List.append_assoc, List.take_append_drop, List.take_append_drop]
  ext l x r t h := by
    obtain ⟨h8, n, hv, hn, rfl, rfl⟩ := rBlob_some h
    rw [rBlob_of (n := n) (by simp; omega) (by rw [List.take_append_of_le_length h8]; exact hv) (by simp; omega)]
    rw [List.drop_append_of_le_length h8, List.take_append_of_le_length (by simp; omega), List.drop_append_of_le_length (by simp; omega)]

def pairC {A B : Type} (a : Codec A) (b : Codec B) : Codec (A × B) where
  enc x := a.enc x.1 ++ b.enc x.2
  dec r := (((a.dec r).1, (b.dec (a.dec r).2).1), (b.dec (a.dec r).2).2)
  ok x := a.ok x.1 ∧ b.ok x.2
  bad := by simp only [a.bad, b.bad]
  big x := by have := a.big x.1; simp; omega
  bytes x h := (a.bytes _ h.1).app (b.bytes _ h.2)
  back x r h := by
    rw [List.append_assoc, a.back x.1 _ h.1, b.back x.2 _ h.2]
  only l x r hb h := by
    obtain ⟨x1, x2⟩ := x
    cases hd : a.dec (some l) with
    | mk y s =>
      rw [hd] at h
      cases s with
      | none => simp only [b.bad, Prod.mk.injEq, reduceCtorEq, and_false] at h
      | some m =>
        obtain ⟨e1, o1⟩ := a.only l y m hb hd
        simp only [Prod.mk.injEq] at h
        obtain ⟨⟨rfl, h2⟩, h3⟩ := h
        have hbm : bytesOk m := bytesOk.right (e1 ▸ hb)
        obtain ⟨e2, o2⟩ := b.only m x2 r hbm (Prod.ext h2 h3)
        exact ⟨by rw [e1, e2, List.append_assoc], o1, o2⟩
  ext l x r t h := by
    obtain ⟨x1, x2⟩ := x
    cases hd : a.dec (some l) with
    | mk y s =>
      rw [hd] at h
      cases s with
      | none => simp only [b.bad, Prod.mk.injEq, reduceCtorEq, and_false] at h
      | some m =>
        simp only [Prod.mk.injEq] at h
        obtain ⟨⟨rfl, h2⟩, h3⟩ := h
        rw [a.ext l _ m t hd, b.ext m x2 r t (Prod.ext h2 h3)]

def isoC {A B : Type} (a : Codec A) (f : A → B) (g : B → A) (fg : ∀ b, f (g b) = b) (gf : ∀ x, g (f x) = x) : Codec B where
  enc x := a.enc (g x)
  dec r := (f (a.dec r).1, (a.dec r).2)
  ok x := a.ok (g x)
  bad := a.bad
  big x := a.big _
  bytes x h := a.bytes _ h
  back x r h := by rw [a.back _ _ h]; simp only [fg]
  only l x r hb h := by
    simp only [Prod.mk.injEq] at h
    obtain ⟨rfl, h2⟩ := h
    rw [gf]
    exact a.only l _ r hb (Prod.ext rfl h2)
  ext l x r t h := by
    simp only [Prod.mk.injEq] at h
    obtain ⟨rfl, h2⟩ := h
    rw [a.ext l _ r t (Prod.ext rfl h2)]

def readN {T : Type} (f : Rdr → T × Rdr) : Nat → Rdr → List T × Rdr
  | 0, r => ([], r)
  | n + 1, r => match f r with
    | (_, none) => ([], none)
    | (x, some l) => ((x :: (readN f n (some l)).1), (readN f n (some l)).2)

/-- how many things come -/
def rMany (r : Rdr) : Int × Rdr :=
  match rInt r with
  | (_, none) => (0, none)
  | (n, some l) => if n < 0 ∨ (l.length / 8 : Nat) < n then (0, none) else (n, some l)

def rList {T : Type} (f : Rdr → T × Rdr) (r : Rdr) : List T × Rdr := match rMany r with
  | (_, none) => ([], none)
  | (n, some l) => readN f n.toNat (some l)

theorem rMany_some {l r : List Int} {n : Int} (h : rMany (some l) = (n, some r)) : 8 ≤ l.length ∧ valOf (l.take 8) = n ∧ 0 ≤ n ∧ n ≤ ((l.length - 8) / 8 : Nat) ∧ r = l.drop 8 := by
  simp only [rMany, rInt] at h
  split at h
  · cases h
  · rename_i n l' heq
    split at heq
    · cases heq
    · rename_i hl
      simp only [Prod.mk.injEq, Option.some.injEq] at heq
      obtain ⟨rfl, rfl⟩ := heq
      split at h
      · cases h
      · rename_i hn
        simp only [Prod.mk.injEq, Option.some.injEq] at h
        simp only [List.length_drop] at hn
        obtain ⟨rfl, rfl⟩ := h
        exact ⟨by omega, rfl, by omega, by omega, rfl⟩
theorem rMany_of {l : List Int} {n : Int} (h8 : 8 ≤ l.length) (hv : valOf (l.take 8) = n) (h0 : 0 ≤ n) (hn : n ≤ ((l.length - 8) / 8 : Nat)) : rMany (some l) = (n, some (l.drop 8)) := by
  simp only [rMany, rInt]
  rw [if_neg (by omega)]
  simp only [hv]
  rw [if_neg (by simp only [List.length_drop]; omega)]

theorem flat_big {T : Type} (c : Codec T) : ∀ xs : List T, 8 * xs.length ≤ (xs.flatMap c.enc).length
  | [] => by simp
  | x :: r => by have h1 := flat_big c r; have h2 := c.big x; simp only [List.flatMap_cons, List.length_append, List.length_cons]; omega

theorem readN_back {T : Type} (c : Codec T) : ∀ (xs : List T) (r : List Int), (∀ x ∈ xs, c.ok x) → readN c.dec xs.length (some (xs.flatMap c.enc ++ r)) = (xs, some r)
  | [], r, _ => rfl
  | x :: xs, r, h => by
    simp only [List.length_cons, readN, List.flatMap_cons, List.append_assoc]
    rw [c.back x _ (h x (by simp))]
    simp only [readN_back c xs r (fun y hy => h y (by simp [hy]))]

theorem readN_only {T : Type} (c : Codec T) : ∀ (n : Nat) (l : List Int) (xs : List T) (r : List Int), bytesOk l → readN c.dec n (some l) = (xs, some r) → l = xs.flatMap c.enc ++ r ∧ xs.length = n ∧ ∀ x ∈ xs, c.ok x
  | 0, l, xs, r, _, h => by simp only [readN, Prod.mk.injEq, Option.some.injEq] at h; obtain ⟨rfl, rfl⟩ := h; simp
  | n + 1, l, xs, r, hb, h => by
    simp only [readN] at h
    split at h
    · cases h
    · rename_i x m hd
      simp only [Prod.mk.injEq] at h
      obtain ⟨rfl, h2⟩ := h
      obtain ⟨e1, o1⟩ := c.only l x m hb hd
      obtain ⟨e2, l2, o2⟩ := readN_only c n m _ r (bytesOk.right (e1 ▸ hb)) (Prod.ext rfl h2)
      refine ⟨by rw [List.flatMap_cons, List.append_assoc, ← e2]; exact e1, by simp [l2], fun y hy => ?_⟩
      rcases List.mem_cons.1 hy with rfl | hy
      · exact o1
      · exact o2 y hy

theorem readN_ext {T : Type} (c : Codec T) : ∀ (n : Nat) (l : List Int) (xs : List T) (r t : List Int), readN c.dec n (some l) = (xs, some r) → readN c.dec n (some (l ++ t)) = (xs, some (r ++ t))
  | 0, l, xs, r, t, h => by simp only [readN, Prod.mk.injEq, Option.some.injEq] at h ⊢; obtain ⟨rfl, rfl⟩ := h; simp
  | n + 1, l, xs, r, t, h => by
    simp only [readN] at h ⊢
    split at h
    · cases h
    · rename_i x m hd
      simp only [Prod.mk.injEq] at h
      obtain ⟨rfl, h2⟩ := h
      rw [c.ext l x m t hd]
      simp only [readN_ext c n m _ r t (Prod.ext rfl h2)]

def listC {T : Type} (c : Codec T) : Codec (List T) where
  enc xs := num xs.length ++ xs.flatMap c.enc
  dec := rList c.dec
  ok xs := xs.length ≤ 9223372036854775807 ∧ ∀ x ∈ xs, c.ok x
  bad := rfl
  big xs := by simp [num_length]
  bytes xs h := (num_bytes _).app fun b hb => by
    obtain ⟨x, h1, h2⟩ := List.mem_flatMap.1 hb
    exact c.bytes x (h.2 x h1) b h2
  back xs r h := by
    have e8 : (num xs.length).length = 8 := num_length _
    have fb := flat_big c xs
    simp only [rList]
    rw [rMany_of (n := xs.length) (by simp [e8]) (by rw [List.append_assoc, List.take_left' e8, valOf_num (i64ok_len h.1)]) (by omega) (by simp only [List.length_append, e8]; omega)]
    rw [List.append_assoc, List.drop_left' e8]
    simpa using readN_back c xs r h.2
  only l xs r hb h := by
    simp only [rList] at h
    split at h
    · cases h
    · rename_i n m hm
      obtain ⟨h8, hv, h0, hn, rfl⟩ := rMany_some hm
      obtain ⟨e1, e2, o⟩ := readN_only c _ _ _ _ (hb.drop 8) h
      obtain ⟨h1, h2⟩ := num_valOf (l := l.take 8) (by simp; omega) (hb.take 8)
      rw [hv] at h1 h2
      have en : (xs.length : Int) = n := by omega
      refine ⟨by rw [en, h1, List.append_assoc, ← e1, List.take_append_drop], by have := h2.2; omega, o⟩
  ext l xs r t h := by
    simp only [rList] at h ⊢
    split at h
    · cases h
    · rename_i n m hm
      obtain ⟨h8, hv, h0, hn, rfl⟩ := rMany_some hm
      rw [rMany_of (n := n) (by simp; omega) (by rw [List.take_append_of_le_length h8]; exact hv) h0 (by simp; omega)]
      simp only
      rw [List.drop_append_of_le_length h8]
      exact readN_ext c _ _ _ _ t h

theorem nums_flat : ∀ l : List Int, nums l = l.flatMap num
  | [] => rfl
  | x :: r => by simp only [nums, List.flatMap_cons, nums_flat r]

end Glb

/-
  What an image is made of, and how it is written.
-/
namespace Glb
open Go
set_option maxRecDepth 10000

structure Vote where
  txn : Int
  part : Int
  promised : Int
  ballot : Int
  value : Int
  deriving DecidableEq
structure Change where
  kind : Int
  group : Int
  term : Int
  voted : Int
  from_ : Int
  log : Log
  conf : Conf
  snap : List Int
  vote : Vote
  deriving DecidableEq
structure Image where
  hards : List Hard
  votes : List Vote
  deriving DecidableEq

def Vote.c (v : Vote) : List D := [.int .i64 v.txn, .int .i64 v.part, .int .i64 v.promised, .int .i64 v.ballot, .int .i64 v.value]
def dHards (l : List Hard) : D := .sl 10 (l.map Hard.c)
def dVotes (l : List Vote) : D := .sl 5 (l.map Vote.c)
def Change.c (x : Change) : List D := [.int .i64 x.kind, .int .i64 x.group, .int .i64 x.term, .int .i64 x.voted, .int .i64 x.from_, .int .i64 x.log.base, .int .i64 x.log.bterm, dEntries x.log.es, dInts x.conf.old, dInts x.conf.new, dInts x.conf.learners, dBytes x.snap,
  .int .i64 x.vote.txn, .int .i64 x.vote.part, .int .i64 x.vote.promised, .int .i64 x.vote.ballot, .int .i64 x.vote.value]
def dChanges (l : List Change) : D := .sl 17 (l.map Change.c)
def Image.c (x : Image) : List D := [dHards x.hards, dVotes x.votes]

def entryC : Codec Entry := isoC (pairC intC (pairC intC blobC)) (fun p => ⟨p.1, p.2.1, p.2.2⟩) (fun e => (e.term, e.kind, e.data)) (fun _ => rfl) (fun _ => rfl)
def logC : Codec Log := isoC (pairC intC (pairC intC (listC entryC))) (fun p => ⟨p.1, p.2.1, p.2.2⟩) (fun e => (e.base, e.bterm, e.es)) (fun _ => rfl) (fun _ => rfl)
def intsC : Codec (List Int) := listC intC
def confC : Codec Conf := isoC (pairC intsC (pairC intsC intsC)) (fun p => ⟨p.1, p.2.1, p.2.2⟩) (fun e => (e.old, e.new, e.learners)) (fun _ => rfl) (fun _ => rfl)
def voteC : Codec Vote := isoC (pairC intC (pairC intC (pairC intC (pairC intC intC)))) (fun p => ⟨p.1, p.2.1, p.2.2.1, p.2.2.2.1, p.2.2.2.2⟩) (fun e => (e.txn, e.part, e.promised, e.ballot, e.value)) (fun _ => rfl) (fun _ => rfl)
def hardC : Codec Hard := isoC (pairC intC (pairC intC (pairC intC (pairC logC (pairC confC blobC))))) (fun p => ⟨p.1, p.2.1, p.2.2.1, p.2.2.2.1, p.2.2.2.2.1, p.2.2.2.2.2⟩) (fun e => (e.group, e.term, e.vote, e.log, e.conf, e.snap)) (fun _ => rfl) (fun _ => rfl)
def changeC : Codec Change := isoC (pairC intC (pairC intC (pairC intC (pairC intC (pairC intC (pairC logC (pairC confC (pairC blobC voteC))))))))
  (fun p => ⟨p.1, p.2.1, p.2.2.1, p.2.2.2.1, p.2.2.2.2.1, p.2.2.2.2.2.1, p.2.2.2.2.2.2.1, p.2.2.2.2.2.2.2.1, p.2.2.2.2.2.2.2.2⟩) (fun e => (e.kind, e.group, e.term, e.voted, e.from_, e.log, e.conf, e.snap, e.vote)) (fun _ => rfl) (fun _ => rfl)
def imageC : Codec Image := isoC (pairC (listC hardC) (listC voteC)) (fun p => ⟨p.1, p.2⟩) (fun e => (e.hards, e.votes)) (fun _ => rfl) (fun _ => rfl)
theorem entryC_enc (e : Entry) : entryC.enc e = num e.term ++ num e.kind ++ (num e.data.length ++ e.data) := by simp only [entryC, isoC, pairC, intC, blobC, List.append_assoc]
theorem logC_enc (x : Log) : logC.enc x = num x.base ++ num x.bterm ++ (num x.es.length ++ x.es.flatMap entryC.enc) := by simp only [logC, isoC, pairC, intC, listC, List.append_assoc]
theorem intsC_enc (l : List Int) : intsC.enc l = num l.length ++ nums l := by simp only [intsC, listC, nums_flat]; rfl
theorem confC_enc (x : Conf) : confC.enc x = x.bytes := by simp only [confC, isoC, pairC, intsC_enc, Conf.bytes, List.append_assoc]
theorem voteC_enc (v : Vote) : voteC.enc v = nums [v.txn, v.part, v.promised, v.ballot, v.value] := by simp only [voteC, isoC, pairC, intC, nums, List.append_nil]
theorem hardC_enc (x : Hard) : hardC.enc x = nums [x.group, x.term, x.vote] ++ logC.enc x.log ++ x.conf.bytes ++ (num x.snap.length ++ x.snap) := by
  simp only [← confC_enc, hardC, isoC, pairC, intC, blobC, nums, List.append_nil, List.append_assoc]
theorem changeC_enc (x : Change) : changeC.enc x = nums [x.kind, x.group, x.term, x.voted, x.from_] ++ logC.enc x.log ++ x.conf.bytes ++ (num x.snap.length ++ x.snap) ++ voteC.enc x.vote := by
  simp only [← confC_enc, changeC, isoC, pairC, intC, blobC, nums, List.append_nil, List.append_assoc]
theorem imageC_enc (x : Image) : imageC.enc x = (num x.hards.length ++ x.hards.flatMap hardC.enc) ++ (num x.votes.length ++ x.votes.flatMap voteC.enc) := by
  simp only [imageC, isoC, pairC, listC]

end Glb

/-
  What the program writes as bytes.
-/
namespace Glb
open Go
set_option maxRecDepth 10000
set_option maxHeartbeats 8000000

/-- a thing's bytes behind others, as plain data -/
def PutT {T : Type} (P : Program) (f : FuncId) (c : T → List D) (e : T → List Int) : Prop :=
  isFn P f = true ∧ ∀ (F G : Nat → Prop) (h : AHeap) (l : List Int) (b : AV) (x : T) (as : List AV), Rd F h (dBytes l) b → RdL G h (c x) as → (l ++ e x).length ≤ 2^33 → ACalls P f [b, .agg as] h fun r h' => r = abytes (l ++ e x) ∧ h' = h
def IntP (P : Program) (f : FuncId) : Prop :=
  isFn P f = true ∧ ∀ (F : Nat → Prop) (h : AHeap) (l : List Int) (b : AV) (v : Int), Rd F h (dBytes l) b → l.length ≤ 2^42 → ACalls P f [b, .int .i64 v] h fun r h' => r = abytes (l ++ num v) ∧ h' = h
def BlobP (P : Program) (f : FuncId) : Prop :=
  isFn P f = true ∧ ∀ (F G : Nat → Prop) (h : AHeap) (l p : List Int) (b a : AV), Rd F h (dBytes l) b → Rd G h (dBytes p) a → l.length ≤ 2^41 → p.length ≤ 2^41 → ACalls P f [b, a] h fun r h' => r = abytes (l ++ (num p.length ++ p)) ∧ h' = h
def VIntsP (P : Program) (f : FuncId) : Prop :=
  isFn P f = true ∧ ∀ (F G : Nat → Prop) (h : AHeap) (l vs : List Int) (b a : AV), Rd F h (dBytes l) b → Rd G h (dInts vs) a → vs ≠ [] → (l ++ nums vs).length ≤ 2^33 → ACalls P f [b, a] h fun r h' => r = abytes (l ++ nums vs) ∧ h' = h

theorem Rd.any {F : Nat → Prop} {h : AHeap} {d : D} {a : AV} (hh : Rd F h d a) : Rd (fun _ => True) h d a := Rd.mono (fun _ _ => trivial) (Keep.lt _ _) _ _ hh
theorem RdL.any {F : Nat → Prop} {h : AHeap} {d : List D} {a : List AV} (hh : RdL F h d a) : RdL (fun _ => True) h d a := RdL.mono (fun _ _ => trivial) (Keep.lt _ _) _ _ hh

theorem IntOk.p {P : Program} {f : FuncId} (hc : IntOk P f) : IntP P f := ⟨hc.1, fun F h l b v hb hl => (hc.2 F h l b v hb hl).freeze fun _ _ hk => ⟨hk.2.2, _, Frz.d (Own.fz (dBytes _) (fun _ x => x) _ hk.1), rfl⟩⟩
theorem BlobOk.p {P : Program} {f : FuncId} (hc : BlobOk P f) : BlobP P f := ⟨hc.1, fun F G h l p b a hb ha hl hp => (hc.2 (fun _ => True) h l p b a hb.any ha.any hl hp).freeze fun _ _ hk => ⟨hk.2.2, _, Frz.d (Own.fz (dBytes _) (fun _ x => x) _ hk.1), by rw [List.append_assoc]; rfl⟩⟩
theorem PutConfOk.p {P : Program} {f : FuncId} (hc : PutConfOk P f) : PutT P f Conf.c Conf.bytes := ⟨hc.1, fun F G h l b x as hb ha hl => by
  have h8 : ∀ v : List Int, (nums v).length = 8 * v.length := nums_length
  have q : l.length ≤ 2^33 ∧ x.old.length ≤ 2^33 ∧ x.new.length ≤ 2^33 ∧ x.learners.length ≤ 2^33 ∨ True := .inr trivial
  exact (hc.2 (fun _ => True) h l b x as hb.any ha.any (by simp only [Conf.bytes, List.length_append, h8] at hl; omega) (by simp only [Conf.bytes, List.length_append, h8] at hl; omega) (by simp only [Conf.bytes, List.length_append, h8] at hl; omega) (by simp only [Conf.bytes, List.length_append, h8] at hl; omega)).freeze fun _ _ hk => ⟨hk.2.2, _, Frz.d (Own.fz (dBytes _) (fun _ x => x) _ hk.1), rfl⟩⟩

theorem pack_Int_p {P : Program} {f r n : FuncId} (hf : Is P f (c_pack_Int r n)) (hr : RoomOk P r) (hn : NumberOk P n) : IntOk P f := by
  refine ⟨hf.2, fun F h l b v hb hl => fun_sound hf.1 (Nat.le_of_ble_eq_true rfl) ?_⟩
  show vc P (c_pack_Int r n).code ⟨[(0, b), (1, .int .i64 v)], [], h⟩ (atEnd (c_pack_Int r n).res _)
  simp only [c_pack_Int, go_sem, reduceIte, Nat.reduceEqDiff, Nat.reduceAdd, Nat.reduceLeDiff, Nat.reducePow, Nat.reduceDiv, Nat.reduceMod, decide_true]
  refine wCall_use ⟨hr.1, hr.2 F h l b 8 hb hl (by omega)⟩ ?_
  rintro a h1 ⟨o1, c1, x1⟩
  simp only [go_sem, reduceIte, Nat.reduceEqDiff, Nat.reduceAdd, Nat.reduceLeDiff, Nat.reducePow, Nat.reduceDiv, Nat.reduceMod, decide_true]
  refine wCall_use ⟨hn.1, hn.2 h.length h1 l a v o1 c1 x1.1 (by omega)⟩ ?_
  rintro a2 h2 ⟨o2, c2, x2⟩
  simp only [go_sem, reduceIte, Nat.reduceEqDiff, Nat.reduceAdd, Nat.reduceLeDiff, Nat.reducePow, Nat.reduceDiv, Nat.reduceMod, decide_true]
  exact ⟨o2, c2, x1.then x2 (fun m hm hm' => by omega)⟩

theorem ints_v {P : Program} {f g : FuncId} (hf : Is P f (c_image_ints g)) (hg : IntP P g) : VIntsP P f := by
  refine ⟨hf.2, fun F G h l vs b a hb ha hne hl => fun_sound hf.1 (Nat.le_of_ble_eq_true rfl) ?_⟩
  show vc P (c_image_ints g).code ⟨[(0, b), (1, a)], [], h⟩ (atEnd (c_image_ints g).res _)
  have la := ha.ints_len
  have hn8 := nums_length
  simp only [List.length_append, hn8] at hl
  simp only [c_image_ints, go_sem, reduceIte, Nat.reduceEqDiff, Nat.reduceAdd, Nat.reduceLeDiff, Nat.reducePow, Nat.reduceDiv, Nat.reduceMod, decide_true, la]
  refine vc_loop (fun m L h' => ∃ (i : Nat) (o : AV), lk 0 L = o ∧ lk 7 L = a ∧ lk 8 L = .int .i64 vs.length ∧ lk 9 L = .int .i64 i ∧ Rd (fun _ => True) h (dBytes (l ++ nums (vs.take i))) o ∧ (0 < i → o = abytes (l ++ nums (vs.take i))) ∧ h = h' ∧ i ≤ vs.length ∧ m = vs.length - i) vs.length ?_ ?_
  · exact ⟨0, b, by simp [lk_ins, lk_cons], by simp [lk_ins, lk_cons], by simp [lk_ins, lk_cons], by simp [lk_ins], by simpa [nums] using hb.any, by simp, rfl, by omega, by omega⟩
  · rintro m L h' ⟨i, o, k0, k7, k8, k9, ho, hq, rfl, hi, rfl⟩
    simp only [c_image_ints_l0, go_sem, reduceIte, Nat.reduceEqDiff, Nat.reduceAdd, Nat.reduceLeDiff, Nat.reducePow, Nat.reduceDiv, Nat.reduceMod, decide_true, k0, k7, k8, k9]
    refine wCond_split (fun ci => ?_) (fun ci => ?_)
    · simp at ci
      obtain ⟨p, hp, hv⟩ := ha.int_at ci
      have e1 : IntKind.i64.wrap (↑i + 1) = (i : Int) + 1 := wrap_i64 (by omega)
      have e2 : nums (vs.take (i + 1)) = nums (vs.take i) ++ num vs[i] := by rw [List.take_succ_eq_append_getElem ci, nums_app]; simp [nums]
      simp only [go_sem, reduceIte, Nat.reduceEqDiff, Nat.reduceAdd, Nat.reduceLeDiff, Nat.reducePow, Nat.reduceDiv, Nat.reduceMod, decide_true, k0, k7, k8, k9, hp, hv]
      refine use1 hg.1 (hg.2 _ h _ o vs[i] ho (by simp only [List.length_append, hn8, List.length_take]; omega)) ?_
      simp only [go_sem, reduceIte, Nat.reduceEqDiff, Nat.reduceAdd, Nat.reduceLeDiff, Nat.reducePow, Nat.reduceDiv, Nat.reduceMod, decide_true, k0, k7, k8, k9, e1]
      refine ⟨_, by omega, i + 1, _, rfl, by simp, ?_, fun _ => by rw [e2, List.append_assoc], ci, rfl⟩
      rw [e2, ← List.append_assoc]; exact rd_abytes _ _ _
    · simp at ci
      obtain rfl : i = vs.length := by omega
      rw [List.take_length] at hq
      simp only [go_sem, reduceIte, Nat.reduceEqDiff, Nat.reduceAdd, Nat.reduceLeDiff, Nat.reducePow, Nat.reduceDiv, Nat.reduceMod, decide_true, k0]
      exact hq (List.length_pos_iff.2 hne)

/-- cells of data each hold one value -/
theorem RdL.scalars {F : Nat → Prop} {h : AHeap} : ∀ {ds : List D} {l : List AV}, RdL F h ds l → l.all AV.scalar = true
  | [], l, hh => by simp only [RdL] at hh; subst hh; rfl
  | d :: ds, l, hh => by simp only [RdL] at hh; obtain ⟨a, r, rfl, h1, h2⟩ := hh; simp [h1.scalar, h2.scalars]
theorem setMany_new {z cs : List AV} (h : z.length = cs.length) : setMany z 0 cs = cs := setMany_all cs [] z h

def PutL {T : Type} (P : Program) (f : FuncId) (sz : Nat) (c : T → List D) (e : T → List Int) : Prop :=
  isFn P f = true ∧ ∀ (put : FuncId), PutT P put c e → ∀ (F G : Nat → Prop) (h : AHeap) (l : List Int) (b : AV) (xs : List T) (a : AV), Rd F h (dBytes l) b → Rd G h (.sl sz (xs.map c)) a → xs.length ≤ 2^40 → (l ++ (num xs.length ++ xs.flatMap e)).length ≤ 2^33 →
    ACalls P f [b, a, .clo put [] []] h fun r h' => r = abytes (l ++ (num xs.length ++ xs.flatMap e)) ∧ h' = h

theorem putEntrys_ok {P : Program} {f g : FuncId} {e : Entry → List Int} (hf : Is P f (c_image_putList_api_Entry g)) (hg : IntP P g) (hc : ∀ x : Entry, x.c.length = 3 := fun _ => rfl) : PutL P f 3 Entry.c e := by
  refine ⟨hf.2, fun put hp F G h l b xs a hb ha hx4 hl => obs (upto_av _ _) (fun_sound hf.1 (Nat.le_of_ble_eq_true rfl) ?_)⟩
  show vc P (c_image_putList_api_Entry g).code ⟨[(0, b), (1, a), (2, .clo put [] [])], [], h⟩ (atEnd (c_image_putList_api_Entry g).res _)
  have la : alen a = some (.int .i64 xs.length) := by simpa using ha.len
  simp only [c_image_putList_api_Entry, go_sem, reduceIte, Nat.reduceEqDiff, Nat.reduceAdd, Nat.reduceLeDiff, Nat.reducePow, Nat.reduceDiv, Nat.reduceMod, decide_true, la]
  refine use1 hg.1 (hg.2 _ h _ b _ hb (by simp only [List.length_append] at hl; omega)) ?_
  simp only [go_sem, reduceIte, Nat.reduceEqDiff, Nat.reduceAdd, Nat.reduceLeDiff, Nat.reducePow, Nat.reduceDiv, Nat.reduceMod, decide_true, la]
  refine vc_loop (fun m L h' => ∃ (i : Nat), lk 0 L = abytes (l ++ (num xs.length ++ (xs.take i).flatMap e)) ∧ lk 2 L = .clo put [] [] ∧ lk 13 L = a ∧ lk 14 L = .int .i64 xs.length ∧ lk 15 L = .int .i64 i ∧ Ext nof h h' ∧ i ≤ xs.length ∧ m = xs.length - i) xs.length ?_ ?_
  · exact ⟨0, by simp [lk_ins, lk_cons], by simp [lk_ins, lk_cons], by simp [lk_ins, lk_cons], by simp [lk_ins, lk_cons], by simp [lk_ins], Ext.refl _ _, by omega, by omega⟩
  · rintro m L h2 ⟨i, k0, k2, k13, k14, k15, hE, hi, rfl⟩
    simp only [c_image_putList_api_Entry_l0, go_sem, reduceIte, Nat.reduceEqDiff, Nat.reduceAdd, Nat.reduceLeDiff, Nat.reducePow, Nat.reduceDiv, Nat.reduceMod, decide_true, k0, k2, k13, k14, k15]
    refine wCond_split (fun ci => ?_) (fun ci => ?_)
    · simp at ci
      obtain ⟨p, cs, hp1, hp2, hcs⟩ := (ha.up hE).index .i64 (i := i) (d := xs[i].c) (by omega) (by simp [ci])
      have hcl : cs.length = 3 := by rw [RdL_length hcs, hc]
      have ld := aload_p hp2 true 3
      rw [take_agg, hcl, if_pos (Nat.le_refl _), List.take_of_length_le (by omega)] at ld
      have sm : ∀ z : List AV, z.length = 3 → setMany z 0 cs = cs := fun z hz => setMany_new (by omega)
      have tk : cs.take 3 = cs := List.take_of_length_le (by omega)
      have e1 : IntKind.i64.wrap (↑i + 1) = (i : Int) + 1 := wrap_i64 (by omega)
      have hx := hcs.scalars
      simp only [go_sem, reduceIte, Nat.reduceEqDiff, Nat.reduceAdd, Nat.reduceLeDiff, Nat.reducePow, Nat.reduceDiv, Nat.reduceMod, decide_true, k0, k2, k13, k14, k15, hp1, ld, hcl, hx, sm, tk]
      have fl : (xs.take (i + 1)).flatMap e = (xs.take i).flatMap e ++ e xs[i] := by
        rw [List.take_succ_eq_append_getElem ci, List.flatMap_append, List.flatMap_cons, List.flatMap_nil, List.append_nil]
      have ll : (l ++ (num xs.length ++ (xs.take i).flatMap e) ++ e xs[i]).length ≤ 2^33 := by
        have e3 : xs = xs.take (i + 1) ++ xs.drop (i + 1) := (List.take_append_drop _ _).symm
        have e4 : xs.flatMap e = (xs.take (i + 1)).flatMap e ++ (xs.drop (i + 1)).flatMap e := by rw [← List.flatMap_append, List.take_append_drop]
        rw [e4, fl] at hl
        simp only [List.length_append] at hl ⊢
        omega
      refine use1 hp.1 (hp.2 nof G _ _ _ xs[i] _ (rd_abytes _ _ _) (hcs.up (Ext.b1 _)) ll) ?_
      simp only [go_sem, reduceIte, Nat.reduceEqDiff, Nat.reduceAdd, Nat.reduceLeDiff, Nat.reducePow, Nat.reduceDiv, Nat.reduceMod, decide_true, k0, k2, k13, k14, k15, e1]
      refine ⟨_, by omega, i + 1, by rw [fl]; simp only [List.append_assoc], by simp, hE.tr (Ext.b1 _), ci, rfl⟩
    · simp at ci
      obtain rfl : i = xs.length := by omega
      rw [List.take_length] at k0
      simp only [go_sem, reduceIte, Nat.reduceEqDiff, Nat.reduceAdd, Nat.reduceLeDiff, Nat.reducePow, Nat.reduceDiv, Nat.reduceMod, decide_true, k0]
      exact hE
theorem putHards_ok {P : Program} {f g : FuncId} {e : Hard → List Int} (hf : Is P f (c_image_putList_api_Hard g)) (hg : IntP P g) (hc : ∀ x : Hard, x.c.length = 10 := fun _ => rfl) : PutL P f 10 Hard.c e := by
  refine ⟨hf.2, fun put hp F G h l b xs a hb ha hx4 hl => obs (upto_av _ _) (fun_sound hf.1 (Nat.le_of_ble_eq_true rfl) ?_)⟩
  show vc P (c_image_putList_api_Hard g).code ⟨[(0, b), (1, a), (2, .clo put [] [])], [], h⟩ (atEnd (c_image_putList_api_Hard g).res _)
  have la : alen a = some (.int .i64 xs.length) := by simpa using ha.len
  simp only [c_image_putList_api_Hard, go_sem, reduceIte, Nat.reduceEqDiff, Nat.reduceAdd, Nat.reduceLeDiff, Nat.reducePow, Nat.reduceDiv, Nat.reduceMod, decide_true, la]
  refine use1 hg.1 (hg.2 _ h _ b _ hb (by simp only [List.length_append] at hl; omega)) ?_
  simp only [go_sem, reduceIte, Nat.reduceEqDiff, Nat.reduceAdd, Nat.reduceLeDiff, Nat.reducePow, Nat.reduceDiv, Nat.reduceMod, decide_true, la]
  refine vc_loop (fun m L h' => ∃ (i : Nat), lk 0 L = abytes (l ++ (num xs.length ++ (xs.take i).flatMap e)) ∧ lk 2 L = .clo put [] [] ∧ lk 13 L = a ∧ lk 14 L = .int .i64 xs.length ∧ lk 15 L = .int .i64 i ∧ Ext nof h h' ∧ i ≤ xs.length ∧ m = xs.length - i) xs.length ?_ ?_
  · exact ⟨0, by simp [lk_ins, lk_cons], by simp [lk_ins, lk_cons], by simp [lk_ins, lk_cons], by simp [lk_ins, lk_cons], by simp [lk_ins], Ext.refl _ _, by omega, by omega⟩
  · rintro m L h2 ⟨i, k0, k2, k13, k14, k15, hE, hi, rfl⟩
    simp only [c_image_putList_api_Hard_l0, go_sem, reduceIte, Nat.reduceEqDiff, Nat.reduceAdd, Nat.reduceLeDiff, Nat.reducePow, Nat.reduceDiv, Nat.reduceMod, decide_true, k0, k2, k13, k14, k15]
    refine wCond_split (fun ci => ?_) (fun ci => ?_)
    · simp at ci
      obtain ⟨p, cs, hp1, hp2, hcs⟩ := (ha.up hE).index .i64 (i := i) (d := xs[i].c) (by omega) (by simp [ci])
      have hcl : cs.length = 10 := by rw [RdL_length hcs, hc]
      have ld := aload_p hp2 true 10
      rw [take_agg, hcl, if_pos (Nat.le_refl _), List.take_of_length_le (by omega)] at ld
      have sm : ∀ z : List AV, z.length = 10 → setMany z 0 cs = cs := fun z hz => setMany_new (by omega)
      have tk : cs.take 10 = cs := List.take_of_length_le (by omega)
      have e1 : IntKind.i64.wrap (↑i + 1) = (i : Int) + 1 := wrap_i64 (by omega)
      have hx := hcs.scalars
      simp only [go_sem, reduceIte, Nat.reduceEqDiff, Nat.reduceAdd, Nat.reduceLeDiff, Nat.reducePow, Nat.reduceDiv, Nat.reduceMod, decide_true, k0, k2, k13, k14, k15, hp1, ld, hcl, hx, sm, tk]
      have fl : (xs.take (i + 1)).flatMap e = (xs.take i).flatMap e ++ e xs[i] := by
        rw [List.take_succ_eq_append_getElem ci, List.flatMap_append, List.flatMap_cons, List.flatMap_nil, List.append_nil]
      have ll : (l ++ (num xs.length ++ (xs.take i).flatMap e) ++ e xs[i]).length ≤ 2^33 := by
        have e3 : xs = xs.take (i + 1) ++ xs.drop (i + 1) := (List.take_append_drop _ _).symm
        have e4 : xs.flatMap e = (xs.take (i + 1)).flatMap e ++ (xs.drop (i + 1)).flatMap e := by rw [← List.flatMap_append, List.take_append_drop]
        rw [e4, fl] at hl
        simp only [List.length_append] at hl ⊢
        omega
      refine use1 hp.1 (hp.2 nof G _ _ _ xs[i] _ (rd_abytes _ _ _) (hcs.up (Ext.b1 _)) ll) ?_
      simp only [go_sem, reduceIte, Nat.reduceEqDiff, Nat.reduceAdd, Nat.reduceLeDiff, Nat.reducePow, Nat.reduceDiv, Nat.reduceMod, decide_true, k0, k2, k13, k14, k15, e1]
      refine ⟨_, by omega, i + 1, by rw [fl]; simp only [List.append_assoc], by simp, hE.tr (Ext.b1 _), ci, rfl⟩
    · simp at ci
      obtain rfl : i = xs.length := by omega
      rw [List.take_length] at k0
      simp only [go_sem, reduceIte, Nat.reduceEqDiff, Nat.reduceAdd, Nat.reduceLeDiff, Nat.reducePow, Nat.reduceDiv, Nat.reduceMod, decide_true, k0]
      exact hE
theorem putVotes_ok {P : Program} {f g : FuncId} {e : Vote → List Int} (hf : Is P f (c_image_putList_api_Accepted g)) (hg : IntP P g) (hc : ∀ x : Vote, x.c.length = 5 := fun _ => rfl) : PutL P f 5 Vote.c e := by
  refine ⟨hf.2, fun put hp F G h l b xs a hb ha hx4 hl => obs (upto_av _ _) (fun_sound hf.1 (Nat.le_of_ble_eq_true rfl) ?_)⟩
  show vc P (c_image_putList_api_Accepted g).code ⟨[(0, b), (1, a), (2, .clo put [] [])], [], h⟩ (atEnd (c_image_putList_api_Accepted g).res _)
  have la : alen a = some (.int .i64 xs.length) := by simpa using ha.len
  simp only [c_image_putList_api_Accepted, go_sem, reduceIte, Nat.reduceEqDiff, Nat.reduceAdd, Nat.reduceLeDiff, Nat.reducePow, Nat.reduceDiv, Nat.reduceMod, decide_true, la]
  refine use1 hg.1 (hg.2 _ h _ b _ hb (by simp only [List.length_append] at hl; omega)) ?_
  simp only [go_sem, reduceIte, Nat.reduceEqDiff, Nat.reduceAdd, Nat.reduceLeDiff, Nat.reducePow, Nat.reduceDiv, Nat.reduceMod, decide_true, la]
  refine vc_loop (fun m L h' => ∃ (i : Nat), lk 0 L = abytes (l ++ (num xs.length ++ (xs.take i).flatMap e)) ∧ lk 2 L = .clo put [] [] ∧ lk 13 L = a ∧ lk 14 L = .int .i64 xs.length ∧ lk 15 L = .int .i64 i ∧ Ext nof h h' ∧ i ≤ xs.length ∧ m = xs.length - i) xs.length ?_ ?_
  · exact ⟨0, by simp [lk_ins, lk_cons], by simp [lk_ins, lk_cons], by simp [lk_ins, lk_cons], by simp [lk_ins, lk_cons], by simp [lk_ins], Ext.refl _ _, by omega, by omega⟩
  · rintro m L h2 ⟨i, k0, k2, k13, k14, k15, hE, hi, rfl⟩
    simp only [c_image_putList_api_Accepted_l0, go_sem, reduceIte, Nat.reduceEqDiff, Nat.reduceAdd, Nat.reduceLeDiff, Nat.reducePow, Nat.reduceDiv, Nat.reduceMod, decide_true, k0, k2, k13, k14, k15]
    refine wCond_split (fun ci => ?_) (fun ci => ?_)
    · simp at ci
      obtain ⟨p, cs, hp1, hp2, hcs⟩ := (ha.up hE).index .i64 (i := i) (d := xs[i].c) (by omega) (by simp [ci])
      have hcl : cs.length = 5 := by rw [RdL_length hcs, hc]
      have ld := aload_p hp2 true 5
      rw [take_agg, hcl, if_pos (Nat.le_refl _), List.take_of_length_le (by omega)] at ld
      have sm : ∀ z : List AV, z.length = 5 → setMany z 0 cs = cs := fun z hz => setMany_new (by omega)
      have tk : cs.take 5 = cs := List.take_of_length_le (by omega)
      have e1 : IntKind.i64.wrap (↑i + 1) = (i : Int) + 1 := wrap_i64 (by omega)
      have hx := hcs.scalars
      simp only [go_sem, reduceIte, Nat.reduceEqDiff, Nat.reduceAdd, Nat.reduceLeDiff, Nat.reducePow, Nat.reduceDiv, Nat.reduceMod, decide_true, k0, k2, k13, k14, k15, hp1, ld, hcl, hx, sm, tk]
      have fl : (xs.take (i + 1)).flatMap e = (xs.take i).flatMap e ++ e xs[i] := by
        rw [List.take_succ_eq_append_getElem ci, List.flatMap_append, List.flatMap_cons, List.flatMap_nil, List.append_nil]
      have ll : (l ++ (num xs.length ++ (xs.take i).flatMap e) ++ e xs[i]).length ≤ 2^33 := by
        have e3 : xs = xs.take (i + 1) ++ xs.drop (i + 1) := (List.take_append_drop _ _).symm
        have e4 : xs.flatMap e = (xs.take (i + 1)).flatMap e ++ (xs.drop (i + 1)).flatMap e := by rw [← List.flatMap_append, List.take_append_drop]
        rw [e4, fl] at hl
        simp only [List.length_append] at hl ⊢
        omega
      refine use1 hp.1 (hp.2 nof G _ _ _ xs[i] _ (rd_abytes _ _ _) (hcs.up (Ext.b1 _)) ll) ?_
      simp only [go_sem, reduceIte, Nat.reduceEqDiff, Nat.reduceAdd, Nat.reduceLeDiff, Nat.reducePow, Nat.reduceDiv, Nat.reduceMod, decide_true, k0, k2, k13, k14, k15, e1]
      refine ⟨_, by omega, i + 1, by rw [fl]; simp only [List.append_assoc], by simp, hE.tr (Ext.b1 _), ci, rfl⟩
    · simp at ci
      obtain rfl : i = xs.length := by omega
      rw [List.take_length] at k0
      simp only [go_sem, reduceIte, Nat.reduceEqDiff, Nat.reduceAdd, Nat.reduceLeDiff, Nat.reducePow, Nat.reduceDiv, Nat.reduceMod, decide_true, k0]
      exact hE
end Glb

/-
  What the program writes as bytes: images, changes.
-/
namespace Glb
open Go
set_option maxRecDepth 10000
set_option maxHeartbeats 8000000

theorem rd_entry {e : Entry} {F : Nat → Prop} {h : AHeap} {a : List AV} (hh : RdL F h e.c a) : ∃ d, a = [.int .i64 e.term, .int .i64 e.kind, d] ∧ Rd F h (dBytes e.data) d := by
  simp only [Entry.c, rdL_int] at hh
  obtain ⟨_, rfl, _, rfl, hh⟩ := hh
  simp only [RdL] at hh
  obtain ⟨d, _, rfl, h1, rfl⟩ := hh
  exact ⟨d, rfl, h1⟩
theorem rd_log {x : Log} {F : Nat → Prop} {h : AHeap} {a : List AV} (hh : RdL F h x.c a) : ∃ d, a = [.int .i64 x.base, .int .i64 x.bterm, d] ∧ Rd F h (dEntries x.es) d := by
  simp only [Log.c, rdL_int] at hh
  obtain ⟨_, rfl, _, rfl, hh⟩ := hh
  simp only [RdL] at hh
  obtain ⟨d, _, rfl, h1, rfl⟩ := hh
  exact ⟨d, rfl, h1⟩
theorem rd_vote {x : Vote} {F : Nat → Prop} {h : AHeap} {a : List AV} (hh : RdL F h x.c a) : a = [.int .i64 x.txn, .int .i64 x.part, .int .i64 x.promised, .int .i64 x.ballot, .int .i64 x.value] := by
  simp only [Vote.c, rdL_int] at hh
  obtain ⟨_, rfl, _, rfl, _, rfl, _, rfl, _, rfl, hh⟩ := hh
  simp only [RdL] at hh
  rw [hh]
theorem rd_change {x : Change} {F : Nat → Prop} {h : AHeap} {a : List AV} (hh : RdL F h x.c a) : ∃ e o n l s, a = [.int .i64 x.kind, .int .i64 x.group, .int .i64 x.term, .int .i64 x.voted, .int .i64 x.from_, .int .i64 x.log.base, .int .i64 x.log.bterm, e, o, n, l, s,
    .int .i64 x.vote.txn, .int .i64 x.vote.part, .int .i64 x.vote.promised, .int .i64 x.vote.ballot, .int .i64 x.vote.value] ∧ Rd F h (dEntries x.log.es) e ∧ Rd F h (dInts x.conf.old) o ∧ Rd F h (dInts x.conf.new) n ∧ Rd F h (dInts x.conf.learners) l ∧ Rd F h (dBytes x.snap) s := by
  simp only [Change.c, rdL_int] at hh
  obtain ⟨_, rfl, _, rfl, _, rfl, _, rfl, _, rfl, _, rfl, _, rfl, hh⟩ := hh
  simp only [RdL] at hh
  obtain ⟨e, _, rfl, h1, o, _, rfl, h2, n, _, rfl, h3, l, _, rfl, h4, s, _, rfl, h5, _, _, rfl, h6, _, _, rfl, h7, _, _, rfl, h8, _, _, rfl, h9, _, _, rfl, h10, rfl⟩ := hh
  simp only [Rd] at h6 h7 h8 h9 h10
  subst h6 h7 h8 h9 h10
  exact ⟨e, o, n, l, s, rfl, h1, h2, h3, h4, h5⟩
theorem rd_image {x : Image} {F : Nat → Prop} {h : AHeap} {a : List AV} (hh : RdL F h x.c a) : ∃ d v, a = [d, v] ∧ Rd F h (dHards x.hards) d ∧ Rd F h (dVotes x.votes) v := by
  simp only [Image.c, RdL] at hh
  obtain ⟨d, _, rfl, h1, v, _, rfl, h2, rfl⟩ := hh
  exact ⟨d, v, rfl, h1, h2⟩

theorem row_ints {H : AHeap} {l : List Int} {g : Bool} {n k : Nat} (hn : n = l.length) (hb : H[k]? = some (some (.arr 1 (l.map fun n => [.int .i64 n]) g))) : Rd (fun _ => True) H (dInts l) (.ref k 1 0 n (some n)) := by
  subst hn
  simp only [dInts, Rd]
  exact ⟨_, .inr (.inr ⟨k, 0, l.length, _, _, g, rfl, trivial, hb, by simp, (fun c hc => by cases hc; omega), rfl⟩), by rw [List.drop_zero, List.take_of_length_le (by simp)]; exact OwnLL.rd (F := fun _ => True) _ (fun _ x => x) _ (ownLL_ints .i64 _ _ l)⟩

theorem putEntry_ok {P : Program} {f g k : FuncId} (hf : Is P f (c_image_putEntry g k)) (hg : VIntsP P g) (hk : BlobP P k) : PutT P f Entry.c entryC.enc := by
  refine ⟨hf.2, fun F G h l b x as hb ha hl => obs (upto_av _ _) (fun_sound hf.1 (Nat.le_of_ble_eq_true rfl) ?_)⟩
  show vc P (c_image_putEntry g k).code ⟨[(0, b), (1, .agg as)], [], h⟩ (atEnd (c_image_putEntry g k).res _)
  obtain ⟨d, rfl, hd⟩ := rd_entry ha
  have hn8 := nums_length
  rw [entryC_enc] at hl ⊢
  simp only [List.length_append, num_length] at hl
  simp only [c_image_putEntry, go_sem, reduceIte, Nat.reduceEqDiff, Nat.reduceAdd, Nat.reduceLeDiff, Nat.reducePow, Nat.reduceDiv, Nat.reduceMod, decide_true, hd.scalar]
  refine use1 hg.1 (hg.2 _ (fun _ => True) _ l [x.term, x.kind] b _ (hb.up (Ext.b2 _ _)) (row_ints rfl (bx21 _ _ _)) (by simp) (by simp only [List.length_append, hn8, List.length_cons, List.length_nil]; omega)) ?_
  simp only [go_sem, reduceIte, Nat.reduceEqDiff, Nat.reduceAdd, Nat.reduceLeDiff, Nat.reducePow, Nat.reduceDiv, Nat.reduceMod, decide_true]
  refine use1 hk.1 (hk.2 nof G _ _ x.data _ d (rd_abytes _ _ _) (hd.up (Ext.b2 _ _)) (by simp only [List.length_append, hn8, List.length_cons, List.length_nil]; omega) (by omega)) ?_
  simp only [go_sem, reduceIte, Nat.reduceEqDiff, Nat.reduceAdd, Nat.reduceLeDiff, Nat.reducePow, Nat.reduceDiv, Nat.reduceMod, decide_true]
  exact ⟨by simp only [nums, List.append_nil, List.append_assoc], Ext.b2 _ _⟩

theorem putLog_ok {P : Program} {f g k p : FuncId} (hf : Is P f (c_image_putLog g k p)) (hg : VIntsP P g) (hk : PutL P k 3 Entry.c entryC.enc) (hp : PutT P p Entry.c entryC.enc) : PutT P f Log.c logC.enc := by
  refine ⟨hf.2, fun F G h l b x as hb ha hl => obs (upto_av _ _) (fun_sound hf.1 (Nat.le_of_ble_eq_true rfl) ?_)⟩
  show vc P (c_image_putLog g k p).code ⟨[(0, b), (1, .agg as)], [], h⟩ (atEnd (c_image_putLog g k p).res _)
  obtain ⟨d, rfl, hd⟩ := rd_log ha
  have hn8 := nums_length
  have hfb := flat_big entryC x.es
  rw [logC_enc] at hl ⊢
  simp only [List.length_append, num_length] at hl
  simp only [c_image_putLog, go_sem, reduceIte, Nat.reduceEqDiff, Nat.reduceAdd, Nat.reduceLeDiff, Nat.reducePow, Nat.reduceDiv, Nat.reduceMod, decide_true, hd.scalar]
  refine use1 hg.1 (hg.2 _ (fun _ => True) _ l [x.base, x.bterm] b _ (hb.up (Ext.b2 _ _)) (row_ints rfl (bx21 _ _ _)) (by simp) (by simp only [List.length_append, hn8, List.length_cons, List.length_nil]; omega)) ?_
  simp only [go_sem, reduceIte, Nat.reduceEqDiff, Nat.reduceAdd, Nat.reduceLeDiff, Nat.reducePow, Nat.reduceDiv, Nat.reduceMod, decide_true]
  refine use1 hk.1 (hk.2 p hp nof G _ _ _ x.es d (rd_abytes _ _ _) (hd.up (Ext.b2 _ _)) (by omega) (by simp only [List.length_append, hn8, num_length, List.length_cons, List.length_nil]; omega)) ?_
  simp only [go_sem, reduceIte, Nat.reduceEqDiff, Nat.reduceAdd, Nat.reduceLeDiff, Nat.reducePow, Nat.reduceDiv, Nat.reduceMod, decide_true]
  exact ⟨by simp only [nums, List.append_nil, List.append_assoc], Ext.b2 _ _⟩

theorem putVote_ok {P : Program} {f g : FuncId} (hf : Is P f (c_image_putVote g)) (hg : VIntsP P g) : PutT P f Vote.c voteC.enc := by
  refine ⟨hf.2, fun F G h l b x as hb ha hl => obs (upto_av _ _) (fun_sound hf.1 (Nat.le_of_ble_eq_true rfl) ?_)⟩
  show vc P (c_image_putVote g).code ⟨[(0, b), (1, .agg as)], [], h⟩ (atEnd (c_image_putVote g).res _)
  obtain rfl := rd_vote ha
  rw [voteC_enc] at hl ⊢
  simp only [c_image_putVote, go_sem, reduceIte, Nat.reduceEqDiff, Nat.reduceAdd, Nat.reduceLeDiff, Nat.reducePow, Nat.reduceDiv, Nat.reduceMod, decide_true]
  refine use1 hg.1 (hg.2 _ (fun _ => True) _ l [x.txn, x.part, x.promised, x.ballot, x.value] b _ (hb.up (Ext.b2 _ _)) (row_ints rfl (bx21 _ _ _)) (by simp) hl) ?_
  simp only [go_sem, reduceIte, Nat.reduceEqDiff, Nat.reduceAdd, Nat.reduceLeDiff, Nat.reducePow, Nat.reduceDiv, Nat.reduceMod, decide_true]
  exact Ext.b2 _ _

theorem putHard_ok {P : Program} {f g lo co k : FuncId} (hf : Is P f (c_image_putHard g lo co k)) (hg : VIntsP P g) (hlo : PutT P lo Log.c logC.enc) (hco : PutT P co Conf.c Conf.bytes) (hk : BlobP P k) : PutT P f Hard.c hardC.enc := by
  refine ⟨hf.2, fun F G h l b x as hb ha hl => obs (upto_av _ _) (fun_sound hf.1 (Nat.le_of_ble_eq_true rfl) ?_)⟩
  show vc P (c_image_putHard g lo co k).code ⟨[(0, b), (1, .agg as)], [], h⟩ (atEnd (c_image_putHard g lo co k).res _)
  obtain ⟨e, o, n, d, s, rfl, he, ho, hn, hd, hs⟩ := rd_hard ha
  have hn8 := nums_length
  rw [hardC_enc] at hl ⊢
  simp only [List.length_append, hn8, num_length, List.length_cons, List.length_nil] at hl
  simp only [c_image_putHard, Hard.cells, go_sem, reduceIte, Nat.reduceEqDiff, Nat.reduceAdd, Nat.reduceLeDiff, Nat.reducePow, Nat.reduceDiv, Nat.reduceMod, decide_true, he.scalar, ho.scalar, hn.scalar, hd.scalar, hs.scalar]
  refine use1 hg.1 (hg.2 _ (fun _ => True) _ l [x.group, x.term, x.vote] b _ (hb.up (Ext.b2 _ _)) (row_ints rfl (bx21 _ _ _)) (by simp) (by simp only [List.length_append, hn8, List.length_cons, List.length_nil]; omega)) ?_
  simp only [go_sem, reduceIte, Nat.reduceEqDiff, Nat.reduceAdd, Nat.reduceLeDiff, Nat.reducePow, Nat.reduceDiv, Nat.reduceMod, decide_true]
  refine use1 hlo.1 (hlo.2 nof G _ _ _ x.log _ (rd_abytes _ _ _) ((log_rd he).up (Ext.b2 _ _)) (by simp only [List.length_append, hn8, List.length_cons, List.length_nil]; omega)) ?_
  simp only [go_sem, reduceIte, Nat.reduceEqDiff, Nat.reduceAdd, Nat.reduceLeDiff, Nat.reducePow, Nat.reduceDiv, Nat.reduceMod, decide_true]
  refine use1 hco.1 (hco.2 nof G _ _ _ x.conf _ (rd_abytes _ _ _) ((conf_rd ho hn hd).up (Ext.b2 _ _)) (by simp only [List.length_append, hn8, List.length_cons, List.length_nil]; omega)) ?_
  simp only [go_sem, reduceIte, Nat.reduceEqDiff, Nat.reduceAdd, Nat.reduceLeDiff, Nat.reducePow, Nat.reduceDiv, Nat.reduceMod, decide_true]
  refine use1 hk.1 (hk.2 nof G _ _ x.snap _ s (rd_abytes _ _ _) (hs.up (Ext.b2 _ _)) (by simp only [List.length_append, hn8, List.length_cons, List.length_nil]; omega) (by omega)) ?_
  simp only [go_sem, reduceIte, Nat.reduceEqDiff, Nat.reduceAdd, Nat.reduceLeDiff, Nat.reducePow, Nat.reduceDiv, Nat.reduceMod, decide_true]
  exact ⟨by simp only [List.append_assoc], Ext.b2 _ _⟩

theorem vote_rd {x : Vote} {F : Nat → Prop} {h : AHeap} : RdL F h x.c [.int .i64 x.txn, .int .i64 x.part, .int .i64 x.promised, .int .i64 x.ballot, .int .i64 x.value] := by
  simp only [Vote.c, RdL, Rd]; exact ⟨_, _, rfl, rfl, _, _, rfl, rfl, _, _, rfl, rfl, _, _, rfl, rfl, _, _, rfl, rfl, rfl⟩

theorem putChange_ok {P : Program} {f g lo co k vo : FuncId} (hf : Is P f (c_image_putChange g lo co k vo)) (hg : VIntsP P g) (hlo : PutT P lo Log.c logC.enc) (hco : PutT P co Conf.c Conf.bytes) (hk : BlobP P k) (hv : PutT P vo Vote.c voteC.enc) : PutT P f Change.c changeC.enc := by
  refine ⟨hf.2, fun F G h l b x as hb ha hl => obs (upto_av _ _) (fun_sound hf.1 (Nat.le_of_ble_eq_true rfl) ?_)⟩
  show vc P (c_image_putChange g lo co k vo).code ⟨[(0, b), (1, .agg as)], [], h⟩ (atEnd (c_image_putChange g lo co k vo).res _)
  obtain ⟨e, o, n, d, s, rfl, he, ho, hn, hd, hs⟩ := rd_change ha
  have hn8 := nums_length
  rw [changeC_enc] at hl ⊢
  have hve := voteC_enc x.vote
  simp only [List.length_append, hn8, num_length, List.length_cons, List.length_nil] at hl
  simp only [c_image_putChange, go_sem, reduceIte, Nat.reduceEqDiff, Nat.reduceAdd, Nat.reduceLeDiff, Nat.reducePow, Nat.reduceDiv, Nat.reduceMod, decide_true, he.scalar, ho.scalar, hn.scalar, hd.scalar, hs.scalar]
  refine use1 hg.1 (hg.2 _ (fun _ => True) _ l [x.kind, x.group, x.term, x.voted, x.from_] b _ (hb.up (Ext.b2 _ _)) (row_ints rfl (bx21 _ _ _)) (by simp) (by simp only [List.length_append, hn8, List.length_cons, List.length_nil]; omega)) ?_
  simp only [go_sem, reduceIte, Nat.reduceEqDiff, Nat.reduceAdd, Nat.reduceLeDiff, Nat.reducePow, Nat.reduceDiv, Nat.reduceMod, decide_true]
  refine use1 hlo.1 (hlo.2 nof G _ _ _ x.log _ (rd_abytes _ _ _) ((log_rd he).up (Ext.b2 _ _)) (by simp only [List.length_append, hn8, List.length_cons, List.length_nil]; omega)) ?_
  simp only [go_sem, reduceIte, Nat.reduceEqDiff, Nat.reduceAdd, Nat.reduceLeDiff, Nat.reducePow, Nat.reduceDiv, Nat.reduceMod, decide_true]
  refine use1 hco.1 (hco.2 nof G _ _ _ x.conf _ (rd_abytes _ _ _) ((conf_rd ho hn hd).up (Ext.b2 _ _)) (by simp only [List.length_append, hn8, List.length_cons, List.length_nil]; omega)) ?_
  simp only [go_sem, reduceIte, Nat.reduceEqDiff, Nat.reduceAdd, Nat.reduceLeDiff, Nat.reducePow, Nat.reduceDiv, Nat.reduceMod, decide_true]
  refine use1 hk.1 (hk.2 nof G _ _ x.snap _ s (rd_abytes _ _ _) (hs.up (Ext.b2 _ _)) (by simp only [List.length_append, hn8, List.length_cons, List.length_nil]; omega) (by omega)) ?_
  simp only [go_sem, reduceIte, Nat.reduceEqDiff, Nat.reduceAdd, Nat.reduceLeDiff, Nat.reducePow, Nat.reduceDiv, Nat.reduceMod, decide_true]
  refine use1 hv.1 (hv.2 nof nof _ _ _ x.vote _ (rd_abytes _ _ _) vote_rd (by simp only [List.length_append, hn8, num_length, List.length_cons, List.length_nil]; omega)) ?_
  simp only [go_sem, reduceIte, Nat.reduceEqDiff, Nat.reduceAdd, Nat.reduceLeDiff, Nat.reducePow, Nat.reduceDiv, Nat.reduceMod, decide_true]
  exact ⟨by simp only [List.append_assoc], Ext.b2 _ _⟩

def PutImgP (P : Program) (f : FuncId) : Prop := isFn P f = true ∧ ∀ (G : Nat → Prop) (h : AHeap) (x : Image) (as : List AV), RdL G h x.c as → (imageC.enc x).length ≤ 2^33 → ACalls P f [.agg as] h fun r h' => r = abytes (imageC.enc x) ∧ h' = h
theorem Put_ok {P : Program} {f lh ph lv pv : FuncId} (hf : Is P f (c_image_Put lh ph lv pv)) (hlh : PutL P lh 10 Hard.c hardC.enc) (hph : PutT P ph Hard.c hardC.enc) (hlv : PutL P lv 5 Vote.c voteC.enc) (hpv : PutT P pv Vote.c voteC.enc) : PutImgP P f := by
  refine ⟨hf.2, fun G h x as ha hl => obs (upto_av _ _) (fun_sound hf.1 (Nat.le_of_ble_eq_true rfl) ?_)⟩
  show vc P (c_image_Put lh ph lv pv).code ⟨[(0, .agg as)], [], h⟩ (atEnd (c_image_Put lh ph lv pv).res _)
  obtain ⟨d, v, rfl, hd, hv⟩ := rd_image ha
  have f1 := flat_big hardC x.hards
  have f2 := flat_big voteC x.votes
  rw [imageC_enc] at hl ⊢
  simp only [List.length_append, num_length] at hl
  simp only [c_image_Put, go_sem, reduceIte, Nat.reduceEqDiff, Nat.reduceAdd, Nat.reduceLeDiff, Nat.reducePow, Nat.reduceDiv, Nat.reduceMod, decide_true, hd.scalar, hv.scalar]
  refine use1 hlh.1 (hlh.2 ph hph nof G _ [] _ x.hards d (Rd.nils 1) (hd.up (Ext.b1 _)) (by omega) (by simp only [List.nil_append, List.length_append, num_length]; omega)) ?_
  simp only [go_sem, reduceIte, Nat.reduceEqDiff, Nat.reduceAdd, Nat.reduceLeDiff, Nat.reducePow, Nat.reduceDiv, Nat.reduceMod, decide_true]
  refine use1 hlv.1 (hlv.2 pv hpv nof G _ _ _ x.votes v (rd_abytes _ _ _) (hv.up (Ext.b1 _)) (by omega) (by simp only [List.nil_append, List.length_append, num_length]; omega)) ?_
  simp only [go_sem, reduceIte, Nat.reduceEqDiff, Nat.reduceAdd, Nat.reduceLeDiff, Nat.reducePow, Nat.reduceDiv, Nat.reduceMod, decide_true]
  exact Ext.b1 _

end Glb

/-
  What the document writes as bytes.
-/
namespace Glb
open Go
set_option maxRecDepth 10000
set_option maxHeartbeats 8000000

end Glb
