/-
  A library of its own: its parts, one behind the other.
-/
import Derived.Test.YtdeiamnhnfmilaaGreatGlbKitB
import Derived.Test.YtdeiamnhnfmilaaGreatGlbQuoA
import Derived.Test.YtdeiamnhnfmilaaGreatGlbMorA
import Derived.Test.YtdeiamnhnfmilaaGreatGlbCimage
import Derived.Test.YtdeiamnhnfmilaaGreatGlbLibB
set_option linter.unusedSimpArgs false
set_option linter.unusedVariables false
namespace Glb
open Go
open Nat (reduceSub)
set_option maxRecDepth 10000
abbrev Rdr := Option (List Int)
def valU (l : List Int) : Int := l.foldl (fun v x => v * 256 + x) 0
def valOf (l : List Int) : Int := IntKind.i64.wrap (valU l)
def i64ok (n : Int) : Prop := -9223372036854775808 <= n /\ n <= 9223372036854775807
def bytesOk (l : List Int) : Prop := ∀ x ∈ l, 0 <= x /\ x < 256
theorem bytesOk.take {l : List Int} (h : bytesOk l) (n : Nat) : bytesOk (l.take n) := fun x hx => h x (List.mem_of_mem_take hx)
theorem bytesOk.drop {l : List Int} (h : bytesOk l) (n : Nat) : bytesOk (l.drop n) := fun x hx => h x (List.mem_of_mem_drop hx)
theorem wrap_i64_eq (x : Int) : IntKind.i64.wrap x = (x + 9223372036854775808) % 18446744073709551616 - 9223372036854775808 := by
 simp only [IntKind.wrap, IntKind.bits, IntKind.signed]
 simp
 split <;> omega
theorem byteOf_eq (v : Int) (k : Nat) (hk : k <= 7) : byteOf v (7 - k) = (v % 18446744073709551616) / 256 ^ k % 256 := by
 rw [byteOf_low v k hk, wrap_u64]
theorem num_eq (v : Int) : num v = [(v % 18446744073709551616) / 72057594037927936 % 256, (v % 18446744073709551616) / 281474976710656 % 256, (v % 18446744073709551616) / 1099511627776 % 256, (v % 18446744073709551616) / 4294967296 % 256,
  (v % 18446744073709551616) / 16777216 % 256, (v % 18446744073709551616) / 65536 % 256, (v % 18446744073709551616) / 256 % 256, (v % 18446744073709551616) % 256] := by
 have h0 := byteOf_eq v 0 (by omega)
 have h1 := byteOf_eq v 1 (by omega)
 have h2 := byteOf_eq v 2 (by omega)
 have h3 := byteOf_eq v 3 (by omega)
 have h4 := byteOf_eq v 4 (by omega)
 have h5 := byteOf_eq v 5 (by omega)
 have h6 := byteOf_eq v 6 (by omega)
 have h7 := byteOf_eq v 7 (by omega)
 simp only [reduceSub, Int.reducePow] at h0 h1 h2 h3 h4 h5 h6 h7
 simp only [num, h0, h1, h2, h3, h4, h5, h6, h7, Int.ediv_one]
theorem num_bytes (v : Int) : bytesOk (num v) := by
 rw [num_eq]
 intro x hx
 simp only [List.mem_cons, List.not_mem_nil, or_false] at hx
 rcases hx with rfl | rfl | rfl | rfl | rfl | rfl | rfl | rfl <;> omega
theorem valU_eight (a b c d e f g h : Int) : valU [a, b, c, d, e, f, g, h] = a * 72057594037927936 + b * 281474976710656 + c * 1099511627776 + d * 4294967296 + e * 16777216 + f * 65536 + g * 256 + h := by
 simp only [valU, List.foldl_cons, List.foldl_nil]; omega
theorem valOf_num {v : Int} (h : i64ok v) : valOf (num v) = v := by
 rw [num_eq, valOf, valU_eight, wrap_i64_eq]
 obtain ⟨h1, h2⟩ := h
 have : v % 18446744073709551616 = (if v < 0 then v + 18446744073709551616 else v) := by split <;> omega
 generalize v % 18446744073709551616 = u at *
 split at this <;> omega
theorem num_valOf {l : List Int} (h : l.length = 8) (hb : bytesOk l) : num (valOf l) = l /\ i64ok (valOf l) := by
 match l, h with
 | [a, b, c, d, e, f, g, k], _ =>
  have ha := hb a (by simp)
  have hb' := hb b (by simp)
  have hc := hb c (by simp)
  have hd := hb d (by simp)
  have he := hb e (by simp)
  have hf := hb f (by simp)
  have hg := hb g (by simp)
  have hk := hb k (by simp)
  have hu : (valOf [a, b, c, d, e, f, g, k]) % 18446744073709551616 = a * 72057594037927936 + b * 281474976710656 + c * 1099511627776 + d * 4294967296 + e * 16777216 + f * 65536 + g * 256 + k := by
   rw [valOf, valU_eight, wrap_i64_eq]; omega
  refine ⟨?_, by rw [valOf, wrap_i64_eq]; constructor <;> omega⟩
  rw [num_eq, hu]
  simp only [List.cons.injEq, and_true]
  refine ⟨by omega, by omega, by omega, by omega, by omega, by omega, by omega, by omega⟩
structure Codec (T : Type) where
 enc : T -> List Int
 dec : Rdr -> T × Rdr
 ok : T -> Prop
 bad : (dec none).2 = none
 big : ∀ x, 8 <= (enc x).length
 bytes : ∀ x, ok x -> bytesOk (enc x)
 back : ∀ x r, ok x -> dec (some (enc x ++ r)) = (x, some r)
 only : ∀ l x r, bytesOk l -> dec (some l) = (x, some r) -> l = enc x ++ r /\ ok x
 ext : ∀ l x r t, dec (some l) = (x, some r) -> dec (some (l ++ t)) = (x, some (r ++ t))
theorem bytesOk.app {a b : List Int} (h : bytesOk a) (h' : bytesOk b) : bytesOk (a ++ b) := fun x hx => (List.mem_append.1 hx).elim (h x) (h' x)
theorem bytesOk.right {a b : List Int} (h : bytesOk (a ++ b)) : bytesOk b := fun x hx => h x (List.mem_append.2 (.inr hx))
def rInt : Rdr -> Int × Rdr
 | none => (0, none)
 | some l => if l.length < 8 then (0, none) else (valOf (l.take 8), some (l.drop 8))
def intC : Codec Int where
 enc := num
 dec := rInt
 ok := i64ok
 bad := rfl
 big _ := by simp [num_length]
 bytes v _ := num_bytes v
 back v r h := by
  simp only [rInt, List.length_append, num_length]
  rw [if_neg (by omega), List.take_left' (num_length v), List.drop_left' (num_length v), valOf_num h]
 only l x r hb h := by
  simp only [rInt] at h
  split at h
  ·simp at h
  ·rename_i hl
   simp only [Prod.mk.injEq, Option.some.injEq] at h
   obtain ⟨rfl, rfl⟩ := h
   obtain ⟨h1, h2⟩ := num_valOf (l := l.take 8) (by simp; omega) (hb.take 8)
   exact ⟨by rw [h1, List.take_append_drop], h2⟩
 ext l x r t h := by
  simp only [rInt] at h ⊢
  split at h
  ·simp at h
  ·rename_i hl
   simp only [Prod.mk.injEq, Option.some.injEq] at h
   obtain ⟨rfl, rfl⟩ := h
   rw [if_neg (by simp; omega), List.take_append_of_le_length (by omega), List.drop_append_of_le_length (by omega)]
def rBlob (r : Rdr) : List Int × Rdr :=
 match rInt r with
 | (_, none) => ([], none)
 | (n, some l) => if n < 0 \/ (l.length : Int) < n then ([], none) else (l.take n.toNat, some (l.drop n.toNat))
theorem rBlob_some {l a r : List Int} (h : rBlob (some l) = (a, some r)) : 8 <= l.length /\ ∃ n : Nat, valOf (l.take 8) = n /\ n <= l.length - 8 /\ a = (l.drop 8).take n /\ r = (l.drop 8).drop n := by
 simp only [rBlob, rInt] at h
 split at h
 ·cases h
 ·rename_i n l' heq
  split at heq
  ·cases heq
  ·rename_i hl
   simp only [Prod.mk.injEq, Option.some.injEq] at heq
   obtain ⟨rfl, rfl⟩ := heq
   split at h
   ·cases h
   ·rename_i hn
    simp only [Prod.mk.injEq, Option.some.injEq] at h
    simp only [List.length_drop] at hn
    exact ⟨by omega, (valOf (l.take 8)).toNat, by omega, by omega, h.1.symm, h.2.symm⟩
theorem rBlob_of {l : List Int} {n : Nat} (h8 : 8 <= l.length) (hv : valOf (l.take 8) = n) (hn : n <= l.length - 8) : rBlob (some l) = ((l.drop 8).take n, some ((l.drop 8).drop n)) := by
 simp only [rBlob, rInt]
 rw [if_neg (by omega)]
 simp only [hv]
 rw [if_neg (by simp; omega)]
 simp
def blobOk (p : List Int) : Prop := p.length <= 9223372036854775807 /\ bytesOk p
theorem i64ok_len {n : Nat} (h : n <= 9223372036854775807) : i64ok (n : Int) := by constructor <;> omega
def blobC : Codec (List Int) where
 enc p := num p.length ++ p
 dec := rBlob
 ok := blobOk
 bad := rfl
 big p := by simp [num_length]
 bytes p h := (num_bytes _).app h.2
 back p r h := by
  have e8 : (num p.length).length = 8 := num_length _
  rw [rBlob_of (n := p.length) (by simp [e8]) (by rw [List.append_assoc, List.take_left' e8, valOf_num (i64ok_len h.1)]) (by simp [e8])]
  rw [List.append_assoc, List.drop_left' e8, List.take_left' rfl, List.drop_left' rfl]
 only l x r hb h := by
  obtain ⟨h8, n, hv, hn, rfl, rfl⟩ := rBlob_some h
  obtain ⟨h1, h2⟩ := num_valOf (l := l.take 8) (by simp; omega) (hb.take 8)
  have hlen : ((l.drop 8).take n).length = n := by simp; omega
  rw [hv] at h1 h2
  refine ⟨?_, by rw [hlen]; exact (by have := h2.2; omega), (hb.drop 8).take n⟩
  rw [hlen, h1, List.append_assoc, List.take_append_drop, List.take_append_drop]
 ext l x r t h := by
  obtain ⟨h8, n, hv, hn, rfl, rfl⟩ := rBlob_some h
  rw [rBlob_of (n := n) (by simp; omega) (by rw [List.take_append_of_le_length h8]; exact hv) (by simp; omega)]
  rw [List.drop_append_of_le_length h8, List.take_append_of_le_length (by simp; omega), List.drop_append_of_le_length (by simp; omega)]
def pairC {A B : Type} (a : Codec A) (b : Codec B) : Codec (A × B) where
 enc x := a.enc x.1 ++ b.enc x.2
 dec r := (((a.dec r).1, (b.dec (a.dec r).2).1), (b.dec (a.dec r).2).2)
 ok x := a.ok x.1 /\ b.ok x.2
 bad := by simp only [a.bad, b.bad]
 big x := by have := a.big x.1; simp; omega
 bytes x h := (a.bytes _ h.1).app (b.bytes _ h.2)
 back x r h := by
  rw [List.append_assoc, a.back x.1 _ h.1, b.back x.2 _ h.2]
 only l x r hb h := by
  obtain ⟨x1, x2⟩ := x
  cases hd : a.dec (some l) with
  | mk y s =>
   rw [hd] at h
   cases s with
   | none => simp only [b.bad, Prod.mk.injEq, reduceCtorEq, and_false] at h
   | some m =>
    obtain ⟨e1, o1⟩ := a.only l y m hb hd
    simp only [Prod.mk.injEq] at h
    obtain ⟨⟨rfl, h2⟩, h3⟩ := h
    have hbm : bytesOk m := bytesOk.right (e1 ▸ hb)
    obtain ⟨e2, o2⟩ := b.only m x2 r hbm (Prod.ext h2 h3)
    exact ⟨by rw [e1, e2, List.append_assoc], o1, o2⟩
 ext l x r t h := by
  obtain ⟨x1, x2⟩ := x
  cases hd : a.dec (some l) with
  | mk y s =>
   rw [hd] at h
   cases s with
   | none => simp only [b.bad, Prod.mk.injEq, reduceCtorEq, and_false] at h
   | some m =>
    simp only [Prod.mk.injEq] at h
    obtain ⟨⟨rfl, h2⟩, h3⟩ := h
    rw [a.ext l _ m t hd, b.ext m x2 r t (Prod.ext h2 h3)]
def isoC {A B : Type} (a : Codec A) (f : A -> B) (g : B -> A) (fg : ∀ b, f (g b) = b) (gf : ∀ x, g (f x) = x) : Codec B where
 enc x := a.enc (g x)
 dec r := (f (a.dec r).1, (a.dec r).2)
 ok x := a.ok (g x)
 bad := a.bad
 big x := a.big _
 bytes x h := a.bytes _ h
 back x r h := by rw [a.back _ _ h]; simp only [fg]
 only l x r hb h := by
  simp only [Prod.mk.injEq] at h
  obtain ⟨rfl, h2⟩ := h
  rw [gf]
  exact a.only l _ r hb (Prod.ext rfl h2)
 ext l x r t h := by
  simp only [Prod.mk.injEq] at h
  obtain ⟨rfl, h2⟩ := h
  rw [a.ext l _ r t (Prod.ext rfl h2)]
def readN {T : Type} (f : Rdr -> T × Rdr) : Nat -> Rdr -> List T × Rdr
 | 0, r => ([], r)
 | n + 1, r => match f r with
  | (_, none) => ([], none)
  | (x, some l) => ((x :: (readN f n (some l)).1), (readN f n (some l)).2)
def rMany (r : Rdr) : Int × Rdr :=
 match rInt r with
 | (_, none) => (0, none)
 | (n, some l) => if n < 0 \/ (l.length / 8 : Nat) < n then (0, none) else (n, some l)
def rList {T : Type} (f : Rdr -> T × Rdr) (r : Rdr) : List T × Rdr := match rMany r with
 | (_, none) => ([], none)
 | (n, some l) => readN f n.toNat (some l)
theorem rMany_some {l r : List Int} {n : Int} (h : rMany (some l) = (n, some r)) : 8 <= l.length /\ valOf (l.take 8) = n /\ 0 <= n /\ n <= ((l.length - 8) / 8 : Nat) /\ r = l.drop 8 := by
 simp only [rMany, rInt] at h
 split at h
 ·cases h
 ·rename_i n l' heq
  split at heq
  ·cases heq
  ·rename_i hl
   simp only [Prod.mk.injEq, Option.some.injEq] at heq
   obtain ⟨rfl, rfl⟩ := heq
   split at h
   ·cases h
   ·rename_i hn
    simp only [Prod.mk.injEq, Option.some.injEq] at h
    simp only [List.length_drop] at hn
    obtain ⟨rfl, rfl⟩ := h
    exact ⟨by omega, rfl, by omega, by omega, rfl⟩
theorem rMany_of {l : List Int} {n : Int} (h8 : 8 <= l.length) (hv : valOf (l.take 8) = n) (h0 : 0 <= n) (hn : n <= ((l.length - 8) / 8 : Nat)) : rMany (some l) = (n, some (l.drop 8)) := by
 simp only [rMany, rInt]
 rw [if_neg (by omega)]
 simp only [hv]
 rw [if_neg (by simp only [List.length_drop]; omega)]
theorem flat_big {T : Type} (c : Codec T) : ∀ xs : List T, 8 * xs.length <= (xs.flatMap c.enc).length
 | [] => by simp
 | x :: r => by have h1 := flat_big c r; have h2 := c.big x; simp only [List.flatMap_cons, List.length_append, List.length_cons]; omega
theorem readN_back {T : Type} (c : Codec T) : ∀ (xs : List T) (r : List Int), (∀ x ∈ xs, c.ok x) -> readN c.dec xs.length (some (xs.flatMap c.enc ++ r)) = (xs, some r)
 | [], r, _ => rfl
 | x :: xs, r, h => by
  simp only [List.length_cons, readN, List.flatMap_cons, List.append_assoc]
  rw [c.back x _ (h x (by simp))]
  simp only [readN_back c xs r (fun y hy => h y (by simp [hy]))]
theorem readN_only {T : Type} (c : Codec T) : ∀ (n : Nat) (l : List Int) (xs : List T) (r : List Int), bytesOk l -> readN c.dec n (some l) = (xs, some r) -> l = xs.flatMap c.enc ++ r /\ xs.length = n /\ ∀ x ∈ xs, c.ok x
 | 0, l, xs, r, _, h => by simp only [readN, Prod.mk.injEq, Option.some.injEq] at h; obtain ⟨rfl, rfl⟩ := h; simp
 | n + 1, l, xs, r, hb, h => by
  simp only [readN] at h
  split at h
  ·cases h
  ·rename_i x m hd
   simp only [Prod.mk.injEq] at h
   obtain ⟨rfl, h2⟩ := h
   obtain ⟨e1, o1⟩ := c.only l x m hb hd
   obtain ⟨e2, l2, o2⟩ := readN_only c n m _ r (bytesOk.right (e1 ▸ hb)) (Prod.ext rfl h2)
   refine ⟨by rw [List.flatMap_cons, List.append_assoc, <- e2]; exact e1, by simp [l2], fun y hy => ?_⟩
   rcases List.mem_cons.1 hy with rfl | hy
   ·exact o1
   ·exact o2 y hy
theorem readN_ext {T : Type} (c : Codec T) : ∀ (n : Nat) (l : List Int) (xs : List T) (r t : List Int), readN c.dec n (some l) = (xs, some r) -> readN c.dec n (some (l ++ t)) = (xs, some (r ++ t))
 | 0, l, xs, r, t, h => by simp only [readN, Prod.mk.injEq, Option.some.injEq] at h ⊢; obtain ⟨rfl, rfl⟩ := h; simp
 | n + 1, l, xs, r, t, h => by
  simp only [readN] at h ⊢
  split at h
  ·cases h
  ·rename_i x m hd
   simp only [Prod.mk.injEq] at h
   obtain ⟨rfl, h2⟩ := h
   rw [c.ext l x m t hd]
   simp only [readN_ext c n m _ r t (Prod.ext rfl h2)]
def listC {T : Type} (c : Codec T) : Codec (List T) where
 enc xs := num xs.length ++ xs.flatMap c.enc
 dec := rList c.dec
 ok xs := xs.length <= 9223372036854775807 /\ ∀ x ∈ xs, c.ok x
 bad := rfl
 big xs := by simp [num_length]
 bytes xs h := (num_bytes _).app fun b hb => by
  obtain ⟨x, h1, h2⟩ := List.mem_flatMap.1 hb
  exact c.bytes x (h.2 x h1) b h2
 back xs r h := by
  have e8 : (num xs.length).length = 8 := num_length _
  have fb := flat_big c xs
  simp only [rList]
  rw [rMany_of (n := xs.length) (by simp [e8]) (by rw [List.append_assoc, List.take_left' e8, valOf_num (i64ok_len h.1)]) (by omega) (by simp only [List.length_append, e8]; omega)]
  rw [List.append_assoc, List.drop_left' e8]
  simpa using readN_back c xs r h.2
 only l xs r hb h := by
  simp only [rList] at h
  split at h
  ·cases h
  ·rename_i n m hm
   obtain ⟨h8, hv, h0, hn, rfl⟩ := rMany_some hm
   obtain ⟨e1, e2, o⟩ := readN_only c _ _ _ _ (hb.drop 8) h
   obtain ⟨h1, h2⟩ := num_valOf (l := l.take 8) (by simp; omega) (hb.take 8)
   rw [hv] at h1 h2
   have en : (xs.length : Int) = n := by omega
   refine ⟨by rw [en, h1, List.append_assoc, <- e1, List.take_append_drop], by have := h2.2; omega, o⟩
 ext l xs r t h := by
  simp only [rList] at h ⊢
  split at h
  ·cases h
  ·rename_i n m hm
   obtain ⟨h8, hv, h0, hn, rfl⟩ := rMany_some hm
   rw [rMany_of (n := n) (by simp; omega) (by rw [List.take_append_of_le_length h8]; exact hv) h0 (by simp; omega)]
   simp only
   rw [List.drop_append_of_le_length h8]
   exact readN_ext c _ _ _ _ t h
theorem nums_flat : ∀ l : List Int, nums l = l.flatMap num
 | [] => rfl
 | x :: r => by simp only [nums, List.flatMap_cons, nums_flat r]
end Glb
namespace Glb
open Go
open Nat (reduceSub)
set_option maxRecDepth 10000
structure Vote where
 txn : Int
 part : Int
 promised : Int
 ballot : Int
 value : Int
 deriving DecidableEq
structure Change where
 kind : Int
 group : Int
 term : Int
 voted : Int
 from_ : Int
 log : Log
 conf : Conf
 snap : List Int
 vote : Vote
 deriving DecidableEq
def Vote.c (v : Vote) : List D := [.int .i64 v.txn, .int .i64 v.part, .int .i64 v.promised, .int .i64 v.ballot, .int .i64 v.value]
def dHards (l : List Hard) : D := .sl 10 (l.map Hard.c)
def dVotes (l : List Vote) : D := .sl 5 (l.map Vote.c)
def Change.c (x : Change) : List D := [.int .i64 x.kind, .int .i64 x.group, .int .i64 x.term, .int .i64 x.voted, .int .i64 x.from_, .int .i64 x.log.base, .int .i64 x.log.bterm, dEntries x.log.es, dInts x.conf.old, dInts x.conf.new, dInts x.conf.learners, dBytes x.snap,
 .int .i64 x.vote.txn, .int .i64 x.vote.part, .int .i64 x.vote.promised, .int .i64 x.vote.ballot, .int .i64 x.vote.value]
def dChanges (l : List Change) : D := .sl 17 (l.map Change.c)
def intsC : Codec (List Int) := listC intC
def confC : Codec Conf := isoC (pairC intsC (pairC intsC intsC)) (fun p => ⟨p.1, p.2.1, p.2.2⟩) (fun e => (e.old, e.new, e.learners)) (fun _ => rfl) (fun _ => rfl)
theorem intsC_enc (l : List Int) : intsC.enc l = num l.length ++ nums l := by simp only [intsC, listC, nums_flat]; rfl
theorem confC_enc (x : Conf) : confC.enc x = x.bytes := by simp only [confC, isoC, pairC, intsC_enc, Conf.bytes, List.append_assoc]
end Glb
namespace Glb
open Go
open Nat (reduceSub)
set_option maxRecDepth 10000
set_option maxHeartbeats 8000000
end Glb
namespace Glb
open Go
open Nat (reduceSub)
set_option maxRecDepth 10000
set_option maxHeartbeats 8000000
theorem rd_entry {e : Entry} {F : Nat -> Prop} {h : AHeap} {a : List AV} (hh : RdL F h e.c a) : ∃ d, a = [.int .i64 e.term, .int .i64 e.kind, d] /\ Rd F h (dBytes e.data) d := by
 simp only [Entry.c, rdL_int] at hh
 obtain ⟨_, rfl, _, rfl, hh⟩ := hh
 simp only [RdL] at hh
 obtain ⟨d, _, rfl, h1, rfl⟩ := hh
 exact ⟨d, rfl, h1⟩
theorem rd_change {x : Change} {F : Nat -> Prop} {h : AHeap} {a : List AV} (hh : RdL F h x.c a) : ∃ e o n l s, a = [.int .i64 x.kind, .int .i64 x.group, .int .i64 x.term, .int .i64 x.voted, .int .i64 x.from_, .int .i64 x.log.base, .int .i64 x.log.bterm, e, o, n, l, s,
  .int .i64 x.vote.txn, .int .i64 x.vote.part, .int .i64 x.vote.promised, .int .i64 x.vote.ballot, .int .i64 x.vote.value] /\ Rd F h (dEntries x.log.es) e /\ Rd F h (dInts x.conf.old) o /\ Rd F h (dInts x.conf.new) n /\ Rd F h (dInts x.conf.learners) l /\ Rd F h (dBytes x.snap) s := by
 simp only [Change.c, rdL_int] at hh
 obtain ⟨_, rfl, _, rfl, _, rfl, _, rfl, _, rfl, _, rfl, _, rfl, hh⟩ := hh
 simp only [RdL] at hh
 obtain ⟨e, _, rfl, h1, o, _, rfl, h2, n, _, rfl, h3, l, _, rfl, h4, s, _, rfl, h5, _, _, rfl, h6, _, _, rfl, h7, _, _, rfl, h8, _, _, rfl, h9, _, _, rfl, h10, rfl⟩ := hh
 simp only [Rd] at h6 h7 h8 h9 h10
 subst h6 h7 h8 h9 h10
 exact ⟨e, o, n, l, s, rfl, h1, h2, h3, h4, h5⟩
end Glb
namespace Glb
open Go
open Nat (reduceSub)
set_option maxRecDepth 10000
set_option maxHeartbeats 8000000
end Glb
