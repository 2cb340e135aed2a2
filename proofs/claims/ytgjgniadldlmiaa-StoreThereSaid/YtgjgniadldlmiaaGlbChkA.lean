/-
  A library of its own: its parts, one behind the other.
-/
import Derived.Test.YtgjgniadldlmiaaGlbSecC
import Derived.Test.YtgjgniadldlmiaaGlbImgA
import Derived.Test.YtgjgniadldlmiaaGlbCcheck
set_option linter.unusedSimpArgs false
set_option linter.unusedVariables false
/-
  Layer 8: checkpoints on two slots, in plain lists.
-/
namespace Glb
open Go
set_option maxRecDepth 10000

/-- how many pieces bytes have -/
def many (p : List Int) : Nat := max 1 ((p.length + 39) / 40)
def cutAt (p : List Int) (k : Nat) : List Int := (p.drop (40 * k)).take 40
def pieceB (e : Int) (k : Nat) (last : Bool) (p : List Int) : List Int := num e ++ (num 0 ++ (num (2 * k + if last then 1 else 0) ++ p))
def pieceK (e : Int) (p : List Int) (k : Nat) : List Int := pieceB e k (decide (k + 1 = many p)) (cutAt p k)
def maxNo : Int := 1099511627776

/-- the k-th piece that bytes are: its epoch, whether it is the last one, its bytes -/
def pc (b : List Int) (k : Nat) : Option (Int × Bool × List Int) :=
  if 24 ≤ b.length ∧ valOf ((b.drop 8).take 8) = 0 ∧ 0 ≤ valOf ((b.drop 16).take 8) ∧ (valOf ((b.drop 16).take 8)).tdiv 2 = k ∧ (valOf ((b.drop 16).take 8) % 2 = 1 ∨ (b.drop 24).length = 40) then
    some (valOf (b.take 8), decide (valOf ((b.drop 16).take 8) % 2 = 1), b.drop 24) else none

/-- the pieces of a slot, from a sector on -/
def Dk.slot (d : Dk) (from' : Int) (k : Nat) : Option (Int × Bool × List Int) :=
  if (d.read (from' + k)).2 = 0 then pc (d.read (from' + k)).1 k else none
def collect (g : Nat → Option (Int × Bool × List Int)) (e : Int) : Nat → Nat → List Int → List Int × Int
  | 0, _, _ => ([], 0)
  | m + 1, k, out => match g k with
    | none => ([], 0)
    | some (e', last, p) => if e' = e then if last then (out ++ p, e) else collect g e m (k + 1) (out ++ p) else ([], 0)
def fitE (e : Int) (slot : Int) : Prop := 1 ≤ e ∧ e ≤ maxNo ∧ e % 2 = slot
instance (e slot : Int) : Decidable (fitE e slot) := by unfold fitE; infer_instance
def whole (g : Nat → Option (Int × Bool × List Int)) (n : Nat) (slot : Int) : List Int × Int :=
  match g 0 with
  | none => ([], 0)
  | some (e, _, _) => if fitE e slot then collect g e n 0 [] else ([], 0)
def Dk.may (d : Dk) (at' n : Int) : Prop := 0 ≤ at' ∧ 1 ≤ n ∧ at' + 2 * n ≤ d.n
instance (d : Dk) (a n : Int) : Decidable (d.may a n) := by unfold Dk.may; infer_instance
def Dk.load (d : Dk) (at' n : Int) : List Int × Int × Int :=
  if ¬ d.may at' n then ([], 0, 3) else
  let a := whole (d.slot at') n.toNat 0
  let b := whole (d.slot (at' + n)) n.toNat 1
  if a.2 = 0 ∧ b.2 = 0 then ([], 0, 6) else if a.2 < b.2 then (b.1, b.2, 0) else (a.1, a.2, 0)

def Dk.wr (d : Dk) (from' e : Int) (p : List Int) (k : Nat) : Dk × Int := d.write (from' + k) (pieceK e p k)
/-- the pieces from k on, so many -/
def Dk.rest (d : Dk) (from' e : Int) (p : List Int) : Nat → Nat → Dk × Int
  | 0, _ => (d, 0)
  | m + 1, k => if (d.wr from' e p k).2 = 0 then Dk.rest (d.wr from' e p k).1 from' e p m (k + 1) else d.wr from' e p k
def Dk.mid (d : Dk) (p : List Int) : Dk × Int := if 1 < many p then d.flush else (d, 0)
def Dk.end' (d : Dk) (from' e : Int) (p : List Int) : Dk × Int := if (d.wr from' e p 0).2 = 0 then (d.wr from' e p 0).1.flush else d.wr from' e p 0
def Dk.lay (d : Dk) (from' e : Int) (p : List Int) : Dk × Int :=
  if (d.rest from' e p (many p - 1) 1).2 = 0 then
    if ((d.rest from' e p (many p - 1) 1).1.mid p).2 = 0 then ((d.rest from' e p (many p - 1) 1).1.mid p).1.end' from' e p else (d.rest from' e p (many p - 1) 1).1.mid p
  else d.rest from' e p (many p - 1) 1
def Dk.save (d : Dk) (at' n e : Int) (p : List Int) : Dk × Int :=
  if ¬ d.may at' n ∨ e < 1 ∨ maxNo < e then (d, 3) else if n < many p then (d, 2) else d.lay (at' + e % 2 * n) e p

/- pieces -/
theorem many_pos (p : List Int) : 1 ≤ many p := by unfold many; omega
theorem cut_drop (p : List Int) (k : Nat) : cutAt p k ++ p.drop (40 * (k + 1)) = p.drop (40 * k) := by
  unfold cutAt
  rw [show 40 * (k + 1) = 40 * k + 40 by omega, ← List.drop_drop, List.take_append_drop]
theorem cut_full {p : List Int} {k : Nat} (h : k + 1 < many p) : (cutAt p k).length = 40 := by
  unfold many at h; unfold cutAt; rw [List.length_take, List.length_drop]; omega
theorem cutAt_last {p : List Int} {k : Nat} (h : k + 1 = many p) : cutAt p k = p.drop (40 * k) := by
  unfold many at h; unfold cutAt; apply List.take_of_length_le; rw [List.length_drop]; omega
theorem cut_len (p : List Int) (k : Nat) : (cutAt p k).length ≤ 40 := by unfold cutAt; simp; omega
theorem cut_bytes {p : List Int} (h : bytesOk p) (k : Nat) : bytesOk (cutAt p k) := (h.drop _).take _
theorem pieceB_len (e : Int) (k : Nat) (last : Bool) (p : List Int) : (pieceB e k last p).length = 24 + p.length := by simp [pieceB, num_length]; omega
theorem pieceB_bytes {p : List Int} (h : bytesOk p) (e : Int) (k : Nat) (last : Bool) : bytesOk (pieceB e k last p) := (num_bytes _).app ((num_bytes _).app ((num_bytes _).app h))
theorem pieceK_len (e : Int) (p : List Int) (k : Nat) : (pieceK e p k).length ≤ 64 := by unfold pieceK; rw [pieceB_len]; have := cut_len p k; omega
theorem pieceK_bytes {p : List Int} (h : bytesOk p) (e : Int) (k : Nat) : bytesOk (pieceK e p k) := pieceB_bytes (cut_bytes h k) _ _ _

theorem pc_pieceB {e : Int} {k : Nat} {last : Bool} {p : List Int} (he : 0 ≤ e ∧ e ≤ maxNo) (hk : k ≤ 1099511627776) (hp : last = true ∨ p.length = 40) : pc (pieceB e k last p) k = some (e, last, p) := by
  have hm : i64ok (2 * (k : Int) + if last then 1 else 0) := by unfold i64ok; split <;> omega
  have h0 : i64ok e := by unfold i64ok; unfold maxNo at he; omega
  have e1 : (pieceB e k last p).take 8 = num e := List.take_left' (num_length e)
  have e2 : (pieceB e k last p).drop 8 = num 0 ++ (num (2 * k + if last then 1 else 0) ++ p) := List.drop_left' (num_length e)
  have e3 : (pieceB e k last p).drop 16 = num (2 * k + if last then 1 else 0) ++ p := by
    rw [show (16 : Nat) = 8 + 8 from rfl, ← List.drop_drop, e2]; exact List.drop_left' (num_length 0)
  have e4 : (pieceB e k last p).drop 24 = p := by
    rw [show (24 : Nat) = 16 + 8 from rfl, ← List.drop_drop, e3]; exact List.drop_left' (num_length _)
  have e5 : (num 0 ++ (num (2 * (k : Int) + if last then 1 else 0) ++ p)).take 8 = num 0 := List.take_left' (num_length 0)
  have e6 : (num (2 * (k : Int) + if last then 1 else 0) ++ p).take 8 = num (2 * k + if last then 1 else 0) := List.take_left' (num_length _)
  unfold pc
  rw [e1, e2, e3, e4, e5, e6, valOf_num h0, valOf_num hm, valOf_num (by unfold i64ok; omega), pieceB_len]
  have t1 : (2 * (k : Int) + if last then 1 else 0).tdiv 2 = k := by rw [Int.tdiv_eq_ediv_of_nonneg (by split <;> omega)]; split <;> omega
  have t2 : ((2 * (k : Int) + if last then 1 else 0) % 2 = 1) ↔ last = true := by cases last <;> simp <;> omega
  rw [if_pos ⟨by omega, rfl, by split <;> omega, t1, by rw [t2]; exact hp⟩]
  cases last <;> simp [t2] <;> omega

theorem pc_pieceK {e : Int} {p : List Int} {k : Nat} (he : 0 ≤ e ∧ e ≤ maxNo) (hp : p.length ≤ 1099511627776) (hk : k < many p) : pc (pieceK e p k) k = some (e, decide (k + 1 = many p), cutAt p k) := by
  unfold pieceK
  refine pc_pieceB he (by unfold many at hk; omega) ?_
  by_cases c : k + 1 = many p
  · exact .inl (by simp [c])
  · exact .inr (cut_full (by omega))

/-- a slot that holds a checkpoint -/
def holds (g : Nat → Option (Int × Bool × List Int)) (e : Int) (p : List Int) : Prop := ∀ k, k < many p → g k = some (e, decide (k + 1 = many p), cutAt p k)
theorem holds.collect {g : Nat → Option (Int × Bool × List Int)} {e : Int} {p : List Int} (h : holds g e p) : ∀ (m k : Nat) (out : List Int), k < many p → many p ≤ k + m → collect g e m k out = (out ++ p.drop (40 * k), e)
  | 0, k, out, h1, h2 => by omega
  | m + 1, k, out, h1, h2 => by
    simp only [Glb.collect, h k h1, if_true]
    by_cases c : k + 1 = many p
    · rw [if_pos (by simp [c]), cutAt_last c]
    · rw [if_neg (by simp [c]), h.collect m (k + 1) _ (by omega) (by omega), List.append_assoc, cut_drop]
theorem holds.whole {g : Nat → Option (Int × Bool × List Int)} {e : Int} {p : List Int} (h : holds g e p) {n : Nat} (hn : many p ≤ n) {s : Int} (he : fitE e s) : whole g n s = (p, e) := by
  have h0 := h 0 (many_pos p)
  simp only [Glb.whole, h0]
  rw [if_pos he, h.collect n 0 [] (many_pos p) (by omega)]
  simp
/-- a slot is whole with its first piece's epoch, or not at all -/
theorem collect_or (g : Nat → Option (Int × Bool × List Int)) (e : Int) : ∀ (m k : Nat) (out : List Int), (collect g e m k out).2 = e ∨ collect g e m k out = ([], 0)
  | 0, k, out => .inr rfl
  | m + 1, k, out => by
    simp only [collect]
    split
    · exact .inr rfl
    · split
      · split
        · exact .inl rfl
        · exact collect_or g e m _ _
      · exact .inr rfl
theorem whole_or {g : Nat → Option (Int × Bool × List Int)} {n : Nat} {s : Int} : whole g n s = ([], 0) ∨ ∃ e l p, g 0 = some (e, l, p) ∧ fitE e s ∧ (whole g n s).2 = e := by
  unfold whole
  split
  · exact .inl rfl
  · rename_i e l p hg
    split
    · rename_i he
      rcases collect_or g e n 0 [] with h | h
      · exact .inr ⟨e, l, p, hg, he, h⟩
      · exact .inl h
    · exact .inl rfl
theorem collect_congr {g g' : Nat → Option (Int × Bool × List Int)} (e : Int) : ∀ (m k : Nat) (out : List Int), (∀ j, j < k + m → g j = g' j) → collect g e m k out = collect g' e m k out
  | 0, k, out, h => rfl
  | m + 1, k, out, h => by
    simp only [collect, h k (by omega)]
    split
    · rfl
    · split
      · split
        · rfl
        · exact collect_congr e m (k + 1) _ fun j hj => h j (by omega)
      · rfl
theorem whole_congr {g g' : Nat → Option (Int × Bool × List Int)} {n : Nat} {s : Int} (h : ∀ j, j < n → g j = g' j) (hn : 1 ≤ n) : whole g n s = whole g' n s := by
  unfold whole
  rw [h 0 (by omega)]
  split
  · rfl
  · split
    · exact collect_congr _ _ _ _ fun j hj => h j (by omega)
    · rfl

end Glb

/-
  Layer 8: the program's pieces.
-/
namespace Glb
open Go
set_option maxRecDepth 10000
set_option maxHeartbeats 8000000

/-- sectors are bytes -/
def Dk.bts (d : Dk) : Prop := (∀ s ∈ d.lasts, bytesOk s.b) ∧ ∀ s ∈ d.cache, bytesOk s.b
theorem nl_rd8 (h : AHeap) : Rd (fun _ => True) h (.sl 1 []) .nils := ⟨[], .inl ⟨rfl, rfl⟩, rfl⟩
theorem bytesOk_nil : bytesOk [] := fun x hx => by cases hx
theorem Dk.read_bytes {d : Dk} (h : d.bts) (i : Int) : bytesOk (d.read i).1 := by
  unfold Dk.read
  split
  · exact bytesOk_nil
  · split
    · rename_i s hs
      exact h.2 _ (sfind_some hs).1
    · cases hs : sfind d.lasts i with
      | none => exact bytesOk_nil
      | some s =>
        simp only [readL]
        split
        · exact bytesOk_nil
        · exact h.1 _ (sfind_some hs).1
theorem Dk.read_len8 {d : Dk} (h : d.ok) (i : Int) : (d.read i).1.length ≤ 64 := by
  unfold Dk.read
  split
  · simp
  · split
    · rename_i s hs
      exact (h.cache.2 _ (sfind_some hs).1).2.2.1
    · cases hs : sfind d.lasts i with
      | none => simp [readL]
      | some s =>
        simp only [readL]
        split
        · simp
        · exact (h.lasts.2 _ (sfind_some hs).1).2.2

def CMayOk (P : Program) (f : FuncId) : Prop := isFn P f = true ∧ ∀ (F : Nat → Prop) (h : AHeap) (p : Nat) (d : Dk) (a n : Int), DiskAt F h p d →
  ACalls P f [.ptr p 6 0 0, .int .i64 a, .int .i64 n] h fun r h' => r = .bool (decide (d.may a n)) ∧ h' = h
/-- how many pieces the program takes bytes for: their number may be greater than numbers are -/
def pcs (n : Nat) : Nat := (max 1 ((IntKind.i64.wrap (IntKind.i64.wrap ((n : Int) + 40) - 1)).tdiv 40)).toNat
def eff (l : List Int) : List Int := l.take (40 * pcs l.length)
theorem pcs_cases (n : Nat) : (40 * pcs n ≤ n ∧ 1 ≤ pcs n) ∨ pcs n = max 1 ((n + 39) / 40) := by
  unfold pcs
  rw [wrap_i64_eq, wrap_i64_eq]
  generalize hW : ((((n : Int) + 40 + 9223372036854775808) % 18446744073709551616 - 9223372036854775808 - 1 + 9223372036854775808) % 18446744073709551616 - 9223372036854775808) = W
  by_cases c : 0 ≤ W
  · rw [Int.tdiv_eq_ediv_of_nonneg c]
    omega
  · have h1 : W.tdiv 40 ≤ 0 := by
      have : W.tdiv 40 = -((-W).tdiv 40) := by rw [Int.neg_tdiv]; omega
      rw [this]
      have := Int.tdiv_nonneg (a := -W) (b := 40) (by omega) (by omega)
      omega
    generalize W.tdiv 40 = T at *
    omega
theorem many_eff (l : List Int) : many (eff l) = pcs l.length := by
  unfold many eff
  rw [List.length_take]
  rcases pcs_cases l.length with h | h <;> omega
theorem eff_small {l : List Int} (h : l.length ≤ 2^40) : eff l = l := by
  refine List.take_of_length_le ?_
  have e : pcs l.length = max 1 ((l.length + 39) / 40) := by
    unfold pcs
    rw [wrap_i64 (x := (l.length : Int) + 40) (by omega), wrap_i64 (by omega), Int.tdiv_eq_ediv_of_nonneg (by omega)]
    omega
  omega
theorem cut_eff (l : List Int) {k : Nat} (hk : k < pcs l.length) : cutAt (eff l) k = cutAt l k := by
  unfold cutAt eff
  rw [List.drop_take, List.take_take]
  congr 1
  omega
theorem bytesOk_eff {l : List Int} (h : bytesOk l) : bytesOk (eff l) := h.take _
def PiecesOk (P : Program) (f : FuncId) : Prop := isFn P f = true ∧ ∀ (F : Nat → Prop) (h : AHeap) (l : List Int) (a : AV), Rd F h (dBytes l) a →
  ACalls P f [a] h fun r h' => r = .int .i64 (pcs l.length) ∧ h' = h
def LaidOk (P : Program) (f : FuncId) : Prop := isFn P f = true ∧ ∀ (F : Nat → Prop) (h : AHeap) (e : Int) (k : Nat) (b : Bool) (l : List Int) (a : AV), Rd F h (dBytes l) a → l.length ≤ 2^40 → k ≤ 2^40 →
  ACalls P f [.int .i64 e, .int .i64 k, .bool b, a] h fun r h' => r = abytes (pieceB e k b l) ∧ h' = h
/-- a piece as it is read: what is told beside it, where there is none, is of no account -/
def PieceOk (P : Program) (f : FuncId) : Prop := isFn P f = true ∧ ∀ (F : Nat → Prop) (h : AHeap) (p : Nat) (d : Dk) (i : Int) (k : Nat), DiskAt F h p d → d.bts → k ≤ 2^40 →
  ACalls P f [.ptr p 6 0 0, .int .i64 i, .int .i64 k] h fun r h' => (∃ e b q ok, r = .tup [.int .i64 e, .bool b, abytes q, .bool ok] ∧ (if (d.read i).2 = 0 then pc (d.read i).1 k else none) = (if ok then some (e, b, q) else none)) ∧ h' = h

theorem cmay_ok {P : Program} {f g : FuncId} (hf : Is P f (c_check_may g)) (hg : DLenOk P g) : CMayOk P f := by
  refine ⟨hf.2, fun F h p d a n hd => fun_sound hf.1 (Nat.le_of_ble_eq_true rfl) ?_⟩
  show vc P (c_check_may g).code ⟨[(0, .ptr p 6 0 0), (1, .int .i64 a), (2, .int .i64 n)], [], h⟩ (atEnd (c_check_may g).res _)
  have hn := hd.ok.n
  by_cases c1 : 0 ≤ a
  · by_cases c2 : 1 ≤ n
    · simp only [c_check_may, go_sem, reduceIte, Nat.reduceEqDiff, Nat.reduceAdd, Nat.reduceLeDiff, Nat.reducePow, Nat.reduceDiv, Nat.reduceMod, decide_true, decide_eq_true c1, decide_eq_true c2]
      refine use1 hg.1 (hg.2 F h p d hd) ?_
      by_cases c3 : a ≤ d.n
      · simp only [go_sem, reduceIte, Nat.reduceEqDiff, Nat.reduceAdd, Nat.reduceLeDiff, Nat.reducePow, Nat.reduceDiv, Nat.reduceMod, decide_true, decide_eq_true c3]
        refine use1 hg.1 (hg.2 F h p d hd) ?_
        have e1 : IntKind.i64.wrap (d.n - a) = d.n - a := wrap_i64 (by omega)
        simp only [go_sem, reduceIte, Nat.reduceEqDiff, Nat.reduceAdd, Nat.reduceLeDiff, Nat.reducePow, Nat.reduceDiv, Nat.reduceMod, decide_true, e1, quo64]
        rw [if_neg (by omega)]
        have e2 : IntKind.i64.wrap ((d.n - a).tdiv 2) = (d.n - a) / 2 := by rw [Int.tdiv_eq_ediv_of_nonneg (by omega), wrap_i64 (by omega)]
        have hm : decide (d.may a n) = decide (n ≤ (d.n - a) / 2) := decide_eq_decide.2 ⟨fun x => by have := x.2.2; omega, fun x => ⟨c1, c2, by omega⟩⟩
        simp only [go_sem, reduceIte, Nat.reduceEqDiff, Nat.reduceAdd, Nat.reduceLeDiff, Nat.reducePow, Nat.reduceDiv, Nat.reduceMod, decide_true, e2, hm]
      · have hm : decide (d.may a n) = false := decide_eq_false (by unfold Dk.may; omega)
        simp only [go_sem, reduceIte, Nat.reduceEqDiff, Nat.reduceAdd, Nat.reduceLeDiff, Nat.reducePow, Nat.reduceDiv, Nat.reduceMod, decide_true, decide_eq_false c3, hm]
    · have hm : decide (d.may a n) = false := decide_eq_false (by unfold Dk.may; omega)
      simp only [c_check_may, go_sem, reduceIte, Nat.reduceEqDiff, Nat.reduceAdd, Nat.reduceLeDiff, Nat.reducePow, Nat.reduceDiv, Nat.reduceMod, decide_true, decide_eq_true c1, decide_eq_false c2, hm]
  · have hm : decide (d.may a n) = false := decide_eq_false (by unfold Dk.may; omega)
    simp only [c_check_may, go_sem, reduceIte, Nat.reduceEqDiff, Nat.reduceAdd, Nat.reduceLeDiff, Nat.reducePow, Nat.reduceDiv, Nat.reduceMod, decide_true, decide_eq_false c1, hm]

theorem pieces_ok {P : Program} {f : FuncId} (hf : Is P f c_check_pieces) : PiecesOk P f := by
  refine ⟨hf.2, fun F h l a ha => fun_sound hf.1 (Nat.le_of_ble_eq_true rfl) ?_⟩
  show vc P c_check_pieces.code ⟨[(0, a)], [], h⟩ (atEnd c_check_pieces.res _)
  have la := ha.bytes_len
  simp only [c_check_pieces, go_sem, reduceIte, Nat.reduceEqDiff, Nat.reduceAdd, Nat.reduceLeDiff, Nat.reducePow, Nat.reduceDiv, Nat.reduceMod, decide_true, la, quo64]
  rw [if_neg (by omega)]
  have e4 : max (1 : Int) (IntKind.i64.wrap ((IntKind.i64.wrap (IntKind.i64.wrap ((l.length : Int) + 40) - 1)).tdiv 40)) = (pcs l.length : Nat) := by
    unfold pcs
    have hb : -9223372036854775808 ≤ IntKind.i64.wrap (IntKind.i64.wrap ((l.length : Int) + 40) - 1) ∧ IntKind.i64.wrap (IntKind.i64.wrap ((l.length : Int) + 40) - 1) ≤ 9223372036854775807 := by rw [wrap_i64_eq]; omega
    generalize IntKind.i64.wrap (IntKind.i64.wrap ((l.length : Int) + 40) - 1) = W at *
    have h1 : -9223372036854775808 ≤ W.tdiv 40 ∧ W.tdiv 40 ≤ 9223372036854775807 := by
      by_cases c : 0 ≤ W
      · rw [Int.tdiv_eq_ediv_of_nonneg c]; omega
      · have e : W.tdiv 40 = -((-W) / 40) := by rw [← Int.tdiv_eq_ediv_of_nonneg (a := -W) (by omega), Int.neg_tdiv]; omega
        rw [e]; omega
    rw [wrap_i64 h1]
    omega
  simp only [go_sem, reduceIte, Nat.reduceEqDiff, Nat.reduceAdd, Nat.reduceLeDiff, Nat.reducePow, Nat.reduceDiv, Nat.reduceMod, decide_true, rev_mnmx, mnmx_max, e4]

theorem laid_ok {P : Program} {f g : FuncId} (hf : Is P f (c_check_laid g)) (hg : IntOk P g) : LaidOk P f := by
  refine ⟨hf.2, fun F h e k b l a ha hl hk => ACalls.freeze (K := fun r h' => Own (dBytes (pieceB e k b l)) (fun m => h.length ≤ m) h' r ∧ Ext nof h h') (fun_sound hf.1 (Nat.le_of_ble_eq_true rfl) ?_) (fun r _ ⟨ho, hx⟩ => ⟨hx, _, Frz.d (Own.fz (dBytes _) (fun _ x => x) _ ho), rfl⟩)⟩
  show vc P (c_check_laid g).code ⟨[(0, .int .i64 e), (1, .int .i64 k), (2, .bool b), (3, a)], [], h⟩ (atEnd (c_check_laid g).res _)
  have e1 : IntKind.i64.wrap (2 * (k : Int)) = 2 * k := wrap_i64 (by omega)
  have e2 : IntKind.i64.wrap (2 * (k : Int) + 1) = 2 * k + 1 := wrap_i64 (by omega)
  have hp := hg.p
  cases b
  · simp only [c_check_laid, go_sem, reduceIte, Nat.reduceEqDiff, Nat.reduceAdd, Nat.reduceLeDiff, Nat.reducePow, Nat.reduceDiv, Nat.reduceMod, decide_true, e1]
    refine use1 hp.1 (hp.2 (fun _ => True) h [] .nils e (nl_rd8 h) (by simp)) ?_
    simp only [go_sem, reduceIte, Nat.reduceEqDiff, Nat.reduceAdd, Nat.reduceLeDiff, Nat.reducePow, Nat.reduceDiv, Nat.reduceMod, decide_true]
    refine use1 hp.1 (hp.2 (fun _ => True) h (num e) _ 0 (rd_abytes _ _ _) (by simp [num_length])) ?_
    simp only [go_sem, reduceIte, Nat.reduceEqDiff, Nat.reduceAdd, Nat.reduceLeDiff, Nat.reducePow, Nat.reduceDiv, Nat.reduceMod, decide_true]
    refine wCall_use ⟨hg.1, hg.2 (fun _ => True) h (num e ++ num 0) _ (2 * k) (rd_abytes _ _ _) (by simp [num_length])⟩ ?_
    rintro b H ⟨ho, hc, hx⟩
    obtain ⟨ys, hys, hyr⟩ := (ha.up hx).elems
    obtain ⟨o, h', hap, ho', hc', he'⟩ := own_app (lo := h.length) (sz := 1) (bytes := 1) ho hc (Ext.refl _ _) (own_ints1 hyr) hx.1 (by simp [num_length]; omega)
    have ha2 := aappend_of hys 1 b
    rw [hap] at ha2
    simp only [go_sem, reduceIte, Nat.reduceEqDiff, Nat.reduceAdd, Nat.reduceLeDiff, Nat.reducePow, Nat.reduceDiv, Nat.reduceMod, decide_true, ha2]
    refine ⟨?_, hx.then he' (fun m hm hm' => by omega)⟩
    have := ho'
    simpa [dBytes, pieceB] using this
  · simp only [c_check_laid, go_sem, reduceIte, Nat.reduceEqDiff, Nat.reduceAdd, Nat.reduceLeDiff, Nat.reducePow, Nat.reduceDiv, Nat.reduceMod, decide_true, e1, e2]
    refine use1 hp.1 (hp.2 (fun _ => True) h [] .nils e (nl_rd8 h) (by simp)) ?_
    simp only [go_sem, reduceIte, Nat.reduceEqDiff, Nat.reduceAdd, Nat.reduceLeDiff, Nat.reducePow, Nat.reduceDiv, Nat.reduceMod, decide_true]
    refine use1 hp.1 (hp.2 (fun _ => True) h (num e) _ 0 (rd_abytes _ _ _) (by simp [num_length])) ?_
    simp only [go_sem, reduceIte, Nat.reduceEqDiff, Nat.reduceAdd, Nat.reduceLeDiff, Nat.reducePow, Nat.reduceDiv, Nat.reduceMod, decide_true]
    refine wCall_use ⟨hg.1, hg.2 (fun _ => True) h (num e ++ num 0) _ (2 * k + 1) (rd_abytes _ _ _) (by simp [num_length])⟩ ?_
    rintro b H ⟨ho, hc, hx⟩
    obtain ⟨ys, hys, hyr⟩ := (ha.up hx).elems
    obtain ⟨o, h', hap, ho', hc', he'⟩ := own_app (lo := h.length) (sz := 1) (bytes := 1) ho hc (Ext.refl _ _) (own_ints1 hyr) hx.1 (by simp [num_length]; omega)
    have ha2 := aappend_of hys 1 b
    rw [hap] at ha2
    simp only [go_sem, reduceIte, Nat.reduceEqDiff, Nat.reduceAdd, Nat.reduceLeDiff, Nat.reducePow, Nat.reduceDiv, Nat.reduceMod, decide_true, ha2]
    refine ⟨?_, hx.then he' (fun m hm hm' => by omega)⟩
    have := ho'
    simpa [dBytes, pieceB] using this

theorem Frz.tup3 {k h a a' b b' c c'} (h1 : Frz k h a a') (h2 : Frz k h b b') (h3 : Frz k h c c') : Frz k h (.tup [a, b, c]) (.tup [a', b', c']) := by
  refine .tup rfl fun j x hj => ?_
  match j with
  | 0 => simp at hj; subst hj; exact ⟨_, rfl, h1⟩
  | 1 => simp at hj; subst hj; exact ⟨_, rfl, h2⟩
  | 2 => simp at hj; subst hj; exact ⟨_, rfl, h3⟩
  | j + 3 => simp at hj
theorem Frz.tup4 {k h a a' b b' c c' d d'} (h1 : Frz k h a a') (h2 : Frz k h b b') (h3 : Frz k h c c') (h4 : Frz k h d d') : Frz k h (.tup [a, b, c, d]) (.tup [a', b', c', d']) := by
  refine .tup rfl fun j x hj => ?_
  match j with
  | 0 => simp at hj; subst hj; exact ⟨_, rfl, h1⟩
  | 1 => simp at hj; subst hj; exact ⟨_, rfl, h2⟩
  | 2 => simp at hj; subst hj; exact ⟨_, rfl, h3⟩
  | 3 => simp at hj; subst hj; exact ⟨_, rfl, h4⟩
  | j + 4 => simp at hj
theorem rInt_some {l : List Int} (h : 8 ≤ l.length) : rInt (some l) = (valOf (l.take 8), some (l.drop 8)) := by simp only [rInt]; rw [if_neg (by omega)]
theorem rInt_short {l : List Int} (h : l.length < 8) : rInt (some l) = (0, none) := by simp only [rInt]; rw [if_pos h]
theorem rInt3_short {b : List Int} (h : b.length < 24) : (rInt (rInt (rInt (some b)).2).2).2 = none := by
  by_cases c1 : b.length < 8
  · rw [rInt_short c1]; rfl
  · rw [rInt_some (by omega)]
    simp only
    by_cases c2 : b.length < 16
    · rw [rInt_short (by simp; omega)]; rfl
    · rw [rInt_some (by simp; omega)]
      simp only
      rw [rInt_short (by simp; omega)]

theorem piece_ok {P : Program} {f g1 g2 g3 g4 g5 : FuncId} (hf : Is P f (c_check_piece g1 g2 g3 g4 g5)) (h1 : ReadDOk P g1) (h2 : ReadR P g2) (h3 : IntR P g3) (h4 : Is P g4 c_pack_Reader_Bad) (h5 : Is P g5 c_pack_Reader_Left) : PieceOk P f := by
  refine ⟨hf.2, fun F h p d i k hd hb hk => ACalls.freeze (K := fun r h' => (∃ e b a q ok, r = .tup [.int .i64 e, .bool b, a, .bool ok] ∧ Own (dBytes q) (fun m => h.length ≤ m) h' a ∧ (if (d.read i).2 = 0 then pc (d.read i).1 k else none) = (if ok then some (e, b, q) else none)) ∧ Ext nof h h') (fun_sound hf.1 (Nat.le_of_ble_eq_true rfl) ?_) ?_⟩
  · show vc P (c_check_piece g1 g2 g3 g4 g5).code ⟨[(0, .ptr p 6 0 0), (1, .int .i64 i), (2, .int .i64 k)], [], h⟩ (atEnd (c_check_piece g1 g2 g3 g4 g5).res _)
    simp only [c_check_piece, go_sem, reduceIte, Nat.reduceEqDiff, Nat.reduceAdd, Nat.reduceLeDiff, Nat.reducePow, Nat.reduceDiv, Nat.reduceMod, decide_true]
    refine wCall_use ⟨h1.1, h1.2 F h p d i hd⟩ ?_
    rintro _ H ⟨a, rfl, ho, hx⟩
    simp only [go_sem, reduceIte, Nat.reduceEqDiff, Nat.reduceAdd, Nat.reduceLeDiff, Nat.reducePow, Nat.reduceDiv, Nat.reduceMod, decide_true]
    have hB := Dk.read_bytes hb i
    have hL := Dk.read_len8 hd.ok i
    generalize (d.read i).1 = b at *
    generalize (d.read i).2 = er at *
    refine wCall_use ⟨h2.1, h2.2 _ H b a (Own.rd _ (fun _ x => x) _ ho) hB (by omega)⟩ ?_
    rintro _ H2 ⟨q, rfl, hq, hr, hx2⟩
    simp only [go_sem, reduceIte, Nat.reduceEqDiff, Nat.reduceAdd, Nat.reduceLeDiff, Nat.reducePow, Nat.reduceDiv, Nat.reduceMod, decide_true]
    refine wCall_use ⟨h3.1, h3.2 _ H2 q _ hr (by omega)⟩ ?_
    rintro _ H3 ⟨rfl, hr3, hx3⟩
    simp only [go_sem, reduceIte, Nat.reduceEqDiff, Nat.reduceAdd, Nat.reduceLeDiff, Nat.reducePow, Nat.reduceDiv, Nat.reduceMod, decide_true]
    refine wCall_use ⟨h3.1, h3.2 _ H3 q _ hr3 (by omega)⟩ ?_
    rintro _ H4 ⟨rfl, hr4, hx4⟩
    simp only [go_sem, reduceIte, Nat.reduceEqDiff, Nat.reduceAdd, Nat.reduceLeDiff, Nat.reducePow, Nat.reduceDiv, Nat.reduceMod, decide_true]
    refine wCall_use ⟨h3.1, h3.2 _ H4 q _ hr4 (by omega)⟩ ?_
    rintro _ H5 ⟨rfl, hr5, hx5⟩
    simp only [go_sem, reduceIte, Nat.reduceEqDiff, Nat.reduceAdd, Nat.reduceLeDiff, Nat.reducePow, Nat.reduceDiv, Nat.reduceMod, decide_true]
    have no : ∀ {X : Option (Int × Bool × List Int)}, X = none → (∃ e b a q ok, AV.tup [.int .i64 0, .bool false, .nils, .bool false] = .tup [.int .i64 e, .bool b, a, .bool ok] ∧ Own (dBytes q) (fun m => h.length ≤ m) H5 a ∧ X = (if ok then some (e, b, q) else none)) := fun hX => ⟨0, false, .nils, [], false, rfl, Own.nils 1, hX⟩
    have hX : Ext nof h H5 := ((((hx.tr hx2).then hx3 (fun m hm hm' => by have := hx.1; omega)).then hx4 (fun m hm hm' => by have := hx.1; omega)).then hx5 (fun m hm hm' => by have := hx.1; omega))
    have hX2 : Ext nof H H5 := (((hx2.then hx3 (fun m hm hm' => by omega)).then hx4 (fun m hm hm' => by omega)).then hx5 (fun m hm hm' => by omega))
    have g0 : ∀ x : Int, abin .quo (.int .i64 x) (.int .i64 2) = some (.int .i64 (IntKind.i64.wrap (x.tdiv 2))) := fun _ => rfl
    have g1 : ∀ x : Int, abin .rem (.int .i64 x) (.int .i64 2) = some (.int .i64 (x.tmod 2)) := fun _ => rfl
    by_cases c0 : er = 0
    · subst c0
      rw [if_pos rfl]
      simp only [decide_eq_true (Eq.refl (0:Int)), go_sem, reduceIte, Nat.reduceEqDiff, Nat.reduceAdd, Nat.reduceLeDiff, Nat.reducePow, Nat.reduceDiv, Nat.reduceMod, decide_true]
      refine use1 h4.2 (pack_Bad_r h4 hr5) ?_
      by_cases c1 : b.length < 24
      · rw [rInt3_short c1]
        simp only [go_sem, reduceIte, Nat.reduceEqDiff, Nat.reduceAdd, Nat.reduceLeDiff, Nat.reducePow, Nat.reduceDiv, Nat.reduceMod, decide_true, Option.isNone_none]
        exact ⟨no (by unfold pc; rw [if_neg (by omega)]), hX⟩
      · rw [rInt_some (l := b) (by omega), rInt_some (l := b.drop 8) (by simp; omega), List.drop_drop, rInt_some (l := b.drop (8 + 8)) (by simp; omega), List.drop_drop] at *
        have hpc : pc b k = if valOf ((b.drop 8).take 8) = 0 ∧ 0 ≤ valOf ((b.drop 16).take 8) ∧ (valOf ((b.drop 16).take 8)).tdiv 2 = k ∧ (valOf ((b.drop 16).take 8) % 2 = 1 ∨ (b.drop 24).length = 40) then some (valOf (b.take 8), decide (valOf ((b.drop 16).take 8) % 2 = 1), b.drop 24) else none := by
          unfold pc
          simp only [show (24 ≤ b.length) = True from eq_true (by omega), true_and]
        have hmi := (num_valOf (l := (b.drop 16).take 8) (by simp; omega) ((hB.drop 16).take 8)).2
        rw [hpc]
        simp only [go_sem, reduceIte, Nat.reduceEqDiff, Nat.reduceAdd, Nat.reduceLeDiff, Nat.reducePow, Nat.reduceDiv, Nat.reduceMod, decide_true, Option.isNone_some]
        generalize valOf (b.take 8) = ep at *
        generalize valOf ((b.drop 8).take 8) = nu at *
        generalize valOf ((b.drop 16).take 8) = mk at *
        have ht : IntKind.i64.wrap (mk.tdiv 2) = mk.tdiv 2 := by
          unfold i64ok at hmi
          by_cases c : 0 ≤ mk
          · rw [Int.tdiv_eq_ediv_of_nonneg c, wrap_i64 (by omega)]
          · have e : mk.tdiv 2 = -((-mk) / 2) := by rw [← Int.tdiv_eq_ediv_of_nonneg (by omega), Int.neg_tdiv]; omega
            rw [e, wrap_i64 (by omega)]
        by_cases c2 : nu = 0
        · simp only [go_sem, reduceIte, Nat.reduceEqDiff, Nat.reduceAdd, Nat.reduceLeDiff, Nat.reducePow, Nat.reduceDiv, Nat.reduceMod, decide_true, decide_eq_true c2, Bool.not_true, g0, ht]
          by_cases c3 : mk.tdiv 2 = k
          · simp only [go_sem, reduceIte, Nat.reduceEqDiff, Nat.reduceAdd, Nat.reduceLeDiff, Nat.reducePow, Nat.reduceDiv, Nat.reduceMod, decide_true, decide_eq_true c3, Bool.not_true]
            by_cases c4 : mk < 0
            · simp only [go_sem, reduceIte, Nat.reduceEqDiff, Nat.reduceAdd, Nat.reduceLeDiff, Nat.reducePow, Nat.reduceDiv, Nat.reduceMod, decide_true, decide_eq_true c4]
              exact ⟨no (if_neg (by omega)), hX⟩
            · obtain ⟨a5, s5, o5⟩ := own_from (ho.up hX2) (k := 24) (by omega) (by simp; omega)
              have lb := ((Own.rd (F := fun m => h.length ≤ m) _ (fun _ x => x) _ ho).up hX2).bytes_len
              have e5 : IntKind.i64.wrap ((b.length : Int) - ((b.drop 24).length : Nat)) = 24 := by rw [List.length_drop, wrap_i64 (by omega)]; omega
              simp only [go_sem, reduceIte, Nat.reduceEqDiff, Nat.reduceAdd, Nat.reduceLeDiff, Nat.reducePow, Nat.reduceDiv, Nat.reduceMod, decide_true, decide_eq_false c4, lb]
              refine use1 h5.2 (pack_Left_r h5 hr5) ?_
              simp only [go_sem, reduceIte, Nat.reduceEqDiff, Nat.reduceAdd, Nat.reduceLeDiff, Nat.reducePow, Nat.reduceDiv, Nat.reduceMod, decide_true, Rdr.all, Option.getD_some, e5, aslc, s5]
              have em : mk.tmod 2 = mk % 2 := Int.tmod_eq_emod_of_nonneg (by omega)
              have l5 := (Own.rd (F := fun m => h.length ≤ m) _ (fun _ x => x) _ o5).len
              have o5' : Own (dBytes (b.drop 24)) (fun m => h.length ≤ m) H5 a5 := by simpa [dBytes, List.map_drop] using o5
              have l5' : alen a5 = some (.int .i64 (b.drop 24).length) := by simpa using l5
              by_cases c5 : mk % 2 = 1
              · simp only [go_sem, reduceIte, Nat.reduceEqDiff, Nat.reduceAdd, Nat.reduceLeDiff, Nat.reducePow, Nat.reduceDiv, Nat.reduceMod, decide_true, g1, em, decide_eq_true c5]
                refine ⟨⟨ep, true, a5, b.drop 24, true, rfl, o5', ?_⟩, hX⟩
                rw [if_pos ⟨c2, by omega, c3, .inl c5⟩, if_pos rfl]
              · simp only [go_sem, reduceIte, Nat.reduceEqDiff, Nat.reduceAdd, Nat.reduceLeDiff, Nat.reducePow, Nat.reduceDiv, Nat.reduceMod, decide_true, g1, em, decide_eq_false c5, l5']
                refine ⟨⟨ep, false, a5, b.drop 24, _, rfl, o5', ?_⟩, hX⟩
                by_cases c6 : (b.drop 24).length = 40
                · rw [if_pos ⟨c2, by omega, c3, .inr c6⟩, if_pos (by rw [c6]; rfl)]
                · rw [if_neg (fun x => c6 (x.2.2.2.resolve_left c5)), if_neg (by simp only [decide_eq_true_eq]; omega)]
          · simp only [go_sem, reduceIte, Nat.reduceEqDiff, Nat.reduceAdd, Nat.reduceLeDiff, Nat.reducePow, Nat.reduceDiv, Nat.reduceMod, decide_true, decide_eq_false c3, Bool.not_false]
            exact ⟨no (if_neg (by omega)), hX⟩
        · simp only [go_sem, reduceIte, Nat.reduceEqDiff, Nat.reduceAdd, Nat.reduceLeDiff, Nat.reducePow, Nat.reduceDiv, Nat.reduceMod, decide_true, decide_eq_false c2, Bool.not_false]
          exact ⟨no (if_neg (by omega)), hX⟩
    · rw [if_neg c0]
      simp only [decide_eq_false c0, go_sem, reduceIte, Nat.reduceEqDiff, Nat.reduceAdd, Nat.reduceLeDiff, Nat.reducePow, Nat.reduceDiv, Nat.reduceMod, decide_true]
      exact ⟨no rfl, hX⟩
  · rintro r H ⟨⟨e, b, a, q, ok, rfl, ho, hq⟩, hx⟩
    refine ⟨hx, _, Frz.tup4 (Frz.int _ _) (Frz.bool _) (Frz.d (Own.fz (dBytes _) (fun _ x => x) _ ho)) (Frz.bool _), e, b, q, ok, rfl, hq⟩

end Glb

/-
  Layer 8: the program's slots.
-/
namespace Glb
open Go
set_option maxRecDepth 10000
set_option maxHeartbeats 8000000

theorem pc_len {b q : List Int} {k : Nat} {e : Int} {l : Bool} (h : pc b k = some (e, l, q)) : q.length ≤ b.length := by
  unfold pc at h
  split at h
  · simp only [Option.some.injEq, Prod.mk.injEq] at h
    rw [← h.2.2]; simp
  · cases h
theorem whole_nn (g : Nat → Option (Int × Bool × List Int)) (n : Nat) (s : Int) : 0 ≤ (whole g n s).2 ∧ ((whole g n s).2 = 0 → (whole g n s).1 = []) := by
  rcases whole_or (g := g) (n := n) (s := s) with h | ⟨e, l, p, _, he, h⟩
  · rw [h]; exact ⟨by simp, fun _ => rfl⟩
  · rw [h]; exact ⟨by have := he.1; omega, fun x => by have := he.1; omega⟩

def Whole8Ok (P : Program) (f : FuncId) : Prop := isFn P f = true ∧ ∀ (F : Nat → Prop) (h : AHeap) (p : Nat) (d : Dk) (i : Int) (n : Nat) (s : Int), DiskAt F h p d → d.bts → 1 ≤ n → n ≤ 16384 → 0 ≤ i ∧ i ≤ 16384 → s = 0 ∨ s = 1 →
  ACalls P f [.ptr p 6 0 0, .int .i64 i, .int .i64 n, .int .i64 s] h fun r h' => (∃ a, r = .tup [a, .int .i64 (whole (d.slot i) n s).2] ∧ Own (dBytes (whole (d.slot i) n s).1) (fun m => h.length ≤ m) h' a) ∧ Ext nof h h'
def LoadOk (P : Program) (f : FuncId) : Prop := isFn P f = true ∧ ∀ (F : Nat → Prop) (h : AHeap) (p : Nat) (d : Dk) (a n : Int), DiskAt F h p d → d.bts →
  ACalls P f [.ptr p 6 0 0, .int .i64 a, .int .i64 n] h fun r h' => (∃ o, r = .tup [o, .int .i64 (d.load a n).2.1, .int .i64 (d.load a n).2.2] ∧ Own (dBytes (d.load a n).1) (fun m => h.length ≤ m) h' o) ∧ Ext nof h h'
def LoadP (P : Program) (f : FuncId) : Prop := isFn P f = true ∧ ∀ (F : Nat → Prop) (h : AHeap) (p : Nat) (d : Dk) (a n : Int), DiskAt F h p d → d.bts →
  ACalls P f [.ptr p 6 0 0, .int .i64 a, .int .i64 n] h fun r h' => r = .tup [abytes (d.load a n).1, .int .i64 (d.load a n).2.1, .int .i64 (d.load a n).2.2] ∧ h' = h
theorem LoadOk.p {P : Program} {f : FuncId} (hc : LoadOk P f) : LoadP P f :=
 ⟨hc.1, fun F h p d a n hd hb => (hc.2 F h p d a n hd hb).freeze fun _ _ ⟨⟨o, e, ho⟩, hx⟩ => ⟨hx, _, e ▸ Frz.tup3 (Frz.d (Own.fz (dBytes _) (fun _ x => x) _ ho)) (Frz.int _ _) (Frz.int _ _), rfl⟩⟩

theorem whole_ok {P : Program} {f g : FuncId} (hf : Is P f (c_check_whole g)) (hg : PieceOk P g) : Whole8Ok P f := by
  refine ⟨hf.2, fun F h p d i n s hd hb hn hn2 hi hs => fun_sound hf.1 (Nat.le_of_ble_eq_true rfl) ?_⟩
  show vc P (c_check_whole g).code ⟨[(0, .ptr p 6 0 0), (1, .int .i64 i), (2, .int .i64 n), (3, .int .i64 s)], [], h⟩ (atEnd (c_check_whole g).res _)
  simp only [c_check_whole, go_sem, reduceIte, Nat.reduceEqDiff, Nat.reduceAdd, Nat.reduceLeDiff, Nat.reducePow, Nat.reduceDiv, Nat.reduceMod, decide_true]
  obtain ⟨I, hI⟩ : ∃ I : Nat → Env → AHeap → Prop, ∀ m L h', I m L h' ↔ ∃ (k : Nat) (o : AV) (e : Int) (out : List Int), lk 0 L = .ptr p 6 0 0 ∧ lk 1 L = .int .i64 i ∧ lk 3 L = .int .i64 s ∧ lk 10 L = o ∧ lk 11 L = .int .i64 e ∧ lk 17 L = .int .i64 n ∧ lk 18 L = .int .i64 k ∧
      Own (dBytes out) (fun m => h.length ≤ m) h' o ∧ canApp h' o ∧ Ext nof h h' ∧ out.length ≤ 64 * k ∧ (k = 0 ∧ out = [] ∨ 0 < k ∧ fitE e s ∧ whole (d.slot i) n s = collect (d.slot i) e (n - k) k out) ∧ k ≤ n ∧ m = n - k := ⟨_, fun _ _ _ => Iff.rfl⟩
  refine vc_loop I n ((hI _ _ _).2 ⟨0, .nils, 0, [], by simp [lk_ins, lk_cons], by simp [lk_ins, lk_cons], by simp [lk_ins, lk_cons], by simp [lk_ins, lk_cons], by simp [lk_ins, lk_cons], by simp [lk_ins, lk_cons], by simp [lk_ins, lk_cons], Own.nils 1, trivial, Ext.refl _ _, by simp, .inl ⟨rfl, rfl⟩, by omega, rfl⟩) ?_
  intro m L H hh
  obtain ⟨k, o, e, out, k0, k1, k3, k10, k11, k17, k18, ho, hc, hx, hl, hw, hk, rfl⟩ := (hI _ _ _).1 hh
  simp only [c_check_whole_l0, go_sem, reduceIte, Nat.reduceEqDiff, Nat.reduceAdd, Nat.reduceLeDiff, Nat.reducePow, Nat.reduceDiv, Nat.reduceMod, decide_true, k17, k18]
  refine wCond_split (fun ck => ?_) (fun ck => ?_)
  · simp at ck
    have e1 : IntKind.i64.wrap (i + k) = i + k := wrap_i64 (by omega)
    have e2 : IntKind.i64.wrap ((k : Int) + 1) = ((k + 1 : Nat) : Int) := by rw [wrap_i64 (by omega)]; omega
    simp only [go_sem, reduceIte, Nat.reduceEqDiff, Nat.reduceAdd, Nat.reduceLeDiff, Nat.reducePow, Nat.reduceDiv, Nat.reduceMod, decide_true, k0, k1, k3, k10, k11, k17, k18, e1]
    refine wCall_use ⟨hg.1, hg.2 F H p d (i + k) k (hd.up hx) hb (by omega)⟩ ?_
    rintro _ h9 ⟨⟨e', b, q, ok, rfl, hq⟩, rfl⟩
    have hs' : d.slot i k = if ok then some (e', b, q) else none := hq
    have hql : ok = true → q.length ≤ 64 := by
      rintro rfl
      have hh := Dk.read_len8 hd.ok (i + k)
      simp only [if_true] at hq
      split at hq
      · have := pc_len hq; omega
      · cases hq
    have g1 : ∀ x : Int, abin .rem (.int .i64 x) (.int .i64 2) = some (.int .i64 (x.tmod 2)) := fun _ => rfl
    have hW0 : ok = false → whole (d.slot i) n s = ([], 0) := by
      intro hok
      rw [hok] at hs'
      rcases hw with ⟨rfl, _⟩ | ⟨_, _, hw⟩
      · simp only [whole, hs', Bool.false_eq_true, if_false]
      · rw [hw, show n - k = (n - k - 1) + 1 by omega]
        simp only [collect, hs', Bool.false_eq_true, if_false]
    have hW1 : ok = true → ∀ E, (k = 0 → E = e') → (k ≠ 0 → E = e) → ¬ (E = e' ∧ fitE e' s) → whole (d.slot i) n s = ([], 0) := by
      intro hok E hE1 hE2 hn
      rw [hok] at hs'
      rcases hw with ⟨rfl, _⟩ | ⟨hk0, he, hw⟩
      · simp only [whole, hs', if_true]
        rw [if_neg fun x => hn ⟨hE1 rfl, x⟩]
      · rw [hw, show n - k = (n - k - 1) + 1 by omega]
        simp only [collect, hs', if_true]
        obtain rfl := hE2 (by omega)
        rw [if_neg fun (x : e' = E) => hn ⟨x.symm, x ▸ he⟩]
    have hW2 : ok = true → ∀ E, (k = 0 → E = e') → (k ≠ 0 → E = e) → E = e' → fitE e' s → whole (d.slot i) n s = if b then (out ++ q, e') else collect (d.slot i) e' (n - (k + 1)) (k + 1) (out ++ q) := by
      intro hok E hE1 hE2 hn hf
      rw [hok] at hs'
      have : whole (d.slot i) n s = collect (d.slot i) e' (n - k) k out := by
        rcases hw with ⟨rfl, rfl⟩ | ⟨hk0, he, hw⟩
        · simp only [whole, hs', if_true]
          rw [if_pos hf]; rfl
        · rw [hw, ← hE2 (by omega), hn]
      rw [this, show n - k = (n - (k + 1)) + 1 by omega]
      simp only [collect, hs', if_true]
    have nul : whole (d.slot i) n s = ([], 0) → (∃ a, AV.tup [.nils, .int .i64 0] = .tup [a, .int .i64 (whole (d.slot i) n s).2] ∧ Own (dBytes (whole (d.slot i) n s).1) (fun m => h.length ≤ m) h9 a) ∧ Ext nof h h9 := fun e => by rw [e]; exact ⟨⟨_, rfl, Own.nils 1⟩, hx⟩
    by_cases c0 : k = 0
    · simp only [go_sem, reduceIte, Nat.reduceEqDiff, Nat.reduceAdd, Nat.reduceLeDiff, Nat.reducePow, Nat.reduceDiv, Nat.reduceMod, decide_true, k0, k1, k3, k10, k11, k17, k18, decide_eq_true (show (k : Int) = 0 by omega)]
      have q1 : k = 0 → e' = e' := fun x => by first | rfl | exact absurd x c0
      have q2 : k ≠ 0 → e' = e := fun x => by first | rfl | exact absurd c0 x
      cases ok with
      | false =>
        simp only [go_sem, reduceIte, Nat.reduceEqDiff, Nat.reduceAdd, Nat.reduceLeDiff, Nat.reducePow, Nat.reduceDiv, Nat.reduceMod, decide_true, k0, k1, k3, k10, k11, k17, k18, decide_eq_true (show (k : Int) = 0 by omega), Bool.not_false]
        exact nul (hW0 rfl)
      | true =>
        by_cases cE : e' = e'
        · by_cases c1 : e' < 1
          · simp only [go_sem, reduceIte, Nat.reduceEqDiff, Nat.reduceAdd, Nat.reduceLeDiff, Nat.reducePow, Nat.reduceDiv, Nat.reduceMod, decide_true, k0, k1, k3, k10, k11, k17, k18, decide_eq_true (show (k : Int) = 0 by omega), Bool.not_true, decide_eq_true cE, decide_eq_true c1]
            exact nul (hW1 rfl _ q1 q2 fun x => by have := x.2.1; omega)
          · by_cases c2 : 1099511627776 < e'
            · simp only [go_sem, reduceIte, Nat.reduceEqDiff, Nat.reduceAdd, Nat.reduceLeDiff, Nat.reducePow, Nat.reduceDiv, Nat.reduceMod, decide_true, k0, k1, k3, k10, k11, k17, k18, decide_eq_true (show (k : Int) = 0 by omega), Bool.not_true, decide_eq_true cE, decide_eq_false c1, decide_eq_true c2]
              exact nul (hW1 rfl _ q1 q2 fun x => by have := x.2.2.1; unfold maxNo at this; omega)
            · have em : e'.tmod 2 = e' % 2 := Int.tmod_eq_emod_of_nonneg (by omega)
              by_cases c3 : e' % 2 = s
              · have hfit : fitE e' s := ⟨by omega, by unfold maxNo; omega, c3⟩
                have hW := hW2 rfl _ q1 q2 cE.symm hfit
                obtain ⟨ys, hys, hyr⟩ := (rd_abytes (fun _ => True) h9 q).elems
                obtain ⟨o', h', hap, ho', hc', he'⟩ := own_app (lo := h.length) (sz := 1) (bytes := 1) ho hc (Ext.refl _ _) (own_ints1 hyr) hx.1 (by have := hql rfl; simp; omega)
                have ha2 := aappend_of hys 1 o
                rw [hap] at ha2
                have ho2 : Own (dBytes (out ++ q)) (fun m => h.length ≤ m) h' o' := by simpa [dBytes] using ho'
                have hx2 : Ext nof h h' := hx.then he' (fun m hm hm' => by omega)
                simp only [go_sem, reduceIte, Nat.reduceEqDiff, Nat.reduceAdd, Nat.reduceLeDiff, Nat.reducePow, Nat.reduceDiv, Nat.reduceMod, decide_true, k0, k1, k3, k10, k11, k17, k18, decide_eq_true (show (k : Int) = 0 by omega), Bool.not_true, decide_eq_true cE, decide_eq_false c1, decide_eq_false c2, g1, em, decide_eq_true c3, ha2]
                cases b with
                | true =>
                  simp only [go_sem, reduceIte, Nat.reduceEqDiff, Nat.reduceAdd, Nat.reduceLeDiff, Nat.reducePow, Nat.reduceDiv, Nat.reduceMod, decide_true, k0, k1, k3, k10, k11, k17, k18]
                  rw [if_pos rfl] at hW
                  rw [hW]
                  exact ⟨⟨_, rfl, ho2⟩, hx2⟩
                | false =>
                  rw [if_neg (by simp)] at hW
                  simp only [go_sem, reduceIte, Nat.reduceEqDiff, Nat.reduceAdd, Nat.reduceLeDiff, Nat.reducePow, Nat.reduceDiv, Nat.reduceMod, decide_true, k0, k1, k3, k10, k11, k17, k18, e2]
                  exact ⟨_, by omega, (hI _ _ _).2 ⟨k + 1, o', e', out ++ q, by simp [lk_ins, k0], by simp [lk_ins, k1], by simp [lk_ins, k3], by simp [lk_ins], by first | (simp [lk_ins]; done) | (simp [lk_ins, k11, cE]; done), by simp [lk_ins, k17], by simp [lk_ins], ho2, hc', hx2, by have := hql rfl; simp; omega, .inr ⟨by omega, hfit, hW⟩, by omega, rfl⟩⟩
              · simp only [go_sem, reduceIte, Nat.reduceEqDiff, Nat.reduceAdd, Nat.reduceLeDiff, Nat.reducePow, Nat.reduceDiv, Nat.reduceMod, decide_true, k0, k1, k3, k10, k11, k17, k18, decide_eq_true (show (k : Int) = 0 by omega), Bool.not_true, decide_eq_true cE, decide_eq_false c1, decide_eq_false c2, g1, em, decide_eq_false c3, Bool.not_false]
                exact nul (hW1 rfl _ q1 q2 fun x => c3 x.2.2.2)
        · first
          | exact absurd rfl cE
          | (simp only [go_sem, reduceIte, Nat.reduceEqDiff, Nat.reduceAdd, Nat.reduceLeDiff, Nat.reducePow, Nat.reduceDiv, Nat.reduceMod, decide_true, k0, k1, k3, k10, k11, k17, k18, decide_eq_true (show (k : Int) = 0 by omega), Bool.not_true, decide_eq_false cE, Bool.not_false]
             exact nul (hW1 rfl _ q1 q2 fun x => cE x.1.symm))
    · simp only [go_sem, reduceIte, Nat.reduceEqDiff, Nat.reduceAdd, Nat.reduceLeDiff, Nat.reducePow, Nat.reduceDiv, Nat.reduceMod, decide_true, k0, k1, k3, k10, k11, k17, k18, decide_eq_false (show ¬ (k : Int) = 0 by omega)]
      have q1 : k = 0 → e = e' := fun x => by first | rfl | exact absurd x c0
      have q2 : k ≠ 0 → e = e := fun x => by first | rfl | exact absurd c0 x
      cases ok with
      | false =>
        simp only [go_sem, reduceIte, Nat.reduceEqDiff, Nat.reduceAdd, Nat.reduceLeDiff, Nat.reducePow, Nat.reduceDiv, Nat.reduceMod, decide_true, k0, k1, k3, k10, k11, k17, k18, decide_eq_false (show ¬ (k : Int) = 0 by omega), Bool.not_false]
        exact nul (hW0 rfl)
      | true =>
        by_cases cE : e' = e
        · by_cases c1 : e' < 1
          · simp only [go_sem, reduceIte, Nat.reduceEqDiff, Nat.reduceAdd, Nat.reduceLeDiff, Nat.reducePow, Nat.reduceDiv, Nat.reduceMod, decide_true, k0, k1, k3, k10, k11, k17, k18, decide_eq_false (show ¬ (k : Int) = 0 by omega), Bool.not_true, decide_eq_true cE, decide_eq_true c1]
            exact nul (hW1 rfl _ q1 q2 fun x => by have := x.2.1; omega)
          · by_cases c2 : 1099511627776 < e'
            · simp only [go_sem, reduceIte, Nat.reduceEqDiff, Nat.reduceAdd, Nat.reduceLeDiff, Nat.reducePow, Nat.reduceDiv, Nat.reduceMod, decide_true, k0, k1, k3, k10, k11, k17, k18, decide_eq_false (show ¬ (k : Int) = 0 by omega), Bool.not_true, decide_eq_true cE, decide_eq_false c1, decide_eq_true c2]
              exact nul (hW1 rfl _ q1 q2 fun x => by have := x.2.2.1; unfold maxNo at this; omega)
            · have em : e'.tmod 2 = e' % 2 := Int.tmod_eq_emod_of_nonneg (by omega)
              by_cases c3 : e' % 2 = s
              · have hfit : fitE e' s := ⟨by omega, by unfold maxNo; omega, c3⟩
                have hW := hW2 rfl _ q1 q2 cE.symm hfit
                obtain ⟨ys, hys, hyr⟩ := (rd_abytes (fun _ => True) h9 q).elems
                obtain ⟨o', h', hap, ho', hc', he'⟩ := own_app (lo := h.length) (sz := 1) (bytes := 1) ho hc (Ext.refl _ _) (own_ints1 hyr) hx.1 (by have := hql rfl; simp; omega)
                have ha2 := aappend_of hys 1 o
                rw [hap] at ha2
                have ho2 : Own (dBytes (out ++ q)) (fun m => h.length ≤ m) h' o' := by simpa [dBytes] using ho'
                have hx2 : Ext nof h h' := hx.then he' (fun m hm hm' => by omega)
                simp only [go_sem, reduceIte, Nat.reduceEqDiff, Nat.reduceAdd, Nat.reduceLeDiff, Nat.reducePow, Nat.reduceDiv, Nat.reduceMod, decide_true, k0, k1, k3, k10, k11, k17, k18, decide_eq_false (show ¬ (k : Int) = 0 by omega), Bool.not_true, decide_eq_true cE, decide_eq_false c1, decide_eq_false c2, g1, em, decide_eq_true c3, ha2]
                cases b with
                | true =>
                  simp only [go_sem, reduceIte, Nat.reduceEqDiff, Nat.reduceAdd, Nat.reduceLeDiff, Nat.reducePow, Nat.reduceDiv, Nat.reduceMod, decide_true, k0, k1, k3, k10, k11, k17, k18]
                  rw [if_pos rfl] at hW
                  rw [hW]
                  exact ⟨⟨_, rfl, ho2⟩, hx2⟩
                | false =>
                  rw [if_neg (by simp)] at hW
                  simp only [go_sem, reduceIte, Nat.reduceEqDiff, Nat.reduceAdd, Nat.reduceLeDiff, Nat.reducePow, Nat.reduceDiv, Nat.reduceMod, decide_true, k0, k1, k3, k10, k11, k17, k18, e2]
                  exact ⟨_, by omega, (hI _ _ _).2 ⟨k + 1, o', e', out ++ q, by simp [lk_ins, k0], by simp [lk_ins, k1], by simp [lk_ins, k3], by simp [lk_ins], by first | (simp [lk_ins]; done) | (simp [lk_ins, k11, cE]; done), by simp [lk_ins, k17], by simp [lk_ins], ho2, hc', hx2, by have := hql rfl; simp; omega, .inr ⟨by omega, hfit, hW⟩, by omega, rfl⟩⟩
              · simp only [go_sem, reduceIte, Nat.reduceEqDiff, Nat.reduceAdd, Nat.reduceLeDiff, Nat.reducePow, Nat.reduceDiv, Nat.reduceMod, decide_true, k0, k1, k3, k10, k11, k17, k18, decide_eq_false (show ¬ (k : Int) = 0 by omega), Bool.not_true, decide_eq_true cE, decide_eq_false c1, decide_eq_false c2, g1, em, decide_eq_false c3, Bool.not_false]
                exact nul (hW1 rfl _ q1 q2 fun x => c3 x.2.2.2)
        · first
          | exact absurd rfl cE
          | (simp only [go_sem, reduceIte, Nat.reduceEqDiff, Nat.reduceAdd, Nat.reduceLeDiff, Nat.reducePow, Nat.reduceDiv, Nat.reduceMod, decide_true, k0, k1, k3, k10, k11, k17, k18, decide_eq_false (show ¬ (k : Int) = 0 by omega), Bool.not_true, decide_eq_false cE, Bool.not_false]
             exact nul (hW1 rfl _ q1 q2 fun x => cE x.1.symm))
  · simp at ck
    obtain rfl : k = n := by omega
    simp only [go_sem, reduceIte, Nat.reduceEqDiff, Nat.reduceAdd, Nat.reduceLeDiff, Nat.reducePow, Nat.reduceDiv, Nat.reduceMod, decide_true, k0, k1, k3, k10, k11, k17, k18]
    rcases hw with ⟨h0, _⟩ | ⟨_, _, hw⟩
    · omega
    · rw [hw, Nat.sub_self]
      exact ⟨⟨_, rfl, Own.nils 1⟩, hx⟩

theorem load_ok {P : Program} {f g k : FuncId} (hf : Is P f (c_check_Load g k)) (hg : CMayOk P g) (hk : Whole8Ok P k) : LoadOk P f := by
  refine ⟨hf.2, fun F h p d a n hd hb => fun_sound hf.1 (Nat.le_of_ble_eq_true rfl) ?_⟩
  show vc P (c_check_Load g k).code ⟨[(0, .ptr p 6 0 0), (1, .int .i64 a), (2, .int .i64 n)], [], h⟩ (atEnd (c_check_Load g k).res _)
  have hn := hd.ok.n
  simp only [c_check_Load, go_sem, reduceIte, Nat.reduceEqDiff, Nat.reduceAdd, Nat.reduceLeDiff, Nat.reducePow, Nat.reduceDiv, Nat.reduceMod, decide_true]
  refine use1 hg.1 (hg.2 F h p d a n hd) ?_
  by_cases cm : d.may a n
  · have hl : d.load a n = if (whole (d.slot a) n.toNat 0).2 = 0 ∧ (whole (d.slot (a + n)) n.toNat 1).2 = 0 then ([], 0, 6) else if (whole (d.slot a) n.toNat 0).2 < (whole (d.slot (a + n)) n.toNat 1).2 then ((whole (d.slot (a + n)) n.toNat 1).1, (whole (d.slot (a + n)) n.toNat 1).2, 0) else ((whole (d.slot a) n.toNat 0).1, (whole (d.slot a) n.toNat 0).2, 0) := by
      unfold Dk.load; rw [if_neg (fun x => x cm)]
    have en : ((n.toNat : Nat) : Int) = n := by have := cm.2.1; omega
    obtain ⟨m1, m2, m3⟩ := cm
    simp only [go_sem, reduceIte, Nat.reduceEqDiff, Nat.reduceAdd, Nat.reduceLeDiff, Nat.reducePow, Nat.reduceDiv, Nat.reduceMod, decide_true, decide_eq_true (show d.may a n from ⟨m1, m2, m3⟩), Bool.not_true]
    have w0 := whole_nn (d.slot a) n.toNat 0
    have w1 := whole_nn (d.slot (a + n)) n.toNat 1
    have k0 : ∀ h', Ext nof h h' → ACalls P k [.ptr p 6 0 0, .int .i64 a, .int .i64 n, .int .i64 0] h' _ := fun h' x => by
      have := hk.2 F h' p d a n.toNat 0 (hd.up x) hb (by omega) (by omega) (by omega) (.inl rfl)
      rw [en] at this
      exact this
    have k1 : ∀ h', Ext nof h h' → ACalls P k [.ptr p 6 0 0, .int .i64 (a + n), .int .i64 n, .int .i64 1] h' _ := fun h' x => by
      have := hk.2 F h' p d (a + n) n.toNat 1 (hd.up x) hb (by omega) (by omega) (by omega) (.inr rfl)
      rw [en] at this
      exact this
    rw [hl]
    generalize whole (d.slot a) n.toNat 0 = x at *
    generalize whole (d.slot (a + n)) n.toNat 1 = y at *
    obtain ⟨x1, x2⟩ := x
    obtain ⟨y1, y2⟩ := y
    simp only at w0 w1 k0 k1
    have e0 : IntKind.i64.wrap (0 * n) = 0 := by rw [Int.zero_mul]; rfl
    have e1 : IntKind.i64.wrap (1 * n) = n := by rw [Int.one_mul, wrap_i64 (by omega)]
    have e2 : IntKind.i64.wrap (a + 0) = a := by rw [Int.add_zero, wrap_i64 (by omega)]
    have e3 : IntKind.i64.wrap (a + n) = a + n := wrap_i64 (by omega)
    obtain ⟨I, hI⟩ : ∃ I : Nat → Env → AHeap → Prop, ∀ m L h', I m L h' ↔ ∃ (s : Nat) (o : AV) (b : List Int) (t : Int), lk 0 L = .ptr p 6 0 0 ∧ lk 1 L = .int .i64 a ∧ lk 2 L = .int .i64 n ∧ lk 9 L = o ∧ lk 10 L = .int .i64 t ∧ lk 19 L = .int .i64 s ∧ Own (dBytes b) (fun m => h.length ≤ m) h' o ∧ Ext nof h h' ∧
        (s = 0 ∧ (b, t) = ([], 0) ∨ s = 1 ∧ (b, t) = (x1, x2) ∨ s = 2 ∧ (b, t) = if x2 < y2 then (y1, y2) else (x1, x2)) ∧ m = 2 - s := ⟨_, fun _ _ _ => Iff.rfl⟩
    refine vc_loop I 2 ((hI _ _ _).2 ⟨0, .nils, [], 0, by simp [lk_ins, lk_cons], by simp [lk_ins, lk_cons], by simp [lk_ins, lk_cons], by simp [lk_ins, lk_cons], by simp [lk_ins, lk_cons], by simp [lk_ins, lk_cons], Own.nils 1, Ext.refl _ _, .inl ⟨rfl, rfl⟩, rfl⟩) ?_
    intro m L H hh
    obtain ⟨s, o, b, t, q0, q1, q2, q9, q10, q19, ho, hx, hs, rfl⟩ := (hI _ _ _).1 hh
    have own2 : ∀ {h' : AHeap} {q : AV} {l : List Int}, Own (dBytes l) (fun m => H.length ≤ m) h' q → Own (dBytes l) (fun m => h.length ≤ m) h' q := fun hq => Own.mono _ (fun m hm => Nat.le_trans hx.1 hm) (fun m hm y hy => hy) _ hq
    rcases hs with ⟨rfl, e⟩ | ⟨rfl, e⟩ | ⟨rfl, e⟩
    · cases e
      have d0 : decide ((0 : Int) < 2) = true := rfl
      simp only [c_check_Load_l0, go_sem, reduceIte, Nat.reduceEqDiff, Nat.reduceAdd, Nat.reduceLeDiff, Nat.reducePow, Nat.reduceDiv, Nat.reduceMod, decide_true, q0, q1, q2, q19, q9, q10, Int.ofNat_zero, e0, e2, d0]
      refine wCall_use ⟨hk.1, k0 H hx⟩ ?_
      rintro _ H2 ⟨⟨o2, rfl, ho2⟩, hx2⟩
      have ew : IntKind.i64.wrap (0 + 1) = ((1 : Nat) : Int) := rfl
      by_cases c : 0 < x2
      · simp only [go_sem, reduceIte, Nat.reduceEqDiff, Nat.reduceAdd, Nat.reduceLeDiff, Nat.reducePow, Nat.reduceDiv, Nat.reduceMod, decide_true, q0, q1, q2, q19, q9, q10, Int.ofNat_zero, decide_eq_true c, ew]
        exact ⟨_, by omega, (hI _ _ _).2 ⟨1, _, x1, x2, by simp [lk_ins, q0], by simp [lk_ins, q1], by simp [lk_ins, q2], by simp [lk_ins], by simp [lk_ins], by simp [lk_ins], own2 ho2, hx.tr hx2, .inr (.inl ⟨rfl, rfl⟩), rfl⟩⟩
      · obtain rfl : x2 = 0 := by omega
        obtain rfl := w0.2 rfl
        simp only [go_sem, reduceIte, Nat.reduceEqDiff, Nat.reduceAdd, Nat.reduceLeDiff, Nat.reducePow, Nat.reduceDiv, Nat.reduceMod, decide_true, q0, q1, q2, q19, q9, q10, Int.ofNat_zero, decide_eq_false c, ew]
        exact ⟨_, by omega, (hI _ _ _).2 ⟨1, _, [], 0, by simp [lk_ins, q0], by simp [lk_ins, q1], by simp [lk_ins, q2], by simp [lk_ins, q9], by simp [lk_ins, q10], by simp [lk_ins], ho.up hx2, hx.tr hx2, .inr (.inl ⟨rfl, rfl⟩), rfl⟩⟩
    · cases e
      have d0 : decide ((1 : Int) < 2) = true := rfl
      simp only [c_check_Load_l0, go_sem, reduceIte, Nat.reduceEqDiff, Nat.reduceAdd, Nat.reduceLeDiff, Nat.reducePow, Nat.reduceDiv, Nat.reduceMod, decide_true, q0, q1, q2, q19, q9, q10, Int.ofNat_one, e1, e3, d0]
      refine wCall_use ⟨hk.1, k1 H hx⟩ ?_
      rintro _ H2 ⟨⟨o2, rfl, ho2⟩, hx2⟩
      have ew : IntKind.i64.wrap (1 + 1) = ((2 : Nat) : Int) := rfl
      by_cases c : x2 < y2
      · simp only [go_sem, reduceIte, Nat.reduceEqDiff, Nat.reduceAdd, Nat.reduceLeDiff, Nat.reducePow, Nat.reduceDiv, Nat.reduceMod, decide_true, q0, q1, q2, q19, q9, q10, Int.ofNat_one, decide_eq_true c, ew]
        exact ⟨_, by omega, (hI _ _ _).2 ⟨2, _, y1, y2, by simp [lk_ins, q0], by simp [lk_ins, q1], by simp [lk_ins, q2], by simp [lk_ins], by simp [lk_ins], by simp [lk_ins], own2 ho2, hx.tr hx2, .inr (.inr ⟨rfl, by rw [if_pos c]⟩), rfl⟩⟩
      · simp only [go_sem, reduceIte, Nat.reduceEqDiff, Nat.reduceAdd, Nat.reduceLeDiff, Nat.reducePow, Nat.reduceDiv, Nat.reduceMod, decide_true, q0, q1, q2, q19, q9, q10, Int.ofNat_one, decide_eq_false c, ew]
        exact ⟨_, by omega, (hI _ _ _).2 ⟨2, _, x1, x2, by simp [lk_ins, q0], by simp [lk_ins, q1], by simp [lk_ins, q2], by simp [lk_ins, q9], by simp [lk_ins, q10], by simp [lk_ins], ho.up hx2, hx.tr hx2, .inr (.inr ⟨rfl, by rw [if_neg c]⟩), rfl⟩⟩
    · have d0 : decide (((2 : Nat) : Int) < 2) = false := rfl
      simp only [c_check_Load_l0, go_sem, reduceIte, Nat.reduceEqDiff, Nat.reduceAdd, Nat.reduceLeDiff, Nat.reducePow, Nat.reduceDiv, Nat.reduceMod, decide_true, q0, q1, q2, q19, q9, q10, d0]
      by_cases c : x2 < y2
      · rw [if_pos c] at e
        cases e
        have c0 : ¬ y2 = 0 := by omega
        simp only [go_sem, reduceIte, Nat.reduceEqDiff, Nat.reduceAdd, Nat.reduceLeDiff, Nat.reducePow, Nat.reduceDiv, Nat.reduceMod, decide_true, q9, q10, decide_eq_false c0]
        rw [if_neg (fun x => c0 x.2), if_pos c]
        exact ⟨⟨_, rfl, ho⟩, hx⟩
      · rw [if_neg c] at e
        cases e
        by_cases c0 : x2 = 0
        · simp only [go_sem, reduceIte, Nat.reduceEqDiff, Nat.reduceAdd, Nat.reduceLeDiff, Nat.reducePow, Nat.reduceDiv, Nat.reduceMod, decide_true, q9, q10, decide_eq_true c0]
          rw [if_pos ⟨c0, by omega⟩]
          exact ⟨⟨_, rfl, Own.nils 1⟩, hx⟩
        · simp only [go_sem, reduceIte, Nat.reduceEqDiff, Nat.reduceAdd, Nat.reduceLeDiff, Nat.reducePow, Nat.reduceDiv, Nat.reduceMod, decide_true, q9, q10, decide_eq_false c0]
          rw [if_neg (fun x => c0 x.1), if_neg c]
          exact ⟨⟨_, rfl, ho⟩, hx⟩
  · have hl : d.load a n = ([], 0, 3) := by unfold Dk.load; rw [if_pos cm]
    simp only [go_sem, reduceIte, Nat.reduceEqDiff, Nat.reduceAdd, Nat.reduceLeDiff, Nat.reducePow, Nat.reduceDiv, Nat.reduceMod, decide_true, decide_eq_false cm, Bool.not_false]
    rw [hl]
    exact ⟨⟨_, rfl, Own.nils 1⟩, Ext.refl _ _⟩

end Glb

/-
  Layer 8: Save.
-/
namespace Glb
open Go
set_option maxRecDepth 10000
set_option maxHeartbeats 8000000

def box1 (h : AHeap) (n : Nat) (v : AV) : Prop := h[n]? = some (some (.arr 1 [[v]] false))
def Write1Ok (P : Program) (f : FuncId) : Prop := isFn P f = true ∧ ∀ (F G : Nat → Prop) (h : AHeap) (nb nd nf ne nm p : Nat) (d : Dk) (i e : Int) (l : List Int) (k : Nat) (a : AV),
  box1 h nb a → box1 h nd (.ptr p 6 0 0) → box1 h nf (.int .i64 i) → box1 h ne (.int .i64 e) → box1 h nm (.int .i64 (pcs l.length)) → DiskAt F h p d → Rd G h (dBytes l) a → pcs l.length ≤ 2^34 → k < pcs l.length → 0 ≤ i ∧ i ≤ 16384 →
  ACalls P f [.int .i64 k, .ptr nb 1 0 0, .ptr nd 1 0 0, .ptr nf 1 0 0, .ptr ne 1 0 0, .ptr nm 1 0 0] h fun r h' => r = .int .i64 (d.wr i e (eff l) k).2 ∧ DiskAt F h' p (d.wr i e (eff l) k).1 ∧ Ext F h h'
def SaveGOk (P : Program) (f : FuncId) : Prop := isFn P f = true ∧ ∀ (F G : Nat → Prop) (h : AHeap) (p : Nat) (d : Dk) (at' n e : Int) (l : List Int) (a : AV),
  DiskAt F h p d → Rd G h (dBytes l) a → (∀ m, G m → ¬ F m) → (∀ m, F m → m < h.length) →
  ACalls P f [.ptr p 6 0 0, .int .i64 at', .int .i64 n, .int .i64 e, a] h fun r h' => r = .int .i64 (d.save at' n e (eff l)).2 ∧ DiskAt F h' p (d.save at' n e (eff l)).1 ∧ Ext F h h'

theorem write1_ok {P : Program} {f g w : FuncId} (hf : Is P f (c_check_Save_f1 g w)) (hg : LaidOk P g) (hw : WriteOk P w) : Write1Ok P f := by
  refine ⟨hf.2, fun F G h nb nd nf ne nm p d i e l k a b1 b2 b3 b4 b5 hd ha hl hk hi => fun_sound hf.1 (Nat.le_of_ble_eq_true rfl) ?_⟩
  show vc P (c_check_Save_f1 g w).code ⟨[(0, .int .i64 k), (1, .ptr nb 1 0 0), (2, .ptr nd 1 0 0), (3, .ptr nf 1 0 0), (4, .ptr ne 1 0 0), (5, .ptr nm 1 0 0)], [], h⟩ (atEnd (c_check_Save_f1 g w).res _)
  unfold box1 at b1 b2 b3 b4 b5
  have la := ha.bytes_len
  have e1 : IntKind.i64.wrap ((k : Int) * 40) = 40 * k := by rw [wrap_i64 (by omega)]; omega
  have e2 : IntKind.i64.wrap ((k : Int) + 1) = k + 1 := wrap_i64 (by omega)
  have e3 : IntKind.i64.wrap (((k : Int) + 1) * 40) = 40 * k + 40 := by rw [wrap_i64 (by omega)]; omega
  have e4 : IntKind.i64.wrap (i + k) = i + k := wrap_i64 (by omega)
  have e5 : IntKind.i64.wrap ((pcs l.length : Int) - 1) = pcs l.length - 1 := wrap_i64 (by omega)
  simp only [c_check_Save_f1, go_sem, reduceIte, Nat.reduceEqDiff, Nat.reduceAdd, Nat.reduceLeDiff, Nat.reducePow, Nat.reduceDiv, Nat.reduceMod, decide_true, b1, b2, b3, b4, b5, la, e1, e2, e3, e4, e5, rev_mnmx, mnmx_min]
  have hkl : 40 * k ≤ l.length := by rcases pcs_cases l.length with h | h <;> omega
  have m1 : min (40 * (k : Int)) l.length = 40 * k := by omega
  have m2 : (min (40 * (k : Int) + 40) l.length).toNat = min (40 * k + 40) l.length := by omega
  obtain ⟨c, s1, hc⟩ := Rd.slice ha (lo := some (40 * (k : Int))) (hi := some (min (40 * (k : Int) + 40) l.length)) (mx := none) (by simp; omega) (by simp; omega) (by simp; omega) (by simp) (by simp; omega) (by simp)
  have ec : (((l.map fun n => [D.int .u8 n]).take (min (40 * k + 40) l.length)).drop (40 * k)) = (cutAt l k).map fun n => [D.int .u8 n] := by
    rw [← List.map_take, ← List.map_drop]
    congr 1
    unfold cutAt
    rw [List.drop_take, List.take_eq_take_iff, List.length_drop]; omega
  have hc' : Rd G h (dBytes (cutAt l k)) c := by
    simp only [Option.getD_some, m2, show (40 * (k : Int)).toNat = 40 * k by omega] at hc
    rw [ec] at hc
    exact hc
  simp only [m1, s1, go_sem, reduceIte, Nat.reduceEqDiff, Nat.reduceAdd, Nat.reduceLeDiff, Nat.reducePow, Nat.reduceDiv, Nat.reduceMod, decide_true, b1, b2, b3, b4, b5, e4, e5]
  have ed : decide ((k : Int) = pcs l.length - 1) = decide (k + 1 = pcs l.length) := by rw [decide_eq_decide]; omega
  have epk : pieceB e k (decide (k + 1 = pcs l.length)) (cutAt l k) = pieceK e (eff l) k := by unfold pieceK; rw [cut_eff l hk, many_eff]
  refine use1 hg.1 (hg.2 G h e k _ (cutAt l k) c hc' (by have := cut_len l k; omega) (by omega)) ?_
  simp only [m1, s1, go_sem, reduceIte, Nat.reduceEqDiff, Nat.reduceAdd, Nat.reduceLeDiff, Nat.reducePow, Nat.reduceDiv, Nat.reduceMod, decide_true, b1, b2, b3, b4, b5, e4, e5, ed]
  rw [epk]
  refine wCall_use ⟨hw.1, hw.2 F nof h p d (i + k) (pieceK e (eff l) k) _ hd (rd_abytes nof _ _) (fun m x => x.elim) (by have := pieceK_len e (eff l) k; omega)⟩ ?_
  rintro _ H ⟨rfl, hd2, hx⟩
  simp only [go_sem, reduceIte, Nat.reduceEqDiff, Nat.reduceAdd, Nat.reduceLeDiff, Nat.reducePow, Nat.reduceDiv, Nat.reduceMod, decide_true]
  exact ⟨rfl, hd2, hx⟩

theorem saveG_ok {P : Program} {f g1 g2 g3 g4 : FuncId} (hf : Is P f (c_check_Save g1 g2 g3 g4)) (h1 : CMayOk P g1) (h2 : PiecesOk P g2) (h3 : Write1Ok P g3) (h4 : FlushDOk P g4) : SaveGOk P f := by
  refine ⟨hf.2, fun F G h p d at' n e l a hd ha hG hF => fun_sound hf.1 (Nat.le_of_ble_eq_true rfl) ?_⟩
  show vc P (c_check_Save g1 g2 g3 g4).code ⟨[(0, .ptr p 6 0 0), (1, .int .i64 at'), (2, .int .i64 n), (3, .int .i64 e), (4, a)], [], h⟩ (atEnd (c_check_Save g1 g2 g3 g4).res _)
  have hn := hd.ok.n
  have sa : a.scalar = true := ha.scalar
  simp only [c_check_Save, go_sem, reduceIte, Nat.reduceEqDiff, Nat.reduceAdd, Nat.reduceLeDiff, Nat.reducePow, Nat.reduceDiv, Nat.reduceMod, decide_true, sa, cells_of sa]
  have B0 : box1 (h ++ [some (ABlk.arr 1 [[AV.ptr p 6 0 0]] false)] ++ [some (ABlk.arr 1 [[AV.int .i64 e]] false)] ++ [some (ABlk.arr 1 [[a]] false)]) h.length (.ptr p 6 0 0) := bx30 h _ _ _
  have B1 : box1 (h ++ [some (ABlk.arr 1 [[AV.ptr p 6 0 0]] false)] ++ [some (ABlk.arr 1 [[AV.int .i64 e]] false)] ++ [some (ABlk.arr 1 [[a]] false)]) (h.length + 1) (.int .i64 e) := bx31 h _ _ _
  have B2 : box1 (h ++ [some (ABlk.arr 1 [[AV.ptr p 6 0 0]] false)] ++ [some (ABlk.arr 1 [[AV.int .i64 e]] false)] ++ [some (ABlk.arr 1 [[a]] false)]) (h.length + 1 + 1) a := bx32 h _ _ _
  have X3 : Ext nof h (h ++ [some (ABlk.arr 1 [[AV.ptr p 6 0 0]] false)] ++ [some (ABlk.arr 1 [[AV.int .i64 e]] false)] ++ [some (ABlk.arr 1 [[a]] false)]) := Ext.b3 _ _ _
  have L3 : (h ++ [some (ABlk.arr 1 [[AV.ptr p 6 0 0]] false)] ++ [some (ABlk.arr 1 [[AV.int .i64 e]] false)] ++ [some (ABlk.arr 1 [[a]] false)]).length = h.length + 3 := by simp
  obtain ⟨nd, hnd⟩ : ∃ x, x = h.length := ⟨_, rfl⟩
  rw [← hnd] at B0 B1 B2 L3 ⊢
  unfold box1 at B0 B1 B2
  generalize h ++ [some (ABlk.arr 1 [[AV.ptr p 6 0 0]] false)] ++ [some (ABlk.arr 1 [[AV.int .i64 e]] false)] ++ [some (ABlk.arr 1 [[a]] false)] = H at *
  have hd3 := hd.up X3
  have ha3 := ha.up X3
  have stay : Ext F h H := ⟨X3.1, fun m hm _ => X3.2 m hm (fun x => x)⟩
  refine use1 h1.1 (h1.2 F H p d at' n hd3) ?_
  have em' := many_eff l
  unfold Dk.save
  by_cases cm : d.may at' n
  · by_cases c1 : e < 1
    · simp only [go_sem, reduceIte, Nat.reduceEqDiff, Nat.reduceAdd, Nat.reduceLeDiff, Nat.reducePow, Nat.reduceDiv, Nat.reduceMod, decide_true, decide_eq_true cm, Bool.not_true, B0, B1, B2, decide_eq_true c1]
      rw [if_pos (.inr (.inl c1))]
      exact ⟨rfl, hd3, stay⟩
    · by_cases c2 : 1099511627776 < e
      · simp only [go_sem, reduceIte, Nat.reduceEqDiff, Nat.reduceAdd, Nat.reduceLeDiff, Nat.reducePow, Nat.reduceDiv, Nat.reduceMod, decide_true, decide_eq_true cm, Bool.not_true, B0, B1, B2, decide_eq_false c1, decide_eq_true c2]
        rw [if_pos (.inr (.inr (by unfold maxNo; omega)))]
        exact ⟨rfl, hd3, stay⟩
      · rw [if_neg (by unfold maxNo; rintro (x | x | x); exact x cm; exact c1 x; exact c2 x)]
        obtain ⟨m1, m2, m3⟩ := cm
        simp only [go_sem, reduceIte, Nat.reduceEqDiff, Nat.reduceAdd, Nat.reduceLeDiff, Nat.reducePow, Nat.reduceDiv, Nat.reduceMod, decide_true, decide_eq_true (show d.may at' n from ⟨m1, m2, m3⟩), Bool.not_true, B0, B1, B2, decide_eq_false c1, decide_eq_false c2]
        refine use1 h2.1 (h2.2 G H l a ha3) ?_
        rw [← em']
        simp only [go_sem, reduceIte, Nat.reduceEqDiff, Nat.reduceAdd, Nat.reduceLeDiff, Nat.reducePow, Nat.reduceDiv, Nat.reduceMod, decide_true, B0, B1, B2]
        by_cases c3 : n < many (eff l)
        · simp only [go_sem, reduceIte, Nat.reduceEqDiff, Nat.reduceAdd, Nat.reduceLeDiff, Nat.reducePow, Nat.reduceDiv, Nat.reduceMod, decide_true, decide_eq_true c3]
          rw [if_pos c3]
          exact ⟨rfl, hd3.up (Ext.b1 _), ⟨by have := X3.1; simp; omega, fun m hm _ => by rw [List.getElem?_append_left (by have := X3.1; omega)]; exact X3.2 m hm (fun x => x)⟩⟩
        rw [if_neg c3]
        have hl : pcs l.length ≤ 2^34 := by rw [← em']; omega
        have er : e.tmod 2 = e % 2 := Int.tmod_eq_emod_of_nonneg (by omega)
        have e1 : IntKind.i64.wrap (e % 2 * n) = e % 2 * n := by
          rcases (by omega : e % 2 = 0 ∨ e % 2 = 1) with x | x <;> rw [x]
          · simp; rfl
          · rw [Int.one_mul, wrap_i64 (by omega)]
        have hfr : 0 ≤ at' + e % 2 * n ∧ at' + e % 2 * n ≤ 16384 := by
          rcases (by omega : e % 2 = 0 ∨ e % 2 = 1) with x | x <;> rw [x] <;> omega
        have e2 : IntKind.i64.wrap (at' + e % 2 * n) = at' + e % 2 * n := wrap_i64 (by omega)
        have l0 : nd < H.length := by omega
        have l1 : nd + 1 < H.length := by omega
        have l2 : nd + 1 + 1 < H.length := by omega
        have g1 : ∀ x : Int, abin .rem (.int .i64 x) (.int .i64 2) = some (.int .i64 (x.tmod 2)) := fun _ => rfl
        have B1' : ∀ x, (H ++ [x])[nd + 1]? = some (some (.arr 1 [[.int .i64 e]] false)) := fun x => by rw [List.getElem?_append_left l1]; exact B1
        simp only [go_sem, reduceIte, Nat.reduceEqDiff, Nat.reduceAdd, Nat.reduceLeDiff, Nat.reducePow, Nat.reduceDiv, Nat.reduceMod, decide_true, decide_eq_false c3, B1', g1, er, e1, e2]
        generalize at' + e % 2 * n = i at *
        have B3 : (H ++ [some (ABlk.arr 1 [[.int .i64 (many (eff l))]] false)] ++ [some (ABlk.arr 1 [[.int .i64 i]] false)])[H.length]? = some (some (.arr 1 [[.int .i64 (many (eff l))]] false)) := bx20 H _ _
        have B4 : (H ++ [some (ABlk.arr 1 [[.int .i64 (many (eff l))]] false)] ++ [some (ABlk.arr 1 [[.int .i64 i]] false)])[H.length + 1]? = some (some (.arr 1 [[.int .i64 i]] false)) := bx21 H _ _
        have X5 : Ext nof H (H ++ [some (ABlk.arr 1 [[.int .i64 (many (eff l))]] false)] ++ [some (ABlk.arr 1 [[.int .i64 i]] false)]) := Ext.b2 _ _
        have L5 : (H ++ [some (ABlk.arr 1 [[.int .i64 (many (eff l))]] false)] ++ [some (ABlk.arr 1 [[.int .i64 i]] false)]).length = H.length + 2 := by simp
        obtain ⟨nm, hnm⟩ : ∃ x, x = H.length := ⟨_, rfl⟩
        rw [← hnm] at B3 B4 L5 l0 l1 l2 ⊢
        have C0 := X5.get B0
        have C1 := X5.get B1
        have C2 := X5.get B2
        have hd5 := hd3.up X5
        have ha5 := ha3.up X5
        generalize H ++ [some (ABlk.arr 1 [[.int .i64 (many (eff l))]] false)] ++ [some (ABlk.arr 1 [[.int .i64 i]] false)] = H5 at *
        have e3 : IntKind.i64.wrap ((many (eff l) : Int) - 1) = many (eff l) - 1 := wrap_i64 (by have := many_pos (eff l); omega)
        simp only [go_sem, reduceIte, Nat.reduceEqDiff, Nat.reduceAdd, Nat.reduceLeDiff, Nat.reducePow, Nat.reduceDiv, Nat.reduceMod, decide_true, C0, C1, C2, B3, B4, e3]
        have X35 : Ext nof h H5 := X3.tr X5
        have hF' : ∀ m, nd ≤ m → ¬ F m := fun m hm x => by have := hF m x; omega
        have stays : ∀ (h' : AHeap) (m : Nat) (v : AV), Ext F H5 h' → nd ≤ m → box1 H5 m v → box1 h' m v := fun h' m v x hm b => (x.2 m (List.getElem?_eq_some_iff.1 b).1 (hF' m hm)).trans b
        have fin : ∀ {h' : AHeap}, Ext F H5 h' → Ext F h h' := fun x => X35.trans x (fun m _ y => y.elim) (fun _ _ y => y)
        obtain ⟨clo, hclo⟩ : ∃ x, x = AV.clo g3 [] [.ptr (nd + 1 + 1) 1 0 0, .ptr nd 1 0 0, .ptr (nm + 1) 1 0 0, .ptr (nd + 1) 1 0 0, .ptr nm 1 0 0] := ⟨_, rfl⟩
        rw [← hclo]
        unfold Dk.lay
        obtain ⟨rs, hrs⟩ : ∃ x, x = d.rest i e (eff l) (many (eff l) - 1) 1 := ⟨_, rfl⟩
        rw [← hrs]
        obtain ⟨I, hI⟩ : ∃ I : Nat → Env → AHeap → Prop, ∀ m L h', I m L h' ↔ ∃ (j : Nat) (d1 : Dk), lk 45 L = .int .i64 j ∧ lk 44 L = .int .i64 (many (eff l) - 1) ∧ lk 13 L = clo ∧ lk 5 L = .ptr nd 1 0 0 ∧ lk 11 L = .ptr nm 1 0 0 ∧ DiskAt F h' p d1 ∧ Rd G h' (dBytes l) a ∧ Ext F H5 h' ∧ rs = d1.rest i e (eff l) (many (eff l) - 1 - j) (j + 1) ∧ j ≤ many (eff l) - 1 ∧ m = many (eff l) - 1 - j := ⟨_, fun _ _ _ => Iff.rfl⟩
        refine vc_loop I (many (eff l) - 1) ((hI _ _ _).2 ⟨0, d, by simp [lk_ins, lk_cons], by simp [lk_ins, lk_cons], by simp [lk_ins, lk_cons], by simp [lk_ins, lk_cons], by simp [lk_ins, lk_cons], hd5, ha5, Ext.refl _ _, hrs, by omega, rfl⟩) ?_
        intro m L h' hh
        obtain ⟨j, d1, k45, k44, k13, k5, k11, hdj, haj, hxj, hr, hj, rfl⟩ := (hI _ _ _).1 hh
        have mpos := many_pos (eff l)
        have D0 := stays _ _ _ hxj (by omega) C0
        have D1 := stays _ _ _ hxj (by omega) C1
        have D2 := stays _ _ _ hxj (by omega) C2
        have D3 := stays _ _ _ hxj (by omega) B3
        have D4 := stays _ _ _ hxj (by omega) B4
        simp only [c_check_Save_l0, go_sem, reduceIte, Nat.reduceEqDiff, Nat.reduceAdd, Nat.reduceLeDiff, Nat.reducePow, Nat.reduceDiv, Nat.reduceMod, decide_true, k45, k44]
        refine wCond_split (fun ck => ?_) (fun ck => ?_)
        · simp at ck
          have e4 : IntKind.i64.wrap ((j : Int) + 1) = ((j + 1 : Nat) : Int) := by rw [wrap_i64 (by omega)]; omega
          simp only [go_sem, reduceIte, Nat.reduceEqDiff, Nat.reduceAdd, Nat.reduceLeDiff, Nat.reducePow, Nat.reduceDiv, Nat.reduceMod, decide_true, k45, k44, k13, k5, k11, e4]
          rw [hclo]
          simp only [go_sem, reduceIte, Nat.reduceEqDiff, Nat.reduceAdd, Nat.reduceLeDiff, Nat.reducePow, Nat.reduceDiv, Nat.reduceMod, decide_true]
          refine wCall_use ⟨h3.1, h3.2 F G h' _ _ _ _ _ p d1 i e l (j + 1) a D2 D0 D4 D1 (em' ▸ D3) hdj haj hl (by omega) hfr⟩ ?_
          rintro _ h2' ⟨rfl, hd2, hx2⟩
          have hr2 : rs = if (d1.wr i e (eff l) (j + 1)).2 = 0 then (d1.wr i e (eff l) (j + 1)).1.rest i e (eff l) (many (eff l) - 1 - (j + 1)) (j + 1 + 1) else d1.wr i e (eff l) (j + 1) := by
            rw [hr, show many (eff l) - 1 - j = (many (eff l) - 1 - (j + 1)) + 1 by omega]; rfl
          have hx3 : Ext F H5 h2' := hxj.trans hx2 (fun _ _ y => y) (fun _ _ y => y)
          by_cases c4 : (d1.wr i e (eff l) (j + 1)).2 = 0
          · simp only [go_sem, reduceIte, Nat.reduceEqDiff, Nat.reduceAdd, Nat.reduceLeDiff, Nat.reducePow, Nat.reduceDiv, Nat.reduceMod, decide_true, k45, k44, k13, k5, k11, decide_eq_true c4, Bool.not_true, e4]
            rw [if_pos c4] at hr2
            exact ⟨_, by omega, (hI _ _ _).2 ⟨j + 1, _, by simp [lk_ins], by simp [lk_ins, k44], by simp [lk_ins, k13], by simp [lk_ins, k5], by simp [lk_ins, k11], hd2, haj.mono (fun _ x => x) (hx2.keepOff (F' := G) fun m _ hm => hG m hm), hx3, hr2, by omega, rfl⟩⟩
          · simp only [go_sem, reduceIte, Nat.reduceEqDiff, Nat.reduceAdd, Nat.reduceLeDiff, Nat.reducePow, Nat.reduceDiv, Nat.reduceMod, decide_true, k45, k44, k13, k5, k11, decide_eq_false c4, Bool.not_false]
            rw [if_neg c4] at hr2
            rw [hr2, if_neg c4]
            exact ⟨rfl, hd2, fin hx3⟩
        · simp at ck
          obtain rfl : j = many (eff l) - 1 := by omega
          rw [Nat.sub_self] at hr
          simp only [Dk.rest] at hr
          unfold box1 at D0 D1 D2 D3 D4
          rw [hr, if_pos rfl]
          have tail : ∀ (d2 : Dk) (h2 : AHeap) (Q : AV → AHeap → Prop), DiskAt F h2 p d2 → Ext F H5 h2 → (∀ h3 d3, DiskAt F h3 p d3 → Ext F H5 h3 → d3 = (d2.wr i e (eff l) 0).1 → Q (.int .i64 (d2.wr i e (eff l) 0).2) h3) →
              wCall P g3 [.int .i64 0, .ptr (nd + 1 + 1) 1 0 0, .ptr nd 1 0 0, .ptr (nm + 1) 1 0 0, .ptr (nd + 1) 1 0 0, .ptr nm 1 0 0] h2 Q := by
            intro d2 h2 Q hd2 hx2 hQ
            refine wCall_use ⟨h3.1, h3.2 F G h2 _ _ _ _ _ p d2 i e l 0 a (stays _ _ _ hx2 (by omega) C2) (stays _ _ _ hx2 (by omega) C0) (stays _ _ _ hx2 (by omega) B4) (stays _ _ _ hx2 (by omega) C1) (em' ▸ stays _ _ _ hx2 (by omega) B3) hd2 (ha5.mono (fun _ x => x) (hx2.keepOff (F' := G) fun m _ hm => hG m hm)) hl (by omega) hfr⟩ ?_
            rintro _ h3' ⟨rfl, hd3, hx3⟩
            exact hQ _ _ hd3 (hx2.trans hx3 (fun _ _ y => y) (fun _ _ y => y)) rfl
          by_cases c5 : 1 < (many (eff l) : Int)
          · have em : d1.mid (eff l) = d1.flush := by unfold Dk.mid; rw [if_pos (by omega)]
            rw [em]
            simp only [go_sem, reduceIte, Nat.reduceEqDiff, Nat.reduceAdd, Nat.reduceLeDiff, Nat.reducePow, Nat.reduceDiv, Nat.reduceMod, decide_true, k45, k44, k13, k5, k11, D0, D1, D2, D3, D4, decide_eq_true c5]
            refine wCall_use ⟨h4.1, h4.2 F h' p d1 hdj⟩ ?_
            rintro _ h2' ⟨rfl, hd2, hx2⟩
            have hx3 : Ext F H5 h2' := hxj.trans hx2 (fun _ _ y => y) (fun _ _ y => y)
            by_cases c6 : d1.flush.2 = 0
            · rw [if_pos c6]
              simp only [go_sem, reduceIte, Nat.reduceEqDiff, Nat.reduceAdd, Nat.reduceLeDiff, Nat.reducePow, Nat.reduceDiv, Nat.reduceMod, decide_true, k45, k44, k13, k5, k11, decide_eq_true c6, Bool.not_true]
              generalize d1.flush.1 = d2 at *
              rw [hclo]
              simp only [go_sem, reduceIte, Nat.reduceEqDiff, Nat.reduceAdd, Nat.reduceLeDiff, Nat.reducePow, Nat.reduceDiv, Nat.reduceMod, decide_true]
              refine tail d2 h2' _ hd2 hx3 ?_
              rintro h6 _ hd6 hx6 rfl
              have D0 := stays _ _ _ hx6 (by omega) C0
              unfold box1 at D0
              unfold Dk.end'
              by_cases c7 : (d2.wr i e (eff l) 0).2 = 0
              · rw [if_pos c7]
                simp only [go_sem, reduceIte, Nat.reduceEqDiff, Nat.reduceAdd, Nat.reduceLeDiff, Nat.reducePow, Nat.reduceDiv, Nat.reduceMod, decide_true, k45, k44, k13, k5, k11, decide_eq_true c7, Bool.not_true, D0]
                refine wCall_use ⟨h4.1, h4.2 F h6 p _ hd6⟩ ?_
                rintro _ h7 ⟨rfl, hd7, hx7⟩
                simp only [go_sem, reduceIte, Nat.reduceEqDiff, Nat.reduceAdd, Nat.reduceLeDiff, Nat.reducePow, Nat.reduceDiv, Nat.reduceMod, decide_true]
                exact ⟨hd7, fin (hx6.trans hx7 (fun _ _ y => y) (fun _ _ y => y))⟩
              · rw [if_neg c7]
                simp only [go_sem, reduceIte, Nat.reduceEqDiff, Nat.reduceAdd, Nat.reduceLeDiff, Nat.reducePow, Nat.reduceDiv, Nat.reduceMod, decide_true, k45, k44, k13, k5, k11, decide_eq_false c7, Bool.not_false]
                exact ⟨hd6, fin hx6⟩
            · rw [if_neg c6]
              simp only [go_sem, reduceIte, Nat.reduceEqDiff, Nat.reduceAdd, Nat.reduceLeDiff, Nat.reducePow, Nat.reduceDiv, Nat.reduceMod, decide_true, k45, k44, k13, k5, k11, decide_eq_false c6, Bool.not_false]
              exact ⟨hd2, fin hx3⟩
          · have em : d1.mid (eff l) = (d1, 0) := by unfold Dk.mid; rw [if_neg (by omega)]
            rw [em, if_pos rfl]
            simp only [go_sem, reduceIte, Nat.reduceEqDiff, Nat.reduceAdd, Nat.reduceLeDiff, Nat.reducePow, Nat.reduceDiv, Nat.reduceMod, decide_true, k45, k44, k13, k5, k11, D0, D1, D2, D3, D4, decide_eq_false c5]
            rw [hclo]
            simp only [go_sem, reduceIte, Nat.reduceEqDiff, Nat.reduceAdd, Nat.reduceLeDiff, Nat.reducePow, Nat.reduceDiv, Nat.reduceMod, decide_true]
            refine tail d1 h' _ hdj hxj ?_
            rintro h6 _ hd6 hx6 rfl
            have D0 := stays _ _ _ hx6 (by omega) C0
            unfold box1 at D0
            unfold Dk.end'
            by_cases c7 : (d1.wr i e (eff l) 0).2 = 0
            · rw [if_pos c7]
              simp only [go_sem, reduceIte, Nat.reduceEqDiff, Nat.reduceAdd, Nat.reduceLeDiff, Nat.reducePow, Nat.reduceDiv, Nat.reduceMod, decide_true, k45, k44, k13, k5, k11, decide_eq_true c7, Bool.not_true, D0]
              refine wCall_use ⟨h4.1, h4.2 F h6 p _ hd6⟩ ?_
              rintro _ h7 ⟨rfl, hd7, hx7⟩
              simp only [go_sem, reduceIte, Nat.reduceEqDiff, Nat.reduceAdd, Nat.reduceLeDiff, Nat.reducePow, Nat.reduceDiv, Nat.reduceMod, decide_true]
              exact ⟨hd7, fin (hx6.trans hx7 (fun _ _ y => y) (fun _ _ y => y))⟩
            · rw [if_neg c7]
              simp only [go_sem, reduceIte, Nat.reduceEqDiff, Nat.reduceAdd, Nat.reduceLeDiff, Nat.reducePow, Nat.reduceDiv, Nat.reduceMod, decide_true, k45, k44, k13, k5, k11, decide_eq_false c7, Bool.not_false]
              exact ⟨hd6, fin hx6⟩
  · simp only [go_sem, reduceIte, Nat.reduceEqDiff, Nat.reduceAdd, Nat.reduceLeDiff, Nat.reducePow, Nat.reduceDiv, Nat.reduceMod, decide_true, decide_eq_false cm, Bool.not_false]
    rw [if_pos (.inl cm)]
    exact ⟨rfl, hd3, stay⟩

end Glb
