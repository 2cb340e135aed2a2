/-
  A library of its own: its parts, one behind the other.
-/
import Derived.Test.YtgjgniadldlmiaaGlbLibD
import Derived.Test.YtgjgniadldlmiaaGlbKitA
import Derived.Test.YtgjgniadldlmiaaGlbCpack
import Derived.Test.YtgjgniadldlmiaaGlbLibE
set_option linter.unusedSimpArgs false
set_option linter.unusedVariables false
/-
  A list of one's own that is appended to, whatever else is one's own.
-/
namespace Glb
open Go

end Glb

/-
  Numbers, bytes and lists as bytes.
-/
namespace Glb
open Go
set_option maxRecDepth 10000
set_option maxHeartbeats 4000000

/-- a byte of a number, from above -/
def byteOf (v : Int) (k : Nat) : Int := IntKind.u8.wrap ((IntKind.u64.wrap v).fdiv (2 ^ (8 * (7 - k))))
/-- a number as bytes -/
def num (v : Int) : List Int := [byteOf v 0, byteOf v 1, byteOf v 2, byteOf v 3, byteOf v 4, byteOf v 5, byteOf v 6, byteOf v 7]

theorem num_length (v : Int) : (num v).length = 8 := rfl
theorem num_get (v : Int) (j : Nat) (hj : j < 8) : (num v)[j]? = some (byteOf v j) := by
  match j, hj with
  | 0, _ => rfl
  | 1, _ => rfl
  | 2, _ => rfl
  | 3, _ => rfl
  | 4, _ => rfl
  | 5, _ => rfl
  | 6, _ => rfl
  | 7, _ => rfl

theorem take_one_more {α : Type} {l : List α} {j : Nat} {x : α} (h : l[j]? = some x) : l.take (j + 1) = l.take j ++ [x] := by
  rw [List.take_add_one, h]; rfl

/-- bytes of one's own, with a number behind them -/
def NumberOk (P : Program) (f : FuncId) : Prop :=
  isFn P f = true ∧ ∀ (lo : Nat) (h : AHeap) (l : List Int) (b : AV) (v : Int), Own (dBytes l) (fun m => lo ≤ m) h b → canApp h b → lo ≤ h.length → l.length ≤ 2^45 →
    ACalls P f [b, .int .i64 v] h fun r h' => Own (dBytes (l ++ num v)) (fun m => lo ≤ m) h' r ∧ canApp h' r ∧ Ext (fun m => lo ≤ m) h h'

theorem shr_u64 (a b : Int) : abin .shr (.int .u64 a) (.int .i64 b) = ishift .shr .u64 a b := Eq.trans rfl rfl

theorem number_ok {P : Program} {f : FuncId} (hf : Is P f c_pack_number) : NumberOk P f := by
  refine ⟨hf.2, fun lo h l b v hb hc hlo hl => fun_sound hf.1 (Nat.le_of_ble_eq_true rfl) ?_⟩
  show vc P c_pack_number.code ⟨[(0, b), (1, .int .i64 v)], [], h⟩ (atEnd c_pack_number.res _)
  simp only [c_pack_number, go_sem, reduceIte, Nat.reduceEqDiff, Nat.reduceAdd, Nat.reduceLeDiff, Nat.reducePow, Nat.reduceDiv, Nat.reduceMod, decide_true]
  refine vc_loop (fun m L h' => ∃ (j : Nat) (o : AV), lk 0 L = o ∧ lk 1 L = .int .i64 v ∧ lk 5 L = .int .i64 (7 - (j : Int)) ∧ j ≤ 8 ∧ m = 8 - j ∧
    Own (dBytes (l ++ (num v).take j)) (fun m => lo ≤ m) h' o ∧ canApp h' o ∧ Ext (fun m => lo ≤ m) h h') 8 ?_ ?_
  · exact ⟨0, b, by simp [lk_ins, lk_cons], by simp [lk_ins, lk_cons], by simp [lk_ins], by omega, by omega, by simpa using hb, hc, Ext.refl _ _⟩
  · rintro m L h' ⟨j, o, h0, h1, h5, hj, rfl, ho, hc', he⟩
    simp only [c_pack_number_l0, go_sem, reduceIte, Nat.reduceEqDiff, Nat.reduceAdd, Nat.reduceLeDiff, Nat.reducePow, Nat.reduceDiv, Nat.reduceMod, decide_true, h0, h1, h5]
    refine wCond_split (fun ci => ?_) (fun ci => ?_)
    · simp at ci
      have e1 : IntKind.i64.wrap (8 * (7 - (j : Int))) = ((8 * (7 - j) : Nat) : Int) := by rw [wrap_i64 (by omega)]; omega
      have e2 : IntKind.i64.wrap (7 - (j : Int) - 1) = 7 - ((j + 1 : Nat) : Int) := by rw [wrap_i64 (by omega)]; omega
      have e3 : ishift .shr .u64 (IntKind.u64.wrap v) ((8 * (7 - j) : Nat) : Int) = some (.int .u64 ((IntKind.u64.wrap v).fdiv (2 ^ (8 * (7 - j))))) := by
        simp only [ishift]
        rw [if_neg (by omega), Int.toNat_natCast, Nat.min_eq_left (by simp [IntKind.bits]; omega)]
      have e4 : IntKind.u8.wrap ((IntKind.u64.wrap v).fdiv (2 ^ (8 * (7 - j)))) = byteOf v j := rfl
      have hln : (l ++ (num v).take j).length = l.length + j := by simp [num_length]; omega
      obtain ⟨o', h2, ha, ho', hc2, he'⟩ := own_app (bytes := 1) (es := [[.int .u8 (byteOf v j)]]) (h := h' ++ [some (.arr 1 [[.int .u8 (byteOf v j)]] false)]) ho hc' (Ext.app _ _ _) (ys := [[.int .u8 (byteOf v j)]])
        (by simp [OwnLL, OwnL, Own]) (Nat.le_trans hlo he.1) (by rw [List.length_map, hln]; simp; omega)
      simp only [go_sem, reduceIte, Nat.reduceEqDiff, Nat.reduceAdd, Nat.reduceLeDiff, Nat.reducePow, Nat.reduceDiv, Nat.reduceMod, decide_true, h0, h1, h5, e1, e2, shr_u64, e3, e4, aconv_int, aappend_of (aelems_new h' 1 [[.int .u8 (byteOf v j)]] false (some 1) (len := 1) rfl), ha]
      refine ⟨_, ?_, j + 1, o', rfl, rfl, by omega, rfl, ?_, hc2, ?_⟩
      · omega
      · rw [take_one_more (num_get v j (by omega)), ← List.append_assoc, dBytes, List.map_append]; exact ho'
      · exact (he.trans (Ext.app nof h' _) (fun _ _ x => x) (fun _ _ x => x.elim)).trans he' (fun _ _ x => x) (fun m hm hm' => hm')
    · simp at ci
      simp only [go_sem, reduceIte, Nat.reduceEqDiff, Nat.reduceAdd, Nat.reduceLeDiff, Nat.reducePow, Nat.reduceDiv, Nat.reduceMod, decide_true, h0]
      obtain rfl : j = 8 := by omega
      exact ⟨ho, hc', he⟩

/-- a new row of so many -/
def amks (h : AHeap) (sz bytes : Nat) (zero : List AV) : AV → AV → Option (AV × AHeap)
  | .int _ l, .int _ c => if 0 ≤ l ∧ l ≤ c ∧ c * bytes ≤ 2 ^ 46 then some (.ref h.length sz 0 l.toNat (some c.toNat), h ++ [some (.arr sz (List.replicate c.toNat zero) false)]) else none
  | _, _ => none
theorem hev_mks (g : Opd → AV) (h : AHeap) (sz bytes : Nat) (zero : List AV) (l c : Opd) : hev g h (.mks sz bytes zero l c) = amks h sz bytes zero (g l) (g c) := by
  simp only [hev, lightOf, amks]
  generalize g l = x
  generalize g c = y
  cases x <;> cases y <;> simp only
  rename_i k l k' c
  by_cases q : 0 ≤ l ∧ l ≤ c ∧ c * (bytes : Int) ≤ 2 ^ 46
  · rw [if_pos q, if_pos q]
  · rw [if_neg q, if_neg q]
theorem amks_int {h : AHeap} {sz bytes : Nat} {zero : List AV} {k k' : IntKind} {l c : Int} (h0 : 0 ≤ l) (h1 : l ≤ c) (h2 : c * bytes ≤ 2 ^ 46) :
    amks h sz bytes zero (.int k l) (.int k' c) = some (.ref h.length sz 0 l.toNat (some c.toNat), h ++ [some (.arr sz (List.replicate c.toNat zero) false)]) := by
  simp only [amks]; rw [if_pos ⟨h0, h1, h2⟩]

theorem own_empty {sz : Nat} (h : AHeap) (c : Nat) (zero : List AV) : Own (.sl sz []) (fun m => h.length ≤ m) (h ++ [some (.arr sz (List.replicate c zero) false)]) (.ref h.length sz 0 0 (some c)) ∧
    canApp (h ++ [some (.arr sz (List.replicate c zero) false)]) (.ref h.length sz 0 0 (some c)) := by
  constructor
  · simp only [Own]
    exact .inr (.inr ⟨h.length, 0, some c, List.replicate c zero, false, rfl, Nat.le_refl _, bx10 _ _, by simp, (fun d hd => by cases hd; simp), by simp [OwnLL]⟩)
  · exact ⟨_, false, bx10 _ _, (fun hc => by cases hc), (fun d hd => by cases hd; simp)⟩

theorem own_ints1 {n : IntKind} {F G : Nat → Prop} {h h' : AHeap} : ∀ {l : List Int} {ys : List (List AV)}, RdLL F h (l.map fun x => [.int n x]) ys → OwnLL (l.map fun x => [.int n x]) G h' ys := by
  intro l
  induction l with
  | nil => intro ys hh; simpa [RdLL, OwnLL] using hh
  | cons x l ih =>
    intro ys hh
    simp only [List.map_cons, RdLL] at hh
    obtain ⟨e, r, rfl, h1, h2⟩ := hh
    simp only [RdL, Rd] at h1
    obtain ⟨_, _, rfl, rfl, rfl⟩ := h1
    simp only [List.map_cons, OwnLL]
    exact ⟨_, _, rfl, ⟨_, _, rfl, by simp only [Own], rfl⟩, ih h2⟩

def RoomOk (P : Program) (f : FuncId) : Prop :=
  isFn P f = true ∧ ∀ (F : Nat → Prop) (h : AHeap) (l : List Int) (b : AV) (n : Int), Rd F h (dBytes l) b → l.length ≤ 2^42 → 0 ≤ n ∧ n ≤ 2^42 →
    ACalls P f [b, .int .i64 n] h fun r h' => Own (dBytes l) (fun m => h.length ≤ m) h' r ∧ canApp h' r ∧ Ext nof h h'

theorem room_ok {P : Program} {f : FuncId} (hf : Is P f c_pack_room) : RoomOk P f := by
  refine ⟨hf.2, fun F h l b n hb hl hn => fun_sound hf.1 (Nat.le_of_ble_eq_true rfl) ?_⟩
  show vc P c_pack_room.code ⟨[(0, b), (1, .int .i64 n)], [], h⟩ (atEnd c_pack_room.res _)
  have lb := hb.len
  simp only [List.length_map] at lb
  have e1 : IntKind.i64.wrap ((l.length : Int) + n) = (l.length : Int) + n := wrap_i64 (by omega)
  have hm := amks_int (h := h) (sz := 1) (bytes := 1) (zero := [.int .u8 0]) (k := .i64) (k' := .i64) (l := 0) (c := (l.length : Int) + n) (Int.le_refl 0) (by omega) (by omega)
  have oe := own_empty (sz := 1) h ((l.length : Int) + n).toNat [.int .u8 0]
  obtain ⟨ys, hys, hyr⟩ := (hb.up (Ext.b1 (some (.arr 1 (List.replicate ((l.length : Int) + n).toNat [.int .u8 0]) false)))).elems
  obtain ⟨r, h2, ha, hr, hc, he⟩ := own_app (bytes := 1) oe.1 oe.2 (Ext.refl nof _) (own_ints1 hyr) (by simp) (by simp; omega)
  have ha' := aappend_of hys 1 (.ref h.length 1 0 0 (some ((l.length : Int) + n).toNat))
  rw [ha] at ha'
  simp only [c_pack_room, go_sem, reduceIte, Nat.reduceEqDiff, Nat.reduceAdd, Nat.reduceLeDiff, Nat.reducePow, Nat.reduceDiv, Nat.reduceMod, decide_true, lb, e1, hev_mks, hm, Int.toNat_zero, ha']
  exact ⟨hr, hc, (Ext.b1 _).then he (fun m hm hm' => by omega)⟩

end Glb

/-
  Numbers, bytes and lists as bytes: the document's answer.
-/
namespace Glb
open Go
set_option maxRecDepth 10000
set_option maxHeartbeats 4000000

theorem wrap_u8 (x : Int) : IntKind.u8.wrap x = x % 256 := by
  simp [IntKind.wrap, IntKind.bits, IntKind.signed]
theorem wrap_u64 (x : Int) : IntKind.u64.wrap x = x % 18446744073709551616 := by
  simp [IntKind.wrap, IntKind.bits, IntKind.signed]

/-- from below -/
theorem byteOf_low (v : Int) (k : Nat) (hk : k ≤ 7) : byteOf v (7 - k) = (IntKind.u64.wrap v / 256 ^ k) % 256 := by
  rw [byteOf, wrap_u8, Int.fdiv_eq_ediv_of_nonneg _ (Int.le_of_lt (Int.pow_pos (by decide))), show 7 - (7 - k) = k by omega, Int.pow_mul]
  rfl

/-- bytes with a number behind them, in new memory -/
def IntOk (P : Program) (f : FuncId) : Prop :=
  isFn P f = true ∧ ∀ (F : Nat → Prop) (h : AHeap) (l : List Int) (b : AV) (v : Int), Rd F h (dBytes l) b → l.length ≤ 2^42 →
    ACalls P f [b, .int .i64 v] h fun r h' => Own (dBytes (l ++ num v)) (fun m => h.length ≤ m) h' r ∧ canApp h' r ∧ Ext nof h h'

structure Conf where
  old : List Int
  new : List Int
  learners : List Int
  deriving DecidableEq

end Glb

/-
  Members, and what a member of a group must not forget: big, copied.
-/
namespace Glb
open Go
set_option maxRecDepth 10000
set_option maxHeartbeats 4000000

structure Hard where
  group : Int
  term : Int
  vote : Int
  log : Log
  conf : Conf
  snap : List Int
  deriving DecidableEq

def Hard.c (x : Hard) : List D := [.int .i64 x.group, .int .i64 x.term, .int .i64 x.vote, .int .i64 x.log.base, .int .i64 x.log.bterm, dEntries x.log.es, dInts x.conf.old, dInts x.conf.new, dInts x.conf.learners, dBytes x.snap]
end Glb

/-
  Calls whose answers are plain data: bytes, numbers, entries, logs, members, what a member must not forget, messages.
-/
namespace Glb
open Go
set_option maxRecDepth 10000
set_option maxHeartbeats 4000000

def abytes (l : List Int) : AV := (dBytes l).av
def aints (l : List Int) : AV := (dInts l).av
def aentries (l : List Entry) : AV := (dEntries l).av

theorem scalar_abytes (l : List Int) : (abytes l).scalar = true := av_scalar _
theorem scalar_aints (l : List Int) : (aints l).scalar = true := av_scalar _
theorem scalar_aentries (l : List Entry) : (aentries l).scalar = true := av_scalar _
theorem cells_abytes (l : List Int) : (abytes l).cells? = some [abytes l] := cells_of (av_scalar _)
theorem cells_aints (l : List Int) : (aints l).cells? = some [aints l] := cells_of (av_scalar _)
theorem cells_aentries (l : List Entry) : (aentries l).cells? = some [aentries l] := cells_of (av_scalar _)
theorem rd_abytes (F : Nat → Prop) (h : AHeap) (l : List Int) : Rd F h (dBytes l) (abytes l) := rd_av _ _ _
theorem rd_aints (F : Nat → Prop) (h : AHeap) (l : List Int) : Rd F h (dInts l) (aints l) := rd_av _ _ _
theorem rd_aentries (F : Nat → Prop) (h : AHeap) (l : List Entry) : Rd F h (dEntries l) (aentries l) := rd_av _ _ _
theorem len_abytes (l : List Int) : alen (abytes l) = some (.int .i64 l.length) := by simpa using (rd_abytes nof [] l).len
theorem len_aints (l : List Int) : alen (aints l) = some (.int .i64 l.length) := by simpa using (rd_aints nof [] l).len
theorem len_aentries (l : List Entry) : alen (aentries l) = some (.int .i64 l.length) := by simpa using (rd_aentries nof [] l).len
theorem abytes_eq (l : List Int) : abytes l = .vals 0 false 1 (l.map fun n => [.int .u8 n]) := by
  simp only [abytes, dBytes, D.av, avLL_map, List.map_map]
  congr 1
attribute [go_sem] scalar_abytes scalar_aints scalar_aentries cells_abytes cells_aints cells_aentries len_abytes len_aints len_aentries

theorem use1 {P : Program} {f : FuncId} {avs : List AV} {r : AV} {h : AHeap} {K : AV → AHeap → Prop} (hi : isFn P f = true) (hc : ACalls P f avs h fun r' h' => r' = r ∧ h' = h) (hk : K r h) : wCall P f avs h K :=
  wCall_use ⟨hi, hc⟩ fun _ _ ⟨e1, e2⟩ => by subst e1; subst e2; exact hk

end Glb

/-
  Members, what a member must not forget, messages: held against one another; messages written over.
-/
namespace Glb
open Go
set_option maxRecDepth 10000
set_option maxHeartbeats 4000000

end Glb
