/-
  Numbers, bytes and lists as bytes.
-/
import Derived.Test.YtoijpkpfgamlpaaGlbKit3
import Derived.Test.YtoijpkpfgamlpaaGlbCpack
set_option linter.unusedSimpArgs false
set_option linter.unusedVariables false
namespace Glb
open Go
set_option maxRecDepth 10000
set_option maxHeartbeats 4000000

/-- a byte of a number, from above -/
def byteOf (v : Int) (k : Nat) : Int := IntKind.u8.wrap ((IntKind.u64.wrap v).fdiv (2 ^ (8 * (7 - k))))
/-- a number as bytes -/
def num (v : Int) : List Int := [byteOf v 0, byteOf v 1, byteOf v 2, byteOf v 3, byteOf v 4, byteOf v 5, byteOf v 6, byteOf v 7]

theorem num_length (v : Int) : (num v).length = 8 := rfl
theorem num_get (v : Int) (j : Nat) (hj : j < 8) : (num v)[j]? = some (byteOf v j) := by
  match j, hj with
  | 0, _ => rfl
  | 1, _ => rfl
  | 2, _ => rfl
  | 3, _ => rfl
  | 4, _ => rfl
  | 5, _ => rfl
  | 6, _ => rfl
  | 7, _ => rfl

theorem take_one_more {α : Type} {l : List α} {j : Nat} {x : α} (h : l[j]? = some x) : l.take (j + 1) = l.take j ++ [x] := by
  rw [List.take_add_one, h]; rfl

/-- bytes of one's own, with a number behind them -/
def NumberOk (P : Program) (f : FuncId) : Prop :=
  isFn P f = true ∧ ∀ (lo : Nat) (h : AHeap) (l : List Int) (b : AV) (v : Int), Own (dBytes l) (fun m => lo ≤ m) h b → canApp h b → lo ≤ h.length → l.length ≤ 2^45 →
    ACalls P f [b, .int .i64 v] h fun r h' => Own (dBytes (l ++ num v)) (fun m => lo ≤ m) h' r ∧ canApp h' r ∧ Ext (fun m => lo ≤ m) h h'

theorem shr_u64 (a b : Int) : abin .shr (.int .u64 a) (.int .i64 b) = ishift .shr .u64 a b := Eq.trans rfl rfl

theorem number_ok {P : Program} {f : FuncId} (hf : Is P f c_pack_number) : NumberOk P f := by
  refine ⟨hf.2, fun lo h l b v hb hc hlo hl => fun_sound hf.1 (Nat.le_of_ble_eq_true rfl) ?_⟩
  show vc P c_pack_number.code ⟨[(0, b), (1, .int .i64 v)], [], h⟩ (atEnd c_pack_number.res _)
  simp only [c_pack_number, go_sem, reduceIte, Nat.reduceEqDiff, Nat.reduceAdd, Nat.reduceLeDiff, Nat.reducePow, Nat.reduceDiv, Nat.reduceMod, decide_true]
  refine vc_loop (fun m L h' => ∃ (j : Nat) (o : AV), lk 0 L = o ∧ lk 1 L = .int .i64 v ∧ lk 5 L = .int .i64 (7 - (j : Int)) ∧ j ≤ 8 ∧ m = 8 - j ∧
    Own (dBytes (l ++ (num v).take j)) (fun m => lo ≤ m) h' o ∧ canApp h' o ∧ Ext (fun m => lo ≤ m) h h') 8 ?_ ?_
  · exact ⟨0, b, by simp [lk_ins, lk_cons], by simp [lk_ins, lk_cons], by simp [lk_ins], by omega, by omega, by simpa using hb, hc, Ext.refl _ _⟩
  · rintro m L h' ⟨j, o, h0, h1, h5, hj, rfl, ho, hc', he⟩
    simp only [c_pack_number_l0, go_sem, reduceIte, Nat.reduceEqDiff, Nat.reduceAdd, Nat.reduceLeDiff, Nat.reducePow, Nat.reduceDiv, Nat.reduceMod, decide_true, h0, h1, h5]
    refine wCond_split (fun ci => ?_) (fun ci => ?_)
    · simp at ci
      have e1 : IntKind.i64.wrap (8 * (7 - (j : Int))) = ((8 * (7 - j) : Nat) : Int) := by rw [wrap_i64 (by omega)]; omega
      have e2 : IntKind.i64.wrap (7 - (j : Int) - 1) = 7 - ((j + 1 : Nat) : Int) := by rw [wrap_i64 (by omega)]; omega
      have e3 : ishift .shr .u64 (IntKind.u64.wrap v) ((8 * (7 - j) : Nat) : Int) = some (.int .u64 ((IntKind.u64.wrap v).fdiv (2 ^ (8 * (7 - j))))) := by
        simp only [ishift]
        rw [if_neg (by omega), Int.toNat_natCast, Nat.min_eq_left (by simp [IntKind.bits]; omega)]
      have e4 : IntKind.u8.wrap ((IntKind.u64.wrap v).fdiv (2 ^ (8 * (7 - j)))) = byteOf v j := rfl
      have hln : (l ++ (num v).take j).length = l.length + j := by simp [num_length]; omega
      obtain ⟨o', h2, ha, ho', hc2, he'⟩ := own_app (bytes := 1) (es := [[.int .u8 (byteOf v j)]]) (h := h' ++ [some (.arr 1 [[.int .u8 (byteOf v j)]] false)]) ho hc' (Ext.app _ _ _) (ys := [[.int .u8 (byteOf v j)]])
        (by simp [OwnLL, OwnL, Own]) (Nat.le_trans hlo he.1) (by rw [List.length_map, hln]; simp; omega)
      simp only [go_sem, reduceIte, Nat.reduceEqDiff, Nat.reduceAdd, Nat.reduceLeDiff, Nat.reducePow, Nat.reduceDiv, Nat.reduceMod, decide_true, h0, h1, h5, e1, e2, shr_u64, e3, e4, aconv_int, aappend_of (aelems_new h' 1 [[.int .u8 (byteOf v j)]] false (some 1) (len := 1) rfl), ha]
      refine ⟨_, ?_, j + 1, o', rfl, rfl, by omega, rfl, ?_, hc2, ?_⟩
      · omega
      · rw [take_one_more (num_get v j (by omega)), ← List.append_assoc, dBytes, List.map_append]; exact ho'
      · exact (he.trans (Ext.app nof h' _) (fun _ _ x => x) (fun _ _ x => x.elim)).trans he' (fun _ _ x => x) (fun m hm hm' => hm')
    · simp at ci
      simp only [go_sem, reduceIte, Nat.reduceEqDiff, Nat.reduceAdd, Nat.reduceLeDiff, Nat.reducePow, Nat.reduceDiv, Nat.reduceMod, decide_true, h0]
      obtain rfl : j = 8 := by omega
      exact ⟨ho, hc', he⟩

/-- a new row of so many -/
def amks (h : AHeap) (sz bytes : Nat) (zero : List AV) : AV → AV → Option (AV × AHeap)
  | .int _ l, .int _ c => if 0 ≤ l ∧ l ≤ c ∧ c * bytes ≤ 2 ^ 46 then some (.ref h.length sz 0 l.toNat (some c.toNat), h ++ [some (.arr sz (List.replicate c.toNat zero) false)]) else none
  | _, _ => none
theorem hev_mks (g : Opd → AV) (h : AHeap) (sz bytes : Nat) (zero : List AV) (l c : Opd) : hev g h (.mks sz bytes zero l c) = amks h sz bytes zero (g l) (g c) := by
  simp only [hev, lightOf, amks]
  generalize g l = x
  generalize g c = y
  cases x <;> cases y <;> simp only
  rename_i k l k' c
  by_cases q : 0 ≤ l ∧ l ≤ c ∧ c * (bytes : Int) ≤ 2 ^ 46
  · rw [if_pos q, if_pos q]
  · rw [if_neg q, if_neg q]
theorem amks_int {h : AHeap} {sz bytes : Nat} {zero : List AV} {k k' : IntKind} {l c : Int} (h0 : 0 ≤ l) (h1 : l ≤ c) (h2 : c * bytes ≤ 2 ^ 46) :
    amks h sz bytes zero (.int k l) (.int k' c) = some (.ref h.length sz 0 l.toNat (some c.toNat), h ++ [some (.arr sz (List.replicate c.toNat zero) false)]) := by
  simp only [amks]; rw [if_pos ⟨h0, h1, h2⟩]

theorem own_empty {sz : Nat} (h : AHeap) (c : Nat) (zero : List AV) : Own (.sl sz []) (fun m => h.length ≤ m) (h ++ [some (.arr sz (List.replicate c zero) false)]) (.ref h.length sz 0 0 (some c)) ∧
    canApp (h ++ [some (.arr sz (List.replicate c zero) false)]) (.ref h.length sz 0 0 (some c)) := by
  constructor
  · simp only [Own]
    exact .inr (.inr ⟨h.length, 0, some c, List.replicate c zero, false, rfl, Nat.le_refl _, bx10 _ _, by simp, (fun d hd => by cases hd; simp), by simp [OwnLL]⟩)
  · exact ⟨_, false, bx10 _ _, (fun hc => by cases hc), (fun d hd => by cases hd; simp)⟩

theorem own_ints1 {n : IntKind} {F G : Nat → Prop} {h h' : AHeap} : ∀ {l : List Int} {ys : List (List AV)}, RdLL F h (l.map fun x => [.int n x]) ys → OwnLL (l.map fun x => [.int n x]) G h' ys := by
  intro l
  induction l with
  | nil => intro ys hh; simpa [RdLL, OwnLL] using hh
  | cons x l ih =>
    intro ys hh
    simp only [List.map_cons, RdLL] at hh
    obtain ⟨e, r, rfl, h1, h2⟩ := hh
    simp only [RdL, Rd] at h1
    obtain ⟨_, _, rfl, rfl, rfl⟩ := h1
    simp only [List.map_cons, OwnLL]
    exact ⟨_, _, rfl, ⟨_, _, rfl, by simp only [Own], rfl⟩, ih h2⟩

def RoomOk (P : Program) (f : FuncId) : Prop :=
  isFn P f = true ∧ ∀ (F : Nat → Prop) (h : AHeap) (l : List Int) (b : AV) (n : Int), Rd F h (dBytes l) b → l.length ≤ 2^42 → 0 ≤ n ∧ n ≤ 2^42 →
    ACalls P f [b, .int .i64 n] h fun r h' => Own (dBytes l) (fun m => h.length ≤ m) h' r ∧ canApp h' r ∧ Ext nof h h'

theorem room_ok {P : Program} {f : FuncId} (hf : Is P f c_pack_room) : RoomOk P f := by
  refine ⟨hf.2, fun F h l b n hb hl hn => fun_sound hf.1 (Nat.le_of_ble_eq_true rfl) ?_⟩
  show vc P c_pack_room.code ⟨[(0, b), (1, .int .i64 n)], [], h⟩ (atEnd c_pack_room.res _)
  have lb := hb.len
  simp only [List.length_map] at lb
  have e1 : IntKind.i64.wrap ((l.length : Int) + n) = (l.length : Int) + n := wrap_i64 (by omega)
  have hm := amks_int (h := h) (sz := 1) (bytes := 1) (zero := [.int .u8 0]) (k := .i64) (k' := .i64) (l := 0) (c := (l.length : Int) + n) (Int.le_refl 0) (by omega) (by omega)
  have oe := own_empty (sz := 1) h ((l.length : Int) + n).toNat [.int .u8 0]
  obtain ⟨ys, hys, hyr⟩ := (hb.up (Ext.b1 (some (.arr 1 (List.replicate ((l.length : Int) + n).toNat [.int .u8 0]) false)))).elems
  obtain ⟨r, h2, ha, hr, hc, he⟩ := own_app (bytes := 1) oe.1 oe.2 (Ext.refl nof _) (own_ints1 hyr) (by simp) (by simp; omega)
  have ha' := aappend_of hys 1 (.ref h.length 1 0 0 (some ((l.length : Int) + n).toNat))
  rw [ha] at ha'
  simp only [c_pack_room, go_sem, reduceIte, Nat.reduceEqDiff, Nat.reduceAdd, Nat.reduceLeDiff, Nat.reducePow, Nat.reduceDiv, Nat.reduceMod, decide_true, lb, e1, hev_mks, hm, Int.toNat_zero, ha']
  exact ⟨hr, hc, (Ext.b1 _).then he (fun m hm hm' => by omega)⟩

/-- bytes behind others, with their length -/
def BlobOk (P : Program) (f : FuncId) : Prop :=
  isFn P f = true ∧ ∀ (F : Nat → Prop) (h : AHeap) (l p : List Int) (b a : AV), Rd F h (dBytes l) b → Rd F h (dBytes p) a → l.length ≤ 2^41 → p.length ≤ 2^41 →
    ACalls P f [b, a] h fun r h' => Own (dBytes (l ++ num p.length ++ p)) (fun m => h.length ≤ m) h' r ∧ canApp h' r ∧ Ext nof h h'

theorem pack_Blob_ok {P : Program} {f fr fn : FuncId} (hf : Is P f (c_pack_Blob fr fn)) (hr : RoomOk P fr) (hn : NumberOk P fn) : BlobOk P f := by
  refine ⟨hf.2, fun F h l p b a hb ha hl hp => fun_sound hf.1 (Nat.le_of_ble_eq_true rfl) ?_⟩
  show vc P (c_pack_Blob fr fn).code ⟨[(0, b), (1, a)], [], h⟩ (atEnd (c_pack_Blob fr fn).res _)
  have la := ha.len
  simp only [List.length_map] at la
  have e1 : IntKind.i64.wrap (8 + (p.length : Int)) = 8 + (p.length : Int) := wrap_i64 (by omega)
  simp only [c_pack_Blob, go_sem, reduceIte, Nat.reduceEqDiff, Nat.reduceAdd, Nat.reduceLeDiff, Nat.reducePow, Nat.reduceDiv, Nat.reduceMod, decide_true, la, e1]
  refine wCall_use ⟨hr.1, hr.2 F _ l _ _ hb (by omega) (by omega)⟩ ?_
  rintro r h1 ⟨ro, rc, x1⟩
  simp only [go_sem, reduceIte, Nat.reduceEqDiff, Nat.reduceAdd, Nat.reduceLeDiff, Nat.reducePow, Nat.reduceDiv, Nat.reduceMod, decide_true, la]
  refine wCall_use ⟨hn.1, hn.2 h.length _ l _ _ ro rc x1.1 (by omega)⟩ ?_
  rintro s h2 ⟨so, sc, x2⟩
  have x12 := x1.then x2 (fun m hm hm' => by omega)
  obtain ⟨ys, hys, hyr⟩ := (ha.up x12).elems
  obtain ⟨t, h3, ht, to, tc, x3⟩ := own_app (bytes := 1) so sc (Ext.refl nof _) (own_ints1 hyr) x12.1 (by simp [num_length]; omega)
  have ha' := aappend_of hys 1 s
  rw [ht] at ha'
  simp only [go_sem, reduceIte, Nat.reduceEqDiff, Nat.reduceAdd, Nat.reduceLeDiff, Nat.reducePow, Nat.reduceDiv, Nat.reduceMod, decide_true, ha']
  refine ⟨?_, tc, x12.then x3 (fun m hm hm' => by omega)⟩
  rw [dBytes, List.map_append]; exact to

/-- numbers as bytes -/
def nums : List Int → List Int
  | [] => []
  | x :: r => num x ++ nums r
theorem nums_app : ∀ (a b : List Int), nums (a ++ b) = nums a ++ nums b
  | [], b => rfl
  | x :: r, b => by simp only [List.cons_append, nums, nums_app r b, List.append_assoc]
theorem nums_length : ∀ (a : List Int), (nums a).length = 8 * a.length
  | [] => rfl
  | x :: r => by simp only [nums, List.length_append, num_length, nums_length r, List.length_cons]; omega

def IntsOk (P : Program) (f : FuncId) : Prop :=
  isFn P f = true ∧ ∀ (F : Nat → Prop) (h : AHeap) (l p : List Int) (b a : AV), Rd F h (dBytes l) b → Rd F h (dInts p) a → l.length ≤ 2^38 → p.length ≤ 2^38 →
    ACalls P f [b, a] h fun r h' => Own (dBytes (l ++ num p.length ++ nums p)) (fun m => h.length ≤ m) h' r ∧ canApp h' r ∧ Ext nof h h'

theorem pack_Ints_ok {P : Program} {f fr fn : FuncId} (hf : Is P f (c_pack_Ints fr fn)) (hr : RoomOk P fr) (hn : NumberOk P fn) : IntsOk P f := by
  refine ⟨hf.2, fun F h l p b a hb ha hl hp => fun_sound hf.1 (Nat.le_of_ble_eq_true rfl) ?_⟩
  show vc P (c_pack_Ints fr fn).code ⟨[(0, b), (1, a)], [], h⟩ (atEnd (c_pack_Ints fr fn).res _)
  have la := ha.len
  simp only [List.length_map] at la
  have e0 : IntKind.i64.wrap (8 * (p.length : Int)) = 8 * (p.length : Int) := wrap_i64 (by omega)
  have e1 : IntKind.i64.wrap (8 + 8 * (p.length : Int)) = 8 + 8 * (p.length : Int) := wrap_i64 (by omega)
  simp only [c_pack_Ints, go_sem, reduceIte, Nat.reduceEqDiff, Nat.reduceAdd, Nat.reduceLeDiff, Nat.reducePow, Nat.reduceDiv, Nat.reduceMod, decide_true, la, e0, e1]
  refine wCall_use ⟨hr.1, hr.2 F _ l _ _ hb (by omega) (by omega)⟩ ?_
  rintro r h1 ⟨ro, rc, x1⟩
  simp only [go_sem, reduceIte, Nat.reduceEqDiff, Nat.reduceAdd, Nat.reduceLeDiff, Nat.reducePow, Nat.reduceDiv, Nat.reduceMod, decide_true, la]
  refine wCall_use ⟨hn.1, hn.2 h.length _ l _ _ ro rc x1.1 (by omega)⟩ ?_
  rintro s h2 ⟨so, sc, x2⟩
  have x12 := x1.then x2 (fun m hm hm' => by omega)
  simp only [go_sem, reduceIte, Nat.reduceEqDiff, Nat.reduceAdd, Nat.reduceLeDiff, Nat.reducePow, Nat.reduceDiv, Nat.reduceMod, decide_true, la]
  refine vc_loop (fun m L h' => ∃ (i : Nat) (o : AV), lk 17 L = a ∧ lk 18 L = .int .i64 p.length ∧ lk 5 L = o ∧ lk 19 L = .int .i64 i ∧ i ≤ p.length ∧ m = p.length - i ∧
    Own (dBytes (l ++ num p.length ++ nums (p.take i))) (fun m => h.length ≤ m) h' o ∧ canApp h' o ∧ Ext nof h h') p.length ?_ ?_
  · exact ⟨0, s, by simp [lk_ins, lk_cons], by simp [lk_ins, lk_cons], by simp [lk_ins, lk_cons], by simp [lk_ins], by omega, by omega, by simpa [nums] using so, sc, x12⟩
  · rintro m L h' ⟨i, o, h17, h18, h5, h19, hi, rfl, ho, hc, he⟩
    simp only [c_pack_Ints_l0, go_sem, reduceIte, Nat.reduceEqDiff, Nat.reduceAdd, Nat.reduceLeDiff, Nat.reducePow, Nat.reduceDiv, Nat.reduceMod, decide_true, h17, h18, h5, h19]
    refine wCond_split (fun ci => ?_) (fun ci => ?_)
    · simp at ci
      obtain ⟨q, cs, hq, hqc, hcs⟩ := (ha.up he).index .i64 (i := i) (d := [.int .i64 p[i]]) (by omega) (by simp [ci])
      simp only [RdL, Rd] at hcs
      obtain ⟨_, _, rfl, rfl, rfl⟩ := hcs
      have e2 : IntKind.i64.wrap ((i : Int) + 1) = (i : Int) + 1 := wrap_i64 (by omega)
      simp only [go_sem, reduceIte, Nat.reduceEqDiff, Nat.reduceAdd, Nat.reduceLeDiff, Nat.reducePow, Nat.reduceDiv, Nat.reduceMod, decide_true, h17, h18, h5, h19, hq, aload_p hqc]
      refine wCall_use ⟨hn.1, hn.2 h.length _ (l ++ num p.length ++ nums (p.take i)) _ p[i] ho hc he.1 (by simp [num_length, nums_length]; omega)⟩ ?_
      rintro u h3 ⟨uo, uc, x3⟩
      simp only [go_sem, reduceIte, Nat.reduceEqDiff, Nat.reduceAdd, Nat.reduceLeDiff, Nat.reducePow, Nat.reduceDiv, Nat.reduceMod, decide_true, h17, h18, h5, h19, e2]
      refine ⟨_, ?_, i + 1, u, rfl, rfl, ci, rfl, ?_, uc, he.then x3 (fun m hm hm' => by omega)⟩
      · omega
      · rw [take_one_more (x := p[i]) (by simp [ci]), nums_app]; simpa [nums] using uo
    · simp at ci
      simp only [go_sem, reduceIte, Nat.reduceEqDiff, Nat.reduceAdd, Nat.reduceLeDiff, Nat.reducePow, Nat.reduceDiv, Nat.reduceMod, decide_true, h5]
      obtain rfl : i = p.length := by omega
      rw [List.take_length] at ho
      exact ⟨ho, hc, he⟩

end Glb
