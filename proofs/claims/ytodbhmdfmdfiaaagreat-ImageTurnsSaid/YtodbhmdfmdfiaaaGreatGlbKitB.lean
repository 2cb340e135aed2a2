/-
  A library of its own: its parts, one behind the other.
-/
import Derived.Test.YtodbhmdfmdfiaaaGreatGlbLibD
import Derived.Test.YtodbhmdfmdfiaaaGreatGlbKitA
import Derived.Test.YtodbhmdfmdfiaaaGreatGlbCpack
import Derived.Test.YtodbhmdfmdfiaaaGreatGlbLibE
set_option linter.unusedSimpArgs false
set_option linter.unusedVariables false
/-
  A list of one's own that is appended to, whatever else is one's own.
-/
namespace Glb
open Go

theorem own_appF {sz bytes : Nat} {F : Nat → Prop} {ds es : List (List D)} {h0 h : AHeap} {av : AV} {ys : List (List AV)} (ho : Own (.sl sz ds) F h0 av) (hc : canApp h0 av)
    (hx : Ext nof h0 h) (hy : OwnLL es (fun m => h0.length ≤ m) h ys) (hF : ∀ m, h0.length ≤ m → F m) (hb : (ds.length + es.length) * bytes ≤ 2 ^ 46) :
    ∃ av' h', aappendY h sz bytes av ys = some (av', h') ∧ Own (.sl sz (ds ++ es)) F h' av' ∧ canApp h' av' ∧ Ext F h h' := by
  have hyl := OwnLL_length hy
  have fresh : ∀ (hh : AHeap) (dd : List (List D)) (es' : List (List AV)), F hh.length → OwnLL dd F hh es' →
      Own (.sl sz dd) F (append1 hh sz es').2 (append1 hh sz es').1 ∧ canApp (append1 hh sz es').2 (append1 hh sz es').1 := by
    intro hh dd es' hl hd
    have hlen := OwnLL_length hd
    refine ⟨?_, ⟨es', true, by simp [append1], (fun _ => rfl), (fun c hc => by cases hc)⟩⟩
    simp only [Own, append1]
    refine .inr (.inr ⟨hh.length, 0, none, es', true, by rw [hlen], hl, by simp, by omega, (fun c hc => by cases hc), ?_⟩)
    have : (es'.drop 0).take dd.length = es' := by rw [List.drop_zero, List.take_of_length_le (by omega)]
    rw [this]
    refine OwnLL.mono dd (fun m hm => ⟨hm.1, by have := hm.2; omega⟩) ?_ _ (OwnLL.lt dd _ hd)
    intro m hm x hx
    rw [List.getElem?_append_left hm.2]; exact hx
  simp only [Own] at ho
  rcases ho with ⟨rfl, rfl⟩ | ⟨t, c, rfl, rfl⟩ | ⟨n, off, cap, row, g, rfl, hn, hrow, hle, hcl, hd⟩
  · -- nothing yet
    have hy' : OwnLL es F h ys := OwnLL.mono es (fun m hm => hF _ hm) (fun _ _ _ x => x) _ hy
    obtain ⟨a, b⟩ := fresh h es ys (hF _ hx.1) hy'
    refine ⟨_, _, ?_, by simpa using a, b, ?_⟩
    · simp only [aappendY]; rw [if_pos (by rw [hyl]; simpa using hb)]
    · exact Ext.app _ _ _
  · have hc1 : c = true := hc
    subst hc1
    have hy' : OwnLL es F h ys := OwnLL.mono es (fun m hm => hF _ hm) (fun _ _ _ x => x) _ hy
    simp only [aappendY]
    rw [if_pos ⟨trivial, by rw [hyl]; simpa using hb⟩]
    by_cases hy0 : ys.length = 0
    · rw [if_pos hy0]
      have hes : es = [] := List.eq_nil_of_length_eq_zero (by omega)
      subst hes
      refine ⟨_, _, rfl, ?_, rfl, Ext.refl _ _⟩
      simp only [Own]
      exact .inr (.inl ⟨t, true, rfl, rfl⟩)
    · rw [if_neg hy0, if_pos trivial]
      obtain ⟨a, b⟩ := fresh h es ys (hF _ hx.1) hy'
      exact ⟨_, _, rfl, by simpa [append1] using a, b, Ext.app _ _ _⟩
  · obtain ⟨row', g', hrow', hcn, hcs⟩ := hc
    rw [hrow] at hrow'
    obtain ⟨rfl, rfl⟩ : row = row' ∧ g = g' := by simpa using hrow'
    have hnlt := (List.getElem?_eq_some_iff.1 hrow).1
    have hrow1 : h[n]? = some (some (.arr sz row g)) := hx.get hrow
    have hnlt1 := (List.getElem?_eq_some_iff.1 hrow1).1
    have hd1 : OwnLL ds (fun m => F m ∧ m ≠ n) h ((row.drop off).take ds.length) := OwnLL.mono ds (fun m hm => hm) (hx.keep _) _ hd
    have hy1 : OwnLL es (fun m => F m ∧ m ≠ n) h ys := OwnLL.mono es (fun m hm => ⟨hF _ hm, by omega⟩) (fun _ _ _ x => x) _ hy
    have both : OwnLL (ds ++ es) F h ((row.drop off).take ds.length ++ ys) := OwnLL.mono _ (fun m hm => hm.1) (fun _ _ _ x => x) _ (OwnLL_app hd1 hy1)
    simp only [aappendY, hrow1]
    rw [if_pos ⟨trivial, trivial, hle, by rw [hyl]; exact hb⟩]
    cases cap with
    | none =>
      obtain rfl := hcn rfl
      simp only [if_true]
      have both' : OwnLL (ds ++ es) F (h.set n none) (row.take ds.length ++ ys) := by
        have := OwnLL_app hd1 hy1
        rw [List.drop_zero] at this
        exact OwnLL.mono _ (fun m hm => hm.1) (fun m hm x hx => by rw [List.getElem?_set_ne (fun e => hm.2 e.symm)]; exact hx) _ this
      obtain ⟨a, b⟩ := fresh (h.set n none) (ds ++ es) (row.take ds.length ++ ys) (by rw [List.length_set]; exact hF _ hx.1) both'
      exact ⟨_, _, rfl, a, b, (Ext.set none (fun _ => hn)).trans (Ext.app F _ _) (fun _ _ x => x) (fun _ _ x => x)⟩
    | some c =>
      have hc1 := hcl c rfl
      have hc2 := hcs c rfl
      cases c with
      | zero =>
        have h0 : ds.length = 0 := by omega
        have hds : ds = [] := List.eq_nil_of_length_eq_zero h0
        subst hds
        simp only [List.length_nil, if_true]
        by_cases hy0 : ys.length = 0
        · rw [if_pos hy0]
          have hes : es = [] := List.eq_nil_of_length_eq_zero (by omega)
          subst hes
          refine ⟨_, _, rfl, ?_, ⟨row, g, hrow1, (fun e => by cases e), (fun c hc => by cases hc; omega)⟩, Ext.refl _ _⟩
          simp only [Own]
          exact .inr (.inr ⟨n, off, some 0, row, g, rfl, hn, hrow1, by simpa using hle, (fun c hc => by cases hc; simp), by simp [OwnLL]⟩)
        · rw [if_neg hy0]
          have hy2 : OwnLL es F h ys := OwnLL.mono es (fun m hm => hm.1) (fun _ _ _ x => x) _ hy1
          obtain ⟨a, b⟩ := fresh h es ys (hF _ hx.1) hy2
          exact ⟨_, _, rfl, by simpa [append1] using a, b, Ext.app _ _ _⟩
      | succ c =>
        simp only
        by_cases hcap : c + 1 < ds.length + ys.length
        · rw [if_pos hcap]
          obtain ⟨a, b⟩ := fresh h (ds ++ es) _ (hF _ hx.1) both
          exact ⟨_, _, rfl, a, b, Ext.app _ _ _⟩
        · rw [if_neg hcap, if_pos (by omega)]
          have hsl : (splice row (off + ds.length) ys).length = row.length := by simp [splice]; omega
          refine ⟨_, _, rfl, ?_, ⟨_, g, by rw [List.getElem?_set_self hnlt1], (fun e => by cases e), (fun c' hc' => by cases hc'; rw [hsl]; exact hc2)⟩, Ext.set _ (fun _ => hn)⟩
          simp only [Own]
          refine .inr (.inr ⟨n, off, some (c + 1), splice row (off + ds.length) ys, g, by rw [List.length_append, hyl], hn, by rw [List.getElem?_set_self hnlt1], by rw [hsl, List.length_append]; omega,
            (fun c' hc' => by cases hc'; rw [List.length_append]; omega), ?_⟩)
          have e : ((splice row (off + ds.length) ys).drop off).take (ds ++ es).length = (row.drop off).take ds.length ++ ys := by
            apply List.ext_getElem?
            intro i
            simp only [List.getElem?_take, List.getElem?_drop, List.length_append, splice, List.getElem?_append, List.length_take, List.length_append, List.length_drop]
            rw [show min (off + ds.length) row.length = off + ds.length by omega, show min ds.length (row.length - off) = ds.length by omega]
            by_cases h1 : i < ds.length
            · rw [if_pos (by omega), if_pos (by omega), if_pos (by omega), if_pos (by omega), if_pos h1]
              simp [h1]
            · by_cases h2 : i < ds.length + es.length
              · rw [if_pos h2, if_pos (by omega), if_neg (by omega), if_neg h1]
                congr 1; omega
              · rw [if_neg h2, if_neg h1, List.getElem?_eq_none (by omega)]
          rw [e]
          refine OwnLL.mono _ (fun m hm => hm) ?_ _ (OwnLL_app hd1 hy1)
          intro m hm x hx
          rw [List.getElem?_set_ne (fun e => hm.2 e.symm)]; exact hx

end Glb

/-
  Numbers, bytes and lists as bytes.
-/
namespace Glb
open Go
set_option maxRecDepth 10000
set_option maxHeartbeats 4000000

/-- a byte of a number, from above -/
def byteOf (v : Int) (k : Nat) : Int := IntKind.u8.wrap ((IntKind.u64.wrap v).fdiv (2 ^ (8 * (7 - k))))
/-- a number as bytes -/
def num (v : Int) : List Int := [byteOf v 0, byteOf v 1, byteOf v 2, byteOf v 3, byteOf v 4, byteOf v 5, byteOf v 6, byteOf v 7]

theorem num_length (v : Int) : (num v).length = 8 := rfl
theorem num_get (v : Int) (j : Nat) (hj : j < 8) : (num v)[j]? = some (byteOf v j) := by
  match j, hj with
  | 0, _ => rfl
  | 1, _ => rfl
  | 2, _ => rfl
  | 3, _ => rfl
  | 4, _ => rfl
  | 5, _ => rfl
  | 6, _ => rfl
  | 7, _ => rfl

theorem take_one_more {α : Type} {l : List α} {j : Nat} {x : α} (h : l[j]? = some x) : l.take (j + 1) = l.take j ++ [x] := by
  rw [List.take_add_one, h]; rfl

/-- bytes of one's own, with a number behind them -/
def NumberOk (P : Program) (f : FuncId) : Prop :=
  isFn P f = true ∧ ∀ (lo : Nat) (h : AHeap) (l : List Int) (b : AV) (v : Int), Own (dBytes l) (fun m => lo ≤ m) h b → canApp h b → lo ≤ h.length → l.length ≤ 2^45 →
    ACalls P f [b, .int .i64 v] h fun r h' => Own (dBytes (l ++ num v)) (fun m => lo ≤ m) h' r ∧ canApp h' r ∧ Ext (fun m => lo ≤ m) h h'

theorem shr_u64 (a b : Int) : abin .shr (.int .u64 a) (.int .i64 b) = ishift .shr .u64 a b := Eq.trans rfl rfl

theorem number_ok {P : Program} {f : FuncId} (hf : Is P f c_pack_number) : NumberOk P f := by
  refine ⟨hf.2, fun lo h l b v hb hc hlo hl => fun_sound hf.1 (Nat.le_of_ble_eq_true rfl) ?_⟩
  show vc P c_pack_number.code ⟨[(0, b), (1, .int .i64 v)], [], h⟩ (atEnd c_pack_number.res _)
  simp only [c_pack_number, go_sem, reduceIte, Nat.reduceEqDiff, Nat.reduceAdd, Nat.reduceLeDiff, Nat.reducePow, Nat.reduceDiv, Nat.reduceMod, decide_true]
  refine vc_loop (fun m L h' => ∃ (j : Nat) (o : AV), lk 0 L = o ∧ lk 1 L = .int .i64 v ∧ lk 5 L = .int .i64 (7 - (j : Int)) ∧ j ≤ 8 ∧ m = 8 - j ∧
    Own (dBytes (l ++ (num v).take j)) (fun m => lo ≤ m) h' o ∧ canApp h' o ∧ Ext (fun m => lo ≤ m) h h') 8 ?_ ?_
  · exact ⟨0, b, by simp [lk_ins, lk_cons], by simp [lk_ins, lk_cons], by simp [lk_ins], by omega, by omega, by simpa using hb, hc, Ext.refl _ _⟩
  · rintro m L h' ⟨j, o, h0, h1, h5, hj, rfl, ho, hc', he⟩
    simp only [c_pack_number_l0, go_sem, reduceIte, Nat.reduceEqDiff, Nat.reduceAdd, Nat.reduceLeDiff, Nat.reducePow, Nat.reduceDiv, Nat.reduceMod, decide_true, h0, h1, h5]
    refine wCond_split (fun ci => ?_) (fun ci => ?_)
    · simp at ci
      have e1 : IntKind.i64.wrap (8 * (7 - (j : Int))) = ((8 * (7 - j) : Nat) : Int) := by rw [wrap_i64 (by omega)]; omega
      have e2 : IntKind.i64.wrap (7 - (j : Int) - 1) = 7 - ((j + 1 : Nat) : Int) := by rw [wrap_i64 (by omega)]; omega
      have e3 : ishift .shr .u64 (IntKind.u64.wrap v) ((8 * (7 - j) : Nat) : Int) = some (.int .u64 ((IntKind.u64.wrap v).fdiv (2 ^ (8 * (7 - j))))) := by
        simp only [ishift]
        rw [if_neg (by omega), Int.toNat_natCast, Nat.min_eq_left (by simp [IntKind.bits]; omega)]
      have e4 : IntKind.u8.wrap ((IntKind.u64.wrap v).fdiv (2 ^ (8 * (7 - j)))) = byteOf v j := rfl
      have hln : (l ++ (num v).take j).length = l.length + j := by simp [num_length]; omega
      obtain ⟨o', h2, ha, ho', hc2, he'⟩ := own_app (bytes := 1) (es := [[.int .u8 (byteOf v j)]]) (h := h' ++ [some (.arr 1 [[.int .u8 (byteOf v j)]] false)]) ho hc' (Ext.app _ _ _) (ys := [[.int .u8 (byteOf v j)]])
        (by simp [OwnLL, OwnL, Own]) (Nat.le_trans hlo he.1) (by rw [List.length_map, hln]; simp; omega)
      simp only [go_sem, reduceIte, Nat.reduceEqDiff, Nat.reduceAdd, Nat.reduceLeDiff, Nat.reducePow, Nat.reduceDiv, Nat.reduceMod, decide_true, h0, h1, h5, e1, e2, shr_u64, e3, e4, aconv_int, aappend_of (aelems_new h' 1 [[.int .u8 (byteOf v j)]] false (some 1) (len := 1) rfl), ha]
      refine ⟨_, ?_, j + 1, o', rfl, rfl, by omega, rfl, ?_, hc2, ?_⟩
      · omega
      · rw [take_one_more (num_get v j (by omega)), ← List.append_assoc, dBytes, List.map_append]; exact ho'
      · exact (he.trans (Ext.app nof h' _) (fun _ _ x => x) (fun _ _ x => x.elim)).trans he' (fun _ _ x => x) (fun m hm hm' => hm')
    · simp at ci
      simp only [go_sem, reduceIte, Nat.reduceEqDiff, Nat.reduceAdd, Nat.reduceLeDiff, Nat.reducePow, Nat.reduceDiv, Nat.reduceMod, decide_true, h0]
      obtain rfl : j = 8 := by omega
      exact ⟨ho, hc', he⟩

/-- a new row of so many -/
def amks (h : AHeap) (sz bytes : Nat) (zero : List AV) : AV → AV → Option (AV × AHeap)
  | .int _ l, .int _ c => if 0 ≤ l ∧ l ≤ c ∧ c * bytes ≤ 2 ^ 46 then some (.ref h.length sz 0 l.toNat (some c.toNat), h ++ [some (.arr sz (List.replicate c.toNat zero) false)]) else none
  | _, _ => none
theorem hev_mks (g : Opd → AV) (h : AHeap) (sz bytes : Nat) (zero : List AV) (l c : Opd) : hev g h (.mks sz bytes zero l c) = amks h sz bytes zero (g l) (g c) := by
  simp only [hev, lightOf, amks]
  generalize g l = x
  generalize g c = y
  cases x <;> cases y <;> simp only
  rename_i k l k' c
  by_cases q : 0 ≤ l ∧ l ≤ c ∧ c * (bytes : Int) ≤ 2 ^ 46
  · rw [if_pos q, if_pos q]
  · rw [if_neg q, if_neg q]
theorem amks_int {h : AHeap} {sz bytes : Nat} {zero : List AV} {k k' : IntKind} {l c : Int} (h0 : 0 ≤ l) (h1 : l ≤ c) (h2 : c * bytes ≤ 2 ^ 46) :
    amks h sz bytes zero (.int k l) (.int k' c) = some (.ref h.length sz 0 l.toNat (some c.toNat), h ++ [some (.arr sz (List.replicate c.toNat zero) false)]) := by
  simp only [amks]; rw [if_pos ⟨h0, h1, h2⟩]

theorem own_empty {sz : Nat} (h : AHeap) (c : Nat) (zero : List AV) : Own (.sl sz []) (fun m => h.length ≤ m) (h ++ [some (.arr sz (List.replicate c zero) false)]) (.ref h.length sz 0 0 (some c)) ∧
    canApp (h ++ [some (.arr sz (List.replicate c zero) false)]) (.ref h.length sz 0 0 (some c)) := by
  constructor
  · simp only [Own]
    exact .inr (.inr ⟨h.length, 0, some c, List.replicate c zero, false, rfl, Nat.le_refl _, bx10 _ _, by simp, (fun d hd => by cases hd; simp), by simp [OwnLL]⟩)
  · exact ⟨_, false, bx10 _ _, (fun hc => by cases hc), (fun d hd => by cases hd; simp)⟩

theorem own_ints1 {n : IntKind} {F G : Nat → Prop} {h h' : AHeap} : ∀ {l : List Int} {ys : List (List AV)}, RdLL F h (l.map fun x => [.int n x]) ys → OwnLL (l.map fun x => [.int n x]) G h' ys := by
  intro l
  induction l with
  | nil => intro ys hh; simpa [RdLL, OwnLL] using hh
  | cons x l ih =>
    intro ys hh
    simp only [List.map_cons, RdLL] at hh
    obtain ⟨e, r, rfl, h1, h2⟩ := hh
    simp only [RdL, Rd] at h1
    obtain ⟨_, _, rfl, rfl, rfl⟩ := h1
    simp only [List.map_cons, OwnLL]
    exact ⟨_, _, rfl, ⟨_, _, rfl, by simp only [Own], rfl⟩, ih h2⟩

def RoomOk (P : Program) (f : FuncId) : Prop :=
  isFn P f = true ∧ ∀ (F : Nat → Prop) (h : AHeap) (l : List Int) (b : AV) (n : Int), Rd F h (dBytes l) b → l.length ≤ 2^42 → 0 ≤ n ∧ n ≤ 2^42 →
    ACalls P f [b, .int .i64 n] h fun r h' => Own (dBytes l) (fun m => h.length ≤ m) h' r ∧ canApp h' r ∧ Ext nof h h'

theorem room_ok {P : Program} {f : FuncId} (hf : Is P f c_pack_room) : RoomOk P f := by
  refine ⟨hf.2, fun F h l b n hb hl hn => fun_sound hf.1 (Nat.le_of_ble_eq_true rfl) ?_⟩
  show vc P c_pack_room.code ⟨[(0, b), (1, .int .i64 n)], [], h⟩ (atEnd c_pack_room.res _)
  have lb := hb.len
  simp only [List.length_map] at lb
  have e1 : IntKind.i64.wrap ((l.length : Int) + n) = (l.length : Int) + n := wrap_i64 (by omega)
  have hm := amks_int (h := h) (sz := 1) (bytes := 1) (zero := [.int .u8 0]) (k := .i64) (k' := .i64) (l := 0) (c := (l.length : Int) + n) (Int.le_refl 0) (by omega) (by omega)
  have oe := own_empty (sz := 1) h ((l.length : Int) + n).toNat [.int .u8 0]
  obtain ⟨ys, hys, hyr⟩ := (hb.up (Ext.b1 (some (.arr 1 (List.replicate ((l.length : Int) + n).toNat [.int .u8 0]) false)))).elems
  obtain ⟨r, h2, ha, hr, hc, he⟩ := own_app (bytes := 1) oe.1 oe.2 (Ext.refl nof _) (own_ints1 hyr) (by simp) (by simp; omega)
  have ha' := aappend_of hys 1 (.ref h.length 1 0 0 (some ((l.length : Int) + n).toNat))
  rw [ha] at ha'
  simp only [c_pack_room, go_sem, reduceIte, Nat.reduceEqDiff, Nat.reduceAdd, Nat.reduceLeDiff, Nat.reducePow, Nat.reduceDiv, Nat.reduceMod, decide_true, lb, e1, hev_mks, hm, Int.toNat_zero, ha']
  exact ⟨hr, hc, (Ext.b1 _).then he (fun m hm hm' => by omega)⟩

/-- bytes behind others, with their length -/
def BlobOk (P : Program) (f : FuncId) : Prop :=
  isFn P f = true ∧ ∀ (F : Nat → Prop) (h : AHeap) (l p : List Int) (b a : AV), Rd F h (dBytes l) b → Rd F h (dBytes p) a → l.length ≤ 2^41 → p.length ≤ 2^41 →
    ACalls P f [b, a] h fun r h' => Own (dBytes (l ++ num p.length ++ p)) (fun m => h.length ≤ m) h' r ∧ canApp h' r ∧ Ext nof h h'

theorem pack_Blob_ok {P : Program} {f fr fn : FuncId} (hf : Is P f (c_pack_Blob fr fn)) (hr : RoomOk P fr) (hn : NumberOk P fn) : BlobOk P f := by
  refine ⟨hf.2, fun F h l p b a hb ha hl hp => fun_sound hf.1 (Nat.le_of_ble_eq_true rfl) ?_⟩
  show vc P (c_pack_Blob fr fn).code ⟨[(0, b), (1, a)], [], h⟩ (atEnd (c_pack_Blob fr fn).res _)
  have la := ha.len
  simp only [List.length_map] at la
  have e1 : IntKind.i64.wrap (8 + (p.length : Int)) = 8 + (p.length : Int) := wrap_i64 (by omega)
  simp only [c_pack_Blob, go_sem, reduceIte, Nat.reduceEqDiff, Nat.reduceAdd, Nat.reduceLeDiff, Nat.reducePow, Nat.reduceDiv, Nat.reduceMod, decide_true, la, e1]
  refine wCall_use ⟨hr.1, hr.2 F _ l _ _ hb (by omega) (by omega)⟩ ?_
  rintro r h1 ⟨ro, rc, x1⟩
  simp only [go_sem, reduceIte, Nat.reduceEqDiff, Nat.reduceAdd, Nat.reduceLeDiff, Nat.reducePow, Nat.reduceDiv, Nat.reduceMod, decide_true, la]
  refine wCall_use ⟨hn.1, hn.2 h.length _ l _ _ ro rc x1.1 (by omega)⟩ ?_
  rintro s h2 ⟨so, sc, x2⟩
  have x12 := x1.then x2 (fun m hm hm' => by omega)
  obtain ⟨ys, hys, hyr⟩ := (ha.up x12).elems
  obtain ⟨t, h3, ht, to, tc, x3⟩ := own_app (bytes := 1) so sc (Ext.refl nof _) (own_ints1 hyr) x12.1 (by simp [num_length]; omega)
  have ha' := aappend_of hys 1 s
  rw [ht] at ha'
  simp only [go_sem, reduceIte, Nat.reduceEqDiff, Nat.reduceAdd, Nat.reduceLeDiff, Nat.reducePow, Nat.reduceDiv, Nat.reduceMod, decide_true, ha']
  refine ⟨?_, tc, x12.then x3 (fun m hm hm' => by omega)⟩
  rw [dBytes, List.map_append]; exact to

/-- numbers as bytes -/
def nums : List Int → List Int
  | [] => []
  | x :: r => num x ++ nums r
theorem nums_app : ∀ (a b : List Int), nums (a ++ b) = nums a ++ nums b
  | [], b => rfl
  | x :: r, b => by simp only [List.cons_append, nums, nums_app r b, List.append_assoc]
theorem nums_length : ∀ (a : List Int), (nums a).length = 8 * a.length
  | [] => rfl
  | x :: r => by simp only [nums, List.length_append, num_length, nums_length r, List.length_cons]; omega

def IntsOk (P : Program) (f : FuncId) : Prop :=
  isFn P f = true ∧ ∀ (F : Nat → Prop) (h : AHeap) (l p : List Int) (b a : AV), Rd F h (dBytes l) b → Rd F h (dInts p) a → l.length ≤ 2^38 → p.length ≤ 2^38 →
    ACalls P f [b, a] h fun r h' => Own (dBytes (l ++ num p.length ++ nums p)) (fun m => h.length ≤ m) h' r ∧ canApp h' r ∧ Ext nof h h'

theorem pack_Ints_ok {P : Program} {f fr fn : FuncId} (hf : Is P f (c_pack_Ints fr fn)) (hr : RoomOk P fr) (hn : NumberOk P fn) : IntsOk P f := by
  refine ⟨hf.2, fun F h l p b a hb ha hl hp => fun_sound hf.1 (Nat.le_of_ble_eq_true rfl) ?_⟩
  show vc P (c_pack_Ints fr fn).code ⟨[(0, b), (1, a)], [], h⟩ (atEnd (c_pack_Ints fr fn).res _)
  have la := ha.len
  simp only [List.length_map] at la
  have e0 : IntKind.i64.wrap (8 * (p.length : Int)) = 8 * (p.length : Int) := wrap_i64 (by omega)
  have e1 : IntKind.i64.wrap (8 + 8 * (p.length : Int)) = 8 + 8 * (p.length : Int) := wrap_i64 (by omega)
  simp only [c_pack_Ints, go_sem, reduceIte, Nat.reduceEqDiff, Nat.reduceAdd, Nat.reduceLeDiff, Nat.reducePow, Nat.reduceDiv, Nat.reduceMod, decide_true, la, e0, e1]
  refine wCall_use ⟨hr.1, hr.2 F _ l _ _ hb (by omega) (by omega)⟩ ?_
  rintro r h1 ⟨ro, rc, x1⟩
  simp only [go_sem, reduceIte, Nat.reduceEqDiff, Nat.reduceAdd, Nat.reduceLeDiff, Nat.reducePow, Nat.reduceDiv, Nat.reduceMod, decide_true, la]
  refine wCall_use ⟨hn.1, hn.2 h.length _ l _ _ ro rc x1.1 (by omega)⟩ ?_
  rintro s h2 ⟨so, sc, x2⟩
  have x12 := x1.then x2 (fun m hm hm' => by omega)
  simp only [go_sem, reduceIte, Nat.reduceEqDiff, Nat.reduceAdd, Nat.reduceLeDiff, Nat.reducePow, Nat.reduceDiv, Nat.reduceMod, decide_true, la]
  refine vc_loop (fun m L h' => ∃ (i : Nat) (o : AV), lk 17 L = a ∧ lk 18 L = .int .i64 p.length ∧ lk 5 L = o ∧ lk 19 L = .int .i64 i ∧ i ≤ p.length ∧ m = p.length - i ∧
    Own (dBytes (l ++ num p.length ++ nums (p.take i))) (fun m => h.length ≤ m) h' o ∧ canApp h' o ∧ Ext nof h h') p.length ?_ ?_
  · exact ⟨0, s, by simp [lk_ins, lk_cons], by simp [lk_ins, lk_cons], by simp [lk_ins, lk_cons], by simp [lk_ins], by omega, by omega, by simpa [nums] using so, sc, x12⟩
  · rintro m L h' ⟨i, o, h17, h18, h5, h19, hi, rfl, ho, hc, he⟩
    simp only [c_pack_Ints_l0, go_sem, reduceIte, Nat.reduceEqDiff, Nat.reduceAdd, Nat.reduceLeDiff, Nat.reducePow, Nat.reduceDiv, Nat.reduceMod, decide_true, h17, h18, h5, h19]
    refine wCond_split (fun ci => ?_) (fun ci => ?_)
    · simp at ci
      obtain ⟨q, cs, hq, hqc, hcs⟩ := (ha.up he).index .i64 (i := i) (d := [.int .i64 p[i]]) (by omega) (by simp [ci])
      simp only [RdL, Rd] at hcs
      obtain ⟨_, _, rfl, rfl, rfl⟩ := hcs
      have e2 : IntKind.i64.wrap ((i : Int) + 1) = (i : Int) + 1 := wrap_i64 (by omega)
      simp only [go_sem, reduceIte, Nat.reduceEqDiff, Nat.reduceAdd, Nat.reduceLeDiff, Nat.reducePow, Nat.reduceDiv, Nat.reduceMod, decide_true, h17, h18, h5, h19, hq, aload_p hqc]
      refine wCall_use ⟨hn.1, hn.2 h.length _ (l ++ num p.length ++ nums (p.take i)) _ p[i] ho hc he.1 (by simp [num_length, nums_length]; omega)⟩ ?_
      rintro u h3 ⟨uo, uc, x3⟩
      simp only [go_sem, reduceIte, Nat.reduceEqDiff, Nat.reduceAdd, Nat.reduceLeDiff, Nat.reducePow, Nat.reduceDiv, Nat.reduceMod, decide_true, h17, h18, h5, h19, e2]
      refine ⟨_, ?_, i + 1, u, rfl, rfl, ci, rfl, ?_, uc, he.then x3 (fun m hm hm' => by omega)⟩
      · omega
      · rw [take_one_more (x := p[i]) (by simp [ci]), nums_app]; simpa [nums] using uo
    · simp at ci
      simp only [go_sem, reduceIte, Nat.reduceEqDiff, Nat.reduceAdd, Nat.reduceLeDiff, Nat.reducePow, Nat.reduceDiv, Nat.reduceMod, decide_true, h5]
      obtain rfl : i = p.length := by omega
      rw [List.take_length] at ho
      exact ⟨ho, hc, he⟩

end Glb

/-
  Numbers, bytes and lists as bytes: the document's answer.
-/
namespace Glb
open Go
set_option maxRecDepth 10000
set_option maxHeartbeats 4000000

theorem wrap_u8 (x : Int) : IntKind.u8.wrap x = x % 256 := by
  simp [IntKind.wrap, IntKind.bits, IntKind.signed]
theorem wrap_u64 (x : Int) : IntKind.u64.wrap x = x % 18446744073709551616 := by
  simp [IntKind.wrap, IntKind.bits, IntKind.signed]

/-- from below -/
theorem byteOf_low (v : Int) (k : Nat) (hk : k ≤ 7) : byteOf v (7 - k) = (IntKind.u64.wrap v / 256 ^ k) % 256 := by
  rw [byteOf, wrap_u8, Int.fdiv_eq_ediv_of_nonneg _ (Int.le_of_lt (Int.pow_pos (by decide))), show 7 - (7 - k) = k by omega, Int.pow_mul]
  rfl

def lows (v : Int) : List Int := [byteOf v 7, byteOf v 6, byteOf v 5, byteOf v 4, byteOf v 3, byteOf v 2, byteOf v 1, byteOf v 0]
theorem lows_get (v : Int) (j : Nat) (hj : j ≤ 7) : (lows v)[j]? = some (byteOf v (7 - j)) := by
  match j, hj with
  | 0, _ => rfl
  | 1, _ => rfl
  | 2, _ => rfl
  | 3, _ => rfl
  | 4, _ => rfl
  | 5, _ => rfl
  | 6, _ => rfl
  | 7, _ => rfl
theorem lows_length (v : Int) : (lows v).length = 8 := rfl

theorem rem_u64 (a b : Int) : abin .rem (.int .u64 a) (.int .u64 b) = if b = 0 then none else some (.int .u64 (a.tmod b)) := Eq.trans rfl rfl
theorem quo_u64 (a b : Int) : abin .quo (.int .u64 a) (.int .u64 b) = if b = 0 then none else some (.int .u64 (IntKind.u64.wrap (a.tdiv b))) := Eq.trans rfl rfl

/-- the byte that comes next, from below, and what is left -/
theorem low_step (v : Int) (k : Nat) (hk : k ≤ 7) : IntKind.u8.wrap ((IntKind.u64.wrap v / 256 ^ k).tmod 256) = byteOf v (7 - k) ∧
    IntKind.u64.wrap ((IntKind.u64.wrap v / 256 ^ k).tdiv 256) = IntKind.u64.wrap v / 256 ^ (k + 1) := by
  have h0 : 0 ≤ IntKind.u64.wrap v := by rw [wrap_u64]; omega
  have h1 : IntKind.u64.wrap v < 18446744073709551616 := by rw [wrap_u64]; omega
  have hp : (0 : Int) < 256 ^ k := Int.pow_pos (by decide)
  generalize hu : IntKind.u64.wrap v = u at *
  have h2 : 0 ≤ u / 256 ^ k := Int.ediv_nonneg h0 (Int.le_of_lt hp)
  have h3 : u / 256 ^ k ≤ u := Int.ediv_le_self _ h0
  constructor
  · rw [byteOf_low v k hk, hu, wrap_u8, Int.tmod_eq_emod_of_nonneg h2]; omega
  · rw [Int.tdiv_eq_ediv_of_nonneg h2, wrap_u64, Int.pow_succ, ← Int.ediv_ediv_of_nonneg (Int.le_of_lt hp)]
    omega

/-- bytes with a number behind them, in new memory -/
def IntOk (P : Program) (f : FuncId) : Prop :=
  isFn P f = true ∧ ∀ (F : Nat → Prop) (h : AHeap) (l : List Int) (b : AV) (v : Int), Rd F h (dBytes l) b → l.length ≤ 2^42 →
    ACalls P f [b, .int .i64 v] h fun r h' => Own (dBytes (l ++ num v)) (fun m => h.length ≤ m) h' r ∧ canApp h' r ∧ Ext nof h h'

theorem gleberef02_Int_ok {P : Program} {f : FuncId} (hf : Is P f c_gleberef02_Int) : IntOk P f := by
  refine ⟨hf.2, fun F h l b v hb hl => fun_sound hf.1 (Nat.le_of_ble_eq_true rfl) ?_⟩
  show vc P c_gleberef02_Int.code ⟨[(0, b), (1, .int .i64 v)], [], h⟩ (atEnd c_gleberef02_Int.res _)
  have lb := hb.len
  simp only [List.length_map] at lb
  have z256 : ∀ {x : Option AV}, (if (256 : Int) = 0 then none else x) = x := fun {x} => if_neg (by decide)
  simp only [c_gleberef02_Int, go_sem, reduceIte, Nat.reduceEqDiff, Nat.reduceAdd, Nat.reduceLeDiff, Nat.reducePow, Nat.reduceDiv, Nat.reduceMod, decide_true, aconv_int]
  refine vc_loop (fun m L h' => ∃ (k : Nat) (o : AV), lk 0 L = b ∧ lk 5 L = o ∧ lk 6 L = .int .u64 (IntKind.u64.wrap v / 256 ^ k) ∧ lk 7 L = .int .i64 k ∧ k ≤ 8 ∧ m = 8 - k ∧
    Own (dBytes ((lows v).take k)) (fun m => h.length ≤ m) h' o ∧ canApp h' o ∧ Ext nof h h') 8 ?_ ?_
  · exact ⟨0, .nils, by simp [lk_ins, lk_cons], by simp [lk_ins, lk_cons], by simp [lk_ins, lk_cons], by simp [lk_ins], by omega, by omega, Own.nils 1, trivial, Ext.refl _ _⟩
  · rintro m L h' ⟨k, o, h0, h5, h6, h7, hk, rfl, ho, hc, he⟩
    simp only [c_gleberef02_Int_l0, go_sem, reduceIte, Nat.reduceEqDiff, Nat.reduceAdd, Nat.reduceLeDiff, Nat.reducePow, Nat.reduceDiv, Nat.reduceMod, decide_true, h0, h5, h6, h7]
    refine wCond_split (fun ci => ?_) (fun ci => ?_)
    · simp at ci
      have st := low_step v k (by omega)
      have e1 : IntKind.i64.wrap ((k : Int) + 1) = (k : Int) + 1 := wrap_i64 (by omega)
      obtain ⟨o', h2, ha, ho', hc2, he'⟩ := own_app (bytes := 1) (es := [[.int .u8 (byteOf v (7 - k))]]) (h := h' ++ [some (.arr 1 [[.int .u8 (byteOf v (7 - k))]] false)]) ho hc (Ext.app _ _ _) (ys := [[.int .u8 (byteOf v (7 - k))]])
        (by simp [OwnLL, OwnL, Own]) he.1 (by rw [List.length_map, List.length_take, lows_length]; simp; omega)
      simp only [go_sem, reduceIte, Nat.reduceEqDiff, Nat.reduceAdd, Nat.reduceLeDiff, Nat.reducePow, Nat.reduceDiv, Nat.reduceMod, decide_true, h0, h5, h6, h7, e1, rem_u64, quo_u64, z256, st.1, st.2, aconv_int, aappend_of (aelems_new h' 1 [[.int .u8 (byteOf v (7 - k))]] false (some 1) (len := 1) rfl), ha]
      refine ⟨_, ?_, k + 1, o', rfl, rfl, rfl, by omega, rfl, ?_, hc2, ?_⟩
      · omega
      · rw [take_one_more (lows_get v k (by omega)), dBytes, List.map_append]; exact ho'
      · exact (he.trans (Ext.app nof h' _) (fun _ _ x => x) (fun _ _ x => x)).trans he' (fun _ _ x => x) (fun m hm hm' => by omega)
    · simp at ci
      obtain rfl : k = 8 := by omega
      have hlow : Own (dBytes (lows v)) (fun m => m < h'.length) h' o := Own.mono _ (fun m hm => hm.2) (fun _ _ _ x => x) _ (Own.lt _ _ ho)
      simp only [go_sem, reduceIte, Nat.reduceEqDiff, Nat.reduceAdd, Nat.reduceLeDiff, Nat.reducePow, Nat.reduceDiv, Nat.reduceMod, decide_true, h0, h5]
      refine vc_loop (fun m L h2 => ∃ (i : Nat) (o2 : AV), lk 0 L = b ∧ lk 5 L = o ∧ lk 8 L = o2 ∧ lk 9 L = .int .i64 i ∧ i ≤ l.length ∧ m = l.length - i ∧
        Own (dBytes (l.take i)) (fun m => h'.length ≤ m) h2 o2 ∧ canApp h2 o2 ∧ Ext nof h' h2) l.length ?_ ?_
      · exact ⟨0, .nils, by simp [lk_ins, lk_cons, h0], by simp [lk_ins, lk_cons, h5], by simp [lk_ins, lk_cons], by simp [lk_ins], by omega, by omega, Own.nils 1, trivial, Ext.refl _ _⟩
      · rintro m L h2 ⟨i, o2, h0, h5, h8, h9, hi, rfl, ho2, hc2, he2⟩
        simp only [c_gleberef02_Int_l1, go_sem, reduceIte, Nat.reduceEqDiff, Nat.reduceAdd, Nat.reduceLeDiff, Nat.reducePow, Nat.reduceDiv, Nat.reduceMod, decide_true, h0, h5, h8, h9, lb]
        refine wCond_split (fun ci => ?_) (fun ci => ?_)
        · simp at ci
          have e1 : IntKind.i64.wrap ((i : Int) + 1) = (i : Int) + 1 := wrap_i64 (by omega)
          obtain ⟨q, cs, hq, hqc, hcs⟩ := (hb.up (he.tr he2)).index .i64 (i := i) (d := [.int .u8 l[i]]) (by omega) (by simp [ci])
          simp only [RdL, Rd] at hcs
          obtain ⟨_, _, rfl, rfl, rfl⟩ := hcs
          obtain ⟨o', h3, ha, ho', hc3, he'⟩ := own_app (bytes := 1) (es := [[.int .u8 l[i]]]) (h := h2 ++ [some (.arr 1 [[.int .u8 l[i]]] false)]) ho2 hc2 (Ext.app _ _ _) (ys := [[.int .u8 l[i]]])
            (by simp [OwnLL, OwnL, Own]) he2.1 (by rw [List.length_map, List.length_take]; simp; omega)
          simp only [go_sem, reduceIte, Nat.reduceEqDiff, Nat.reduceAdd, Nat.reduceLeDiff, Nat.reducePow, Nat.reduceDiv, Nat.reduceMod, decide_true, h0, h5, h8, h9, e1, hq, aload_p hqc, aappend_of (aelems_new h2 1 [[.int .u8 l[i]]] false (some 1) (len := 1) rfl), ha]
          refine ⟨_, ?_, i + 1, o', rfl, rfl, ci, rfl, ?_, hc3, ?_⟩
          · omega
          · rw [take_one_more (x := l[i]) (by simp [ci]), dBytes, List.map_append]; exact ho'
          · exact (he2.trans (Ext.app nof h2 _) (fun _ _ x => x) (fun _ _ x => x)).trans he' (fun _ _ x => x) (fun m hm hm' => by omega)
        · simp at ci
          obtain rfl : i = l.length := by omega
          rw [List.take_length] at ho2
          have hlow2 := hlow.up he2
          simp only [go_sem, reduceIte, Nat.reduceEqDiff, Nat.reduceAdd, Nat.reduceLeDiff, Nat.reducePow, Nat.reduceDiv, Nat.reduceMod, decide_true, h0, h5, h8]
          refine vc_loop (fun m L h3 => ∃ (j : Nat) (o3 : AV), lk 5 L = o ∧ lk 8 L = o3 ∧ lk 10 L = .int .i64 (7 - (j : Int)) ∧ j ≤ 8 ∧ m = 8 - j ∧
            Own (dBytes (l ++ (num v).take j)) (fun m => h'.length ≤ m) h3 o3 ∧ canApp h3 o3 ∧ Ext (fun m => h'.length ≤ m) h2 h3) 8 ?_ ?_
          · exact ⟨0, o2, by simp [lk_ins, lk_cons, h5], by simp [lk_ins, lk_cons, h8], by simp [lk_ins], by omega, by omega, by simpa using ho2, hc2, Ext.refl _ _⟩
          · rintro m L h3 ⟨j, o3, h5, h8, h10, hj, rfl, ho3, hc3, he3⟩
            simp only [c_gleberef02_Int_l2, go_sem, reduceIte, Nat.reduceEqDiff, Nat.reduceAdd, Nat.reduceLeDiff, Nat.reducePow, Nat.reduceDiv, Nat.reduceMod, decide_true, h5, h8, h10]
            refine wCond_split (fun ci => ?_) (fun ci => ?_)
            · simp at ci
              have e1 : IntKind.i64.wrap (7 - (j : Int) - 1) = 7 - ((j + 1 : Nat) : Int) := by rw [wrap_i64 (by omega)]; omega
              have hlow3 : Own (dBytes (lows v)) (fun m => m < h'.length) h3 o := hlow2.mono _ (fun _ x => x) (he3.keepOff (fun m _ hm hn => by omega))
              obtain ⟨q, cs, hq, hqc, hcs⟩ := (Own.rd _ (fun _ x => x) _ hlow3).index .i64 (i := 7 - (j : Int)) (d := [.int .u8 (byteOf v j)]) (by omega)
                (by rw [List.getElem?_map, lows_get v (7 - (j : Int)).toNat (by omega), show 7 - (7 - (j : Int)).toNat = j by omega]; rfl)
              simp only [RdL, Rd] at hcs
              obtain ⟨_, _, rfl, rfl, rfl⟩ := hcs
              obtain ⟨o', h4, ha, ho', hc4, he'⟩ := own_app (bytes := 1) (es := [[.int .u8 (byteOf v j)]]) (h := h3 ++ [some (.arr 1 [[.int .u8 (byteOf v j)]] false)]) ho3 hc3 (Ext.app _ _ _) (ys := [[.int .u8 (byteOf v j)]])
                (by simp [OwnLL, OwnL, Own]) (Nat.le_trans he2.1 he3.1) (by rw [List.length_map, List.length_append, List.length_take, num_length]; simp; omega)
              simp only [go_sem, reduceIte, Nat.reduceEqDiff, Nat.reduceAdd, Nat.reduceLeDiff, Nat.reducePow, Nat.reduceDiv, Nat.reduceMod, decide_true, h5, h8, h10, e1, hq, aload_p hqc, aappend_of (aelems_new h3 1 [[.int .u8 (byteOf v j)]] false (some 1) (len := 1) rfl), ha]
              refine ⟨_, ?_, j + 1, o', rfl, rfl, by omega, rfl, ?_, hc4, ?_⟩
              · omega
              · rw [take_one_more (num_get v j (by omega)), ← List.append_assoc, dBytes, List.map_append]; exact ho'
              · exact (he3.trans (Ext.app nof h3 _) (fun _ _ x => x) (fun _ _ x => x.elim)).trans he' (fun _ _ x => x) (fun m hm hm' => hm')
            · simp at ci
              obtain rfl : j = 8 := by omega
              simp only [go_sem, reduceIte, Nat.reduceEqDiff, Nat.reduceAdd, Nat.reduceLeDiff, Nat.reducePow, Nat.reduceDiv, Nat.reduceMod, decide_true, h8]
              exact ⟨Own.mono _ (fun m hm => Nat.le_trans he.1 hm) (fun _ _ _ x => x) _ ho3, hc3, (he.tr he2).then he3 (fun m hm hm' => by have := he.1; omega)⟩

theorem gleberef02_Blob_ok {P : Program} {f g : FuncId} (hf : Is P f (c_gleberef02_Blob g)) (hg : IntOk P g) : BlobOk P f := by
  refine ⟨hf.2, fun F h l p b a hb ha hl hp => fun_sound hf.1 (Nat.le_of_ble_eq_true rfl) ?_⟩
  show vc P (c_gleberef02_Blob g).code ⟨[(0, b), (1, a)], [], h⟩ (atEnd (c_gleberef02_Blob g).res _)
  have la := ha.len
  simp only [List.length_map] at la
  simp only [c_gleberef02_Blob, go_sem, reduceIte, Nat.reduceEqDiff, Nat.reduceAdd, Nat.reduceLeDiff, Nat.reducePow, Nat.reduceDiv, Nat.reduceMod, decide_true, la]
  refine wCall_use ⟨hg.1, hg.2 F _ l _ _ hb (by omega)⟩ ?_
  rintro r h1 ⟨ro, rc, x1⟩
  simp only [go_sem, reduceIte, Nat.reduceEqDiff, Nat.reduceAdd, Nat.reduceLeDiff, Nat.reducePow, Nat.reduceDiv, Nat.reduceMod, decide_true, la]
  refine vc_loop (fun m L h' => ∃ (i : Nat) (o : AV), lk 1 L = a ∧ lk 5 L = o ∧ lk 6 L = .int .i64 i ∧ i ≤ p.length ∧ m = p.length - i ∧
    Own (dBytes (l ++ num p.length ++ p.take i)) (fun m => h.length ≤ m) h' o ∧ canApp h' o ∧ Ext nof h h') p.length ?_ ?_
  · exact ⟨0, r, by simp [lk_ins, lk_cons], by simp [lk_ins, lk_cons], by simp [lk_ins], by omega, by omega, by simpa using ro, rc, x1⟩
  · rintro m L h' ⟨i, o, h1, h5, h6, hi, rfl, ho, hc, he⟩
    simp only [c_gleberef02_Blob_l0, go_sem, reduceIte, Nat.reduceEqDiff, Nat.reduceAdd, Nat.reduceLeDiff, Nat.reducePow, Nat.reduceDiv, Nat.reduceMod, decide_true, h1, h5, h6, la]
    refine wCond_split (fun ci => ?_) (fun ci => ?_)
    · simp at ci
      have e1 : IntKind.i64.wrap ((i : Int) + 1) = (i : Int) + 1 := wrap_i64 (by omega)
      obtain ⟨q, cs, hq, hqc, hcs⟩ := (ha.up he).index .i64 (i := i) (d := [.int .u8 p[i]]) (by omega) (by simp [ci])
      simp only [RdL, Rd] at hcs
      obtain ⟨_, _, rfl, rfl, rfl⟩ := hcs
      obtain ⟨o', h3, hap, ho', hc3, he'⟩ := own_app (bytes := 1) (es := [[.int .u8 p[i]]]) (h := h' ++ [some (.arr 1 [[.int .u8 p[i]]] false)]) ho hc (Ext.app _ _ _) (ys := [[.int .u8 p[i]]])
        (by simp [OwnLL, OwnL, Own]) he.1 (by simp [num_length]; omega)
      simp only [go_sem, reduceIte, Nat.reduceEqDiff, Nat.reduceAdd, Nat.reduceLeDiff, Nat.reducePow, Nat.reduceDiv, Nat.reduceMod, decide_true, h1, h5, h6, e1, hq, aload_p hqc, aappend_of (aelems_new h' 1 [[.int .u8 p[i]]] false (some 1) (len := 1) rfl), hap]
      refine ⟨_, ?_, i + 1, o', rfl, rfl, ci, rfl, ?_, hc3, ?_⟩
      · omega
      · rw [take_one_more (x := p[i]) (by simp [ci]), ← List.append_assoc, dBytes, List.map_append]; exact ho'
      · exact (he.trans (Ext.app nof h' _) (fun _ _ x => x) (fun _ _ x => x)).trans he' (fun _ _ x => x) (fun m hm hm' => by omega)
    · simp at ci
      simp only [go_sem, reduceIte, Nat.reduceEqDiff, Nat.reduceAdd, Nat.reduceLeDiff, Nat.reducePow, Nat.reduceDiv, Nat.reduceMod, decide_true, h5]
      obtain rfl : i = p.length := by omega
      rw [List.take_length] at ho
      exact ⟨ho, hc, he⟩

theorem gleberef02_Ints_ok {P : Program} {f g : FuncId} (hf : Is P f (c_gleberef02_Ints g)) (hg : IntOk P g) : IntsOk P f := by
  refine ⟨hf.2, fun F h l p b a hb ha hl hp => fun_sound hf.1 (Nat.le_of_ble_eq_true rfl) ?_⟩
  show vc P (c_gleberef02_Ints g).code ⟨[(0, b), (1, a)], [], h⟩ (atEnd (c_gleberef02_Ints g).res _)
  have la := ha.len
  simp only [List.length_map] at la
  simp only [c_gleberef02_Ints, go_sem, reduceIte, Nat.reduceEqDiff, Nat.reduceAdd, Nat.reduceLeDiff, Nat.reducePow, Nat.reduceDiv, Nat.reduceMod, decide_true, la]
  refine wCall_use ⟨hg.1, hg.2 F _ l _ _ hb (by omega)⟩ ?_
  rintro r h1 ⟨ro, rc, x1⟩
  simp only [go_sem, reduceIte, Nat.reduceEqDiff, Nat.reduceAdd, Nat.reduceLeDiff, Nat.reducePow, Nat.reduceDiv, Nat.reduceMod, decide_true, la]
  refine vc_loop (fun m L h' => ∃ (i : Nat) (o : AV), lk 1 L = a ∧ lk 5 L = o ∧ lk 6 L = .int .i64 i ∧ i ≤ p.length ∧ m = p.length - i ∧
    Own (dBytes (l ++ num p.length ++ nums (p.take i))) (fun m => h.length ≤ m) h' o ∧ canApp h' o ∧ Ext nof h h') p.length ?_ ?_
  · exact ⟨0, r, by simp [lk_ins, lk_cons], by simp [lk_ins, lk_cons], by simp [lk_ins], by omega, by omega, by simpa [nums] using ro, rc, x1⟩
  · rintro m L h' ⟨i, o, h1, h5, h6, hi, rfl, ho, hc, he⟩
    simp only [c_gleberef02_Ints_l1, go_sem, reduceIte, Nat.reduceEqDiff, Nat.reduceAdd, Nat.reduceLeDiff, Nat.reducePow, Nat.reduceDiv, Nat.reduceMod, decide_true, h1, h5, h6, la]
    refine wCond_split (fun ci => ?_) (fun ci => ?_)
    · simp at ci
      have e1 : IntKind.i64.wrap ((i : Int) + 1) = (i : Int) + 1 := wrap_i64 (by omega)
      obtain ⟨q, cs, hq, hqc, hcs⟩ := (ha.up he).index .i64 (i := i) (d := [.int .i64 p[i]]) (by omega) (by simp [ci])
      simp only [RdL, Rd] at hcs
      obtain ⟨_, _, rfl, rfl, rfl⟩ := hcs
      simp only [go_sem, reduceIte, Nat.reduceEqDiff, Nat.reduceAdd, Nat.reduceLeDiff, Nat.reducePow, Nat.reduceDiv, Nat.reduceMod, decide_true, h1, h5, h6, hq, aload_p hqc]
      refine wCall_use ⟨hg.1, hg.2 nof _ [] _ p[i] (Rd.nils 1) (by simp)⟩ ?_
      rintro s h2 ⟨so, sc, x2⟩
      rw [List.nil_append] at so
      have so2 : Own (dBytes (num p[i])) (fun m => h'.length ≤ m) h2 s := so
      have ho2 : Own (dBytes (l ++ num p.length ++ nums (p.take i))) (fun m => h.length ≤ m ∧ m < h'.length) h2 o := (Own.lt _ _ ho).up x2
      simp only [go_sem, reduceIte, Nat.reduceEqDiff, Nat.reduceAdd, Nat.reduceLeDiff, Nat.reducePow, Nat.reduceDiv, Nat.reduceMod, decide_true, h1, h5, h6]
      have so3 := Own.lt _ _ so2
      refine vc_loop (fun m L h4 => ∃ (k : Nat) (o4 : AV), lk 1 L = a ∧ lk 6 L = .int .i64 i ∧ lk 7 L = s ∧ lk 5 L = o4 ∧ lk 8 L = .int .i64 k ∧ k ≤ 8 ∧ m = 8 - k ∧
        Own (dBytes (l ++ num p.length ++ nums (p.take i) ++ (num p[i]).take k)) (fun m => (h.length ≤ m ∧ m < h'.length) ∨ h2.length ≤ m) h4 o4 ∧ canApp h4 o4 ∧ Ext (fun m => (h.length ≤ m ∧ m < h'.length) ∨ h2.length ≤ m) h2 h4) 8 ?_ ?_
      · exact ⟨0, o, by simp [lk_ins, lk_cons, h1], by simp [lk_ins, lk_cons, h6], by simp [lk_ins, lk_cons], by simp [lk_ins, lk_cons, h5], by simp [lk_ins], by omega, by omega,
          by simpa using Own.mono _ (fun m hm => .inl hm) (fun _ _ _ x => x) _ ho2, hc.keep ho (x2.keep _), Ext.refl _ _⟩
      · rintro m L h4 ⟨k, o4, h1, h6, h7, h5, h8, hk, rfl, ho4, hc4, he4⟩
        simp only [c_gleberef02_Ints_l0, go_sem, reduceIte, Nat.reduceEqDiff, Nat.reduceAdd, Nat.reduceLeDiff, Nat.reducePow, Nat.reduceDiv, Nat.reduceMod, decide_true, h1, h5, h6, h7, h8]
        refine wCond_split (fun ck => ?_) (fun ck => ?_)
        · simp at ck
          have e2 : IntKind.i64.wrap ((k : Int) + 1) = (k : Int) + 1 := wrap_i64 (by omega)
          have s4 := so3.mono (F' := fun m => h'.length ≤ m ∧ m < h2.length) _ (fun _ x => x) (he4.keepOff (fun m _ hm hn => by omega))
          obtain ⟨q', cs', hq', hqc', hcs'⟩ := (Own.rd _ (fun _ x => x) _ s4).index .i64 (i := (k : Int)) (d := [.int .u8 (byteOf p[i] k)]) (by omega) (by rw [List.getElem?_map, Int.toNat_natCast, num_get p[i] k (by omega)]; rfl)
          simp only [RdL, Rd] at hcs'
          obtain ⟨_, _, rfl, rfl, rfl⟩ := hcs'
          obtain ⟨o', h5', hap, ho', hc5, he'⟩ := own_appF (bytes := 1) (es := [[.int .u8 (byteOf p[i] k)]]) (h := h4 ++ [some (.arr 1 [[.int .u8 (byteOf p[i] k)]] false)]) ho4 hc4 (Ext.app _ _ _) (ys := [[.int .u8 (byteOf p[i] k)]])
            (by simp [OwnLL, OwnL, Own]) (fun m hm => .inr (Nat.le_trans he4.1 hm)) (by simp [num_length, nums_length]; omega)
          simp only [go_sem, reduceIte, Nat.reduceEqDiff, Nat.reduceAdd, Nat.reduceLeDiff, Nat.reducePow, Nat.reduceDiv, Nat.reduceMod, decide_true, h1, h5, h6, h7, h8, e2, hq', aload_p hqc', aappend_of (aelems_new h4 1 [[.int .u8 (byteOf p[i] k)]] false (some 1) (len := 1) rfl), hap]
          refine ⟨_, ?_, k + 1, o', rfl, rfl, by omega, rfl, ?_, hc5, ?_⟩
          · omega
          · rw [take_one_more (num_get p[i] k (by omega)), ← List.append_assoc, dBytes, List.map_append]; exact ho'
          · exact (he4.trans (Ext.app nof h4 _) (fun _ _ x => x) (fun _ _ x => x.elim)).trans he' (fun _ _ x => x) (fun m hm hm' => hm')
        · simp at ck
          obtain rfl : k = 8 := by omega
          simp only [go_sem, reduceIte, Nat.reduceEqDiff, Nat.reduceAdd, Nat.reduceLeDiff, Nat.reducePow, Nat.reduceDiv, Nat.reduceMod, decide_true, h1, h5, h6, e1]
          refine ⟨_, ?_, i + 1, o4, rfl, rfl, ci, rfl, ?_, hc4, ?_⟩
          · omega
          · rw [take_one_more (x := p[i]) (by simp [ci]), nums_app]
            have := Own.mono (F' := fun m => h.length ≤ m) _ (fun m hm => by have := he.1; have := x2.1; omega) (fun _ _ _ x => x) _ ho4
            rw [show (num p[i]).take 8 = num p[i] from rfl] at this
            simpa [nums] using this
          · exact (he.tr x2).then he4 (fun m hm hm' => by have := he.1; have := x2.1; omega)
    · simp at ci
      simp only [go_sem, reduceIte, Nat.reduceEqDiff, Nat.reduceAdd, Nat.reduceLeDiff, Nat.reducePow, Nat.reduceDiv, Nat.reduceMod, decide_true, h5]
      obtain rfl : i = p.length := by omega
      rw [List.take_length] at ho
      exact ⟨ho, hc, he⟩

structure Conf where
  old : List Int
  new : List Int
  learners : List Int
  deriving DecidableEq

def Conf.c (x : Conf) : List D := [dInts x.old, dInts x.new, dInts x.learners]
/-- members as bytes -/
def Conf.bytes (x : Conf) : List Int := num x.old.length ++ nums x.old ++ (num x.new.length ++ nums x.new) ++ (num x.learners.length ++ nums x.learners)

def PutConfOk (P : Program) (f : FuncId) : Prop :=
  isFn P f = true ∧ ∀ (F : Nat → Prop) (h : AHeap) (l : List Int) (b : AV) (x : Conf) (a : List AV), Rd F h (dBytes l) b → RdL F h x.c a → l.length ≤ 2^33 → x.old.length ≤ 2^33 → x.new.length ≤ 2^33 → x.learners.length ≤ 2^33 →
    ACalls P f [b, .agg a] h fun r h' => Own (dBytes (l ++ x.bytes)) (fun m => h.length ≤ m) h' r ∧ canApp h' r ∧ Ext nof h h'

theorem image_putConf_ok {P : Program} {f g : FuncId} (hf : Is P f (c_image_putConf g)) (hg : IntsOk P g) : PutConfOk P f := by
  refine ⟨hf.2, fun F h l b x a hb ha hl h1 h2 h3 => fun_sound hf.1 (Nat.le_of_ble_eq_true rfl) ?_⟩
  show vc P (c_image_putConf g).code ⟨[(0, b), (1, .agg a)], [], h⟩ (atEnd (c_image_putConf g).res _)
  simp only [Conf.c, RdL] at ha
  obtain ⟨o, _, rfl, ho, n, _, rfl, hn, e, _, rfl, he, rfl⟩ := ha
  simp only [c_image_putConf, go_sem, reduceIte, Nat.reduceEqDiff, Nat.reduceAdd, Nat.reduceLeDiff, Nat.reducePow, Nat.reduceDiv, Nat.reduceMod, decide_true, ho.scalar, hn.scalar, he.scalar]
  have A0 := bx10 h (some (.arr 3 [[o, n, e]] false))
  have ho' := ho.up (Ext.b1 (some (.arr 3 [[o, n, e]] false)))
  have hn' := hn.up (Ext.b1 (some (.arr 3 [[o, n, e]] false)))
  have he' := he.up (Ext.b1 (some (.arr 3 [[o, n, e]] false)))
  have hb' := hb.up (Ext.b1 (some (.arr 3 [[o, n, e]] false)))
  refine wCall_use ⟨hg.1, hg.2 F _ l x.old _ _ hb' ho' (by omega) (by omega)⟩ ?_
  rintro r1 g1 ⟨r1o, r1c, x1⟩
  have A1 := x1.get A0
  simp only [go_sem, reduceIte, Nat.reduceEqDiff, Nat.reduceAdd, Nat.reduceLeDiff, Nat.reducePow, Nat.reduceDiv, Nat.reduceMod, decide_true, A0, A1]
  refine wCall_use ⟨hg.1, hg.2 (fun _ => True) _ _ x.new _ _ (Own.rd _ (fun _ _ => trivial) _ r1o) (Rd.mono (fun _ _ => trivial) (Keep.lt _ _) _ _ (hn'.up x1)) (by simp [num_length, nums_length]; omega) (by omega)⟩ ?_
  rintro r2 g2 ⟨r2o, r2c, x2⟩
  have A2 := x2.get A1
  simp only [go_sem, reduceIte, Nat.reduceEqDiff, Nat.reduceAdd, Nat.reduceLeDiff, Nat.reducePow, Nat.reduceDiv, Nat.reduceMod, decide_true, A1, A2]
  refine wCall_use ⟨hg.1, hg.2 (fun _ => True) _ _ x.learners _ _ (Own.rd _ (fun _ _ => trivial) _ r2o) (Rd.mono (fun _ _ => trivial) (Keep.lt _ _) _ _ ((he'.up x1).up x2)) (by simp [num_length, nums_length]; omega) (by omega)⟩ ?_
  rintro r3 g3 ⟨r3o, r3c, x3⟩
  simp only [go_sem, reduceIte, Nat.reduceEqDiff, Nat.reduceAdd, Nat.reduceLeDiff, Nat.reducePow, Nat.reduceDiv, Nat.reduceMod, decide_true, A2, x3.get A2]
  have xx := (((Ext.b1 _).tr x1).tr x2).tr x3
  refine ⟨?_, r3c, xx⟩
  have l12 := ((Ext.b1 _).tr x1).tr x2
  have := Own.mono (F' := fun m => h.length ≤ m) _ (fun m hm => Nat.le_trans l12.1 hm) (fun _ _ _ x => x) _ r3o
  simpa [Conf.bytes] using this
theorem gleberef13_putConf_ok {P : Program} {f g : FuncId} (hf : Is P f (c_gleberef13_putConf g)) (hg : IntsOk P g) : PutConfOk P f := by
  refine ⟨hf.2, fun F h l b x a hb ha hl h1 h2 h3 => fun_sound hf.1 (Nat.le_of_ble_eq_true rfl) ?_⟩
  show vc P (c_gleberef13_putConf g).code ⟨[(0, b), (1, .agg a)], [], h⟩ (atEnd (c_gleberef13_putConf g).res _)
  simp only [Conf.c, RdL] at ha
  obtain ⟨o, _, rfl, ho, n, _, rfl, hn, e, _, rfl, he, rfl⟩ := ha
  simp only [c_gleberef13_putConf, go_sem, reduceIte, Nat.reduceEqDiff, Nat.reduceAdd, Nat.reduceLeDiff, Nat.reducePow, Nat.reduceDiv, Nat.reduceMod, decide_true, ho.scalar, hn.scalar, he.scalar]
  have A0 := bx10 h (some (.arr 3 [[o, n, e]] false))
  have ho' := ho.up (Ext.b1 (some (.arr 3 [[o, n, e]] false)))
  have hn' := hn.up (Ext.b1 (some (.arr 3 [[o, n, e]] false)))
  have he' := he.up (Ext.b1 (some (.arr 3 [[o, n, e]] false)))
  have hb' := hb.up (Ext.b1 (some (.arr 3 [[o, n, e]] false)))
  refine wCall_use ⟨hg.1, hg.2 F _ l x.old _ _ hb' ho' (by omega) (by omega)⟩ ?_
  rintro r1 g1 ⟨r1o, r1c, x1⟩
  have A1 := x1.get A0
  simp only [go_sem, reduceIte, Nat.reduceEqDiff, Nat.reduceAdd, Nat.reduceLeDiff, Nat.reducePow, Nat.reduceDiv, Nat.reduceMod, decide_true, A0, A1]
  refine wCall_use ⟨hg.1, hg.2 (fun _ => True) _ _ x.new _ _ (Own.rd _ (fun _ _ => trivial) _ r1o) (Rd.mono (fun _ _ => trivial) (Keep.lt _ _) _ _ (hn'.up x1)) (by simp [num_length, nums_length]; omega) (by omega)⟩ ?_
  rintro r2 g2 ⟨r2o, r2c, x2⟩
  have A2 := x2.get A1
  simp only [go_sem, reduceIte, Nat.reduceEqDiff, Nat.reduceAdd, Nat.reduceLeDiff, Nat.reducePow, Nat.reduceDiv, Nat.reduceMod, decide_true, A1, A2]
  refine wCall_use ⟨hg.1, hg.2 (fun _ => True) _ _ x.learners _ _ (Own.rd _ (fun _ _ => trivial) _ r2o) (Rd.mono (fun _ _ => trivial) (Keep.lt _ _) _ _ ((he'.up x1).up x2)) (by simp [num_length, nums_length]; omega) (by omega)⟩ ?_
  rintro r3 g3 ⟨r3o, r3c, x3⟩
  simp only [go_sem, reduceIte, Nat.reduceEqDiff, Nat.reduceAdd, Nat.reduceLeDiff, Nat.reducePow, Nat.reduceDiv, Nat.reduceMod, decide_true, A2, x3.get A2]
  have xx := (((Ext.b1 _).tr x1).tr x2).tr x3
  refine ⟨?_, r3c, xx⟩
  have l12 := ((Ext.b1 _).tr x1).tr x2
  have := Own.mono (F' := fun m => h.length ≤ m) _ (fun m hm => Nat.le_trans l12.1 hm) (fun _ _ _ x => x) _ r3o
  simpa [Conf.bytes] using this

end Glb

/-
  Members, and what a member of a group must not forget: big, copied.
-/
namespace Glb
open Go
set_option maxRecDepth 10000
set_option maxHeartbeats 4000000

theorem rd_conf {x : Conf} {F : Nat → Prop} {h : AHeap} {a : List AV} (hh : RdL F h x.c a) : ∃ o n e, a = [o, n, e] ∧ Rd F h (dInts x.old) o ∧ Rd F h (dInts x.new) n ∧ Rd F h (dInts x.learners) e := by
  simp only [Conf.c, RdL] at hh
  obtain ⟨o, _, rfl, ho, n, _, rfl, hn, e, _, rfl, he, rfl⟩ := hh
  exact ⟨o, n, e, rfl, ho, hn, he⟩

def BigConfOk (P : Program) (f : FuncId) : Prop :=
  isFn P f = true ∧ ∀ (F : Nat → Prop) (h : AHeap) (x : Conf) (a : List AV) (items : Int), RdL F h x.c a →
    ACalls P f [.agg a, .int .i64 items] h fun r h' => ∃ b, r = .bool b ∧ h' = h ∧ (b = false → (x.old.length : Int) ≤ items ∧ (x.new.length : Int) ≤ items ∧ (x.learners.length : Int) ≤ items)

theorem BigConf_ok {P : Program} {f : FuncId} (hf : Is P f c_glebekit_BigConf) : BigConfOk P f := by
  refine ⟨hf.2, fun F h x a items ha => (ACalls.trunc (K := fun r h' => Ext nof h h' ∧ ∃ b, r = .bool b ∧ (b = false → (x.old.length : Int) ≤ items ∧ (x.new.length : Int) ≤ items ∧ (x.learners.length : Int) ≤ items))
    (K' := fun r => ∃ b, r = .bool b ∧ (b = false → (x.old.length : Int) ≤ items ∧ (x.new.length : Int) ≤ items ∧ (x.learners.length : Int) ≤ items)) (fun_sound hf.1 (Nat.le_of_ble_eq_true rfl) ?_)
    (fun r h' hk => ⟨hk.1, by obtain ⟨b, rfl, _⟩ := hk.2; exact upto_bool _ _, hk.2⟩)).mono fun r h' hk => let ⟨b, h1, h2⟩ := hk.2; ⟨b, h1, hk.1, h2⟩⟩
  show vc P c_glebekit_BigConf.code ⟨[(0, .agg a), (1, .int .i64 items)], [], h⟩ (atEnd c_glebekit_BigConf.res _)
  obtain ⟨o, n, e, rfl, ho, hn, he⟩ := rd_conf ha
  have lo := ho.len
  have ln := hn.len
  have le := he.len
  simp only [List.length_map] at lo ln le
  simp only [c_glebekit_BigConf, go_sem, reduceIte, Nat.reduceEqDiff, Nat.reduceAdd, Nat.reduceLeDiff, Nat.reducePow, Nat.reduceDiv, Nat.reduceMod, decide_true, ho.scalar, hn.scalar, he.scalar, lo]
  by_cases c1 : items < (x.old.length : Int)
  · simp only [go_sem, reduceIte, Nat.reduceEqDiff, Nat.reduceAdd, Nat.reduceLeDiff, Nat.reducePow, Nat.reduceDiv, Nat.reduceMod, decide_true, decide_eq_true c1]
    exact ⟨Ext.b1 _, _, rfl, fun e => by cases e⟩
  · simp only [go_sem, reduceIte, Nat.reduceEqDiff, Nat.reduceAdd, Nat.reduceLeDiff, Nat.reducePow, Nat.reduceDiv, Nat.reduceMod, decide_true, decide_eq_false c1, ln]
    by_cases c2 : items < (x.new.length : Int)
    · simp only [go_sem, reduceIte, Nat.reduceEqDiff, Nat.reduceAdd, Nat.reduceLeDiff, Nat.reducePow, Nat.reduceDiv, Nat.reduceMod, decide_true, decide_eq_true c2]
      exact ⟨Ext.b1 _, _, rfl, fun e => by cases e⟩
    · simp only [go_sem, reduceIte, Nat.reduceEqDiff, Nat.reduceAdd, Nat.reduceLeDiff, Nat.reducePow, Nat.reduceDiv, Nat.reduceMod, decide_true, decide_eq_false c2, le]
      exact ⟨Ext.b1 _, _, rfl, fun e => ⟨by omega, by omega, by simpa using e⟩⟩

def CopyConfOk (P : Program) (f : FuncId) : Prop :=
  isFn P f = true ∧ ∀ (F : Nat → Prop) (h : AHeap) (x : Conf) (a : List AV), RdL F h x.c a → x.old.length ≤ 2^40 → x.new.length ≤ 2^40 → x.learners.length ≤ 2^40 →
    ACalls P f [.agg a] h fun r h' => ∃ o n e, r = .agg [o, n, e] ∧ Own (dInts x.old) (fun k => h.length ≤ k) h' o ∧ Own (dInts x.new) (fun k => h.length ≤ k) h' n ∧ Own (dInts x.learners) (fun k => h.length ≤ k) h' e ∧ Ext nof h h'

theorem CopyConf_ok {P : Program} {f g : FuncId} (hf : Is P f (c_glebekit_CopyConf g)) (hg : CopyOk P g .i64) : CopyConfOk P f := by
  refine ⟨hf.2, fun F h x a ha l1 l2 l3 => fun_sound hf.1 (Nat.le_of_ble_eq_true rfl) ?_⟩
  show vc P (c_glebekit_CopyConf g).code ⟨[(0, .agg a)], [], h⟩ (atEnd (c_glebekit_CopyConf g).res _)
  obtain ⟨o, n, e, rfl, ho, hn, he⟩ := rd_conf ha
  simp only [c_glebekit_CopyConf, go_sem, reduceIte, Nat.reduceEqDiff, Nat.reduceAdd, Nat.reduceLeDiff, Nat.reducePow, Nat.reduceDiv, Nat.reduceMod, decide_true, ho.scalar, hn.scalar, he.scalar]
  have A0 := bx20 h (some (.arr 3 [[o, n, e]] false)) (some (.arr 3 [[.nils, .nils, .nils]] false))
  have B0 := bx21 h (some (.arr 3 [[o, n, e]] false)) (some (.arr 3 [[.nils, .nils, .nils]] false))
  have x0 := Ext.b2 (h := h) (some (.arr 3 [[o, n, e]] false)) (some (.arr 3 [[.nils, .nils, .nils]] false))
  have ho0 := ho.up x0
  have hn0 := hn.up x0
  have he0 := he.up x0
  refine wCall_use ⟨hg.1, hg.2 F _ x.old o ho0 l1⟩ ?_
  rintro o' g1 ⟨o1, _, x1⟩
  have A1 := x1.get A0
  have B1 := x1.get B0
  simp only [go_sem, reduceIte, Nat.reduceEqDiff, Nat.reduceAdd, Nat.reduceLeDiff, Nat.reducePow, Nat.reduceDiv, Nat.reduceMod, decide_true, A1]
  refine wCall_use ⟨hg.1, hg.2 F _ x.new n (hn0.up x1) l2⟩ ?_
  rintro n' g2 ⟨n2, _, x2⟩
  have A2 := x2.get A1
  have B2 := x2.get B1
  simp only [go_sem, reduceIte, Nat.reduceEqDiff, Nat.reduceAdd, Nat.reduceLeDiff, Nat.reducePow, Nat.reduceDiv, Nat.reduceMod, decide_true, A1, A2]
  refine wCall_use ⟨hg.1, hg.2 F _ x.learners e ((he0.up x1).up x2) l3⟩ ?_
  rintro e' g3 ⟨e3, _, x3⟩
  have A3 := x3.get A2
  have B3 := x3.get B2
  have lB := (List.getElem?_eq_some_iff.1 B3).1
  simp only [go_sem, reduceIte, Nat.reduceEqDiff, Nat.reduceAdd, Nat.reduceLeDiff, Nat.reducePow, Nat.reduceDiv, Nat.reduceMod, decide_true, A2, A3, B3, o1.scalar, n2.scalar, e3.scalar, cells_of o1.scalar, cells_of n2.scalar, cells_of e3.scalar, lB]
  have q0 := x0.1
  have q1 := x1.1
  have q2 := x2.1
  simp only [List.length_append, List.length_cons, List.length_nil] at q0 q1
  have st : ∀ {d : D} {G : Nat → Prop} {av : AV}, Own d G g3 av → (∀ m, G m → h.length + 2 ≤ m) → Own d (fun k => h.length ≤ k) (g3.set (h.length + 1) (some (.arr 3 [[o', n', e']] false))) av := fun hh hG =>
    Own.mono _ (fun m hm => by have := hG m hm; omega) (fun m hm y hy => by have := hG m hm; rw [List.getElem?_set_ne (by omega)]; exact hy) _ hh
  refine ⟨o', n', e', rfl, st ((o1.up x2).up x3) (fun m hm => ?_), st (n2.up x3) (fun m hm => ?_), st e3 (fun m hm => ?_), (((x0.tr x1).tr x2).tr x3).setNew (by omega) _⟩
  · simp only [List.length_append, List.length_cons, List.length_nil] at hm; omega
  · omega
  · omega

structure Hard where
  group : Int
  term : Int
  vote : Int
  log : Log
  conf : Conf
  snap : List Int
  deriving DecidableEq

def Hard.c (x : Hard) : List D := [.int .i64 x.group, .int .i64 x.term, .int .i64 x.vote, .int .i64 x.log.base, .int .i64 x.log.bterm, dEntries x.log.es, dInts x.conf.old, dInts x.conf.new, dInts x.conf.learners, dBytes x.snap]
def Hard.cells (x : Hard) (e o n l s : AV) : List AV := [.int .i64 x.group, .int .i64 x.term, .int .i64 x.vote, .int .i64 x.log.base, .int .i64 x.log.bterm, e, o, n, l, s]

theorem rd_hard {x : Hard} {F : Nat → Prop} {h : AHeap} {a : List AV} (hh : RdL F h x.c a) : ∃ e o n l s, a = x.cells e o n l s ∧ Rd F h (dEntries x.log.es) e ∧ Rd F h (dInts x.conf.old) o ∧ Rd F h (dInts x.conf.new) n ∧ Rd F h (dInts x.conf.learners) l ∧ Rd F h (dBytes x.snap) s := by
  simp only [Hard.c, rdL_int] at hh
  obtain ⟨_, rfl, _, rfl, _, rfl, _, rfl, _, rfl, hh⟩ := hh
  simp only [RdL] at hh
  obtain ⟨e, _, rfl, he, o, _, rfl, ho, n, _, rfl, hn, l, _, rfl, hl, s, _, rfl, hs, rfl⟩ := hh
  exact ⟨e, o, n, l, s, rfl, he, ho, hn, hl, hs⟩

theorem conf_rd {x : Conf} {F : Nat → Prop} {h : AHeap} {o n l : AV} (ho : Rd F h (dInts x.old) o) (hn : Rd F h (dInts x.new) n) (hl : Rd F h (dInts x.learners) l) : RdL F h x.c [o, n, l] := by
  simp only [Conf.c, RdL]
  exact ⟨o, _, rfl, ho, n, _, rfl, hn, l, _, rfl, hl, rfl⟩

def Hard.small (x : Hard) (items bytes : Int) : Prop := (x.log.es.length ≤ items.toNat ∧ ∀ e ∈ x.log.es, e.data.length ≤ bytes.toNat) ∧ ((x.conf.old.length : Int) ≤ items ∧ (x.conf.new.length : Int) ≤ items ∧ (x.conf.learners.length : Int) ≤ items) ∧ (x.snap.length : Int) ≤ bytes

def BigHardOk (P : Program) (f : FuncId) : Prop :=
  isFn P f = true ∧ ∀ (F : Nat → Prop) (h : AHeap) (x : Hard) (a : List AV) (items bytes : Int), RdL F h x.c a → 0 ≤ items ∧ items ≤ 2^40 → 0 ≤ bytes ∧ bytes ≤ 2^40 →
    ACalls P f [.agg a, .int .i64 items, .int .i64 bytes] h fun r h' => ∃ b, r = .bool b ∧ h' = h ∧ (b = false → x.small items bytes)

theorem BigHard_ok {P : Program} {f g k : FuncId} (hf : Is P f (c_glebekit_BigHard g k)) (hg : BigEntriesOk P g) (hk : BigConfOk P k) : BigHardOk P f := by
  refine ⟨hf.2, fun F h x a items bytes ha hi hb => (ACalls.trunc (K := fun r h' => Ext nof h h' ∧ ∃ b, r = .bool b ∧ (b = false → x.small items bytes)) (K' := fun r => ∃ b, r = .bool b ∧ (b = false → x.small items bytes)) (fun_sound hf.1 (Nat.le_of_ble_eq_true rfl) ?_)
    (fun r h' hk => ⟨hk.1, by obtain ⟨b, rfl, _⟩ := hk.2; exact upto_bool _ _, hk.2⟩)).mono fun r h' hk => let ⟨b, h1, h2⟩ := hk.2; ⟨b, h1, hk.1, h2⟩⟩
  show vc P (c_glebekit_BigHard g k).code ⟨[(0, .agg a), (1, .int .i64 items), (2, .int .i64 bytes)], [], h⟩ (atEnd (c_glebekit_BigHard g k).res _)
  obtain ⟨e, o, n, l, s, rfl, he, ho, hn, hl, hs⟩ := rd_hard ha
  have ls := hs.len
  simp only [List.length_map] at ls
  simp only [c_glebekit_BigHard, Hard.cells, go_sem, reduceIte, Nat.reduceEqDiff, Nat.reduceAdd, Nat.reduceLeDiff, Nat.reducePow, Nat.reduceDiv, Nat.reduceMod, decide_true, he.scalar, ho.scalar, hn.scalar, hl.scalar, hs.scalar]
  refine wCall_use ⟨hg.1, hg.2 F _ x.log.es _ items bytes (he.up (Ext.b1 _)) hi hb⟩ ?_
  rintro _ _ ⟨b1, rfl, rfl, hb1⟩
  cases b1
  · simp only [go_sem, reduceIte, Nat.reduceEqDiff, Nat.reduceAdd, Nat.reduceLeDiff, Nat.reducePow, Nat.reduceDiv, Nat.reduceMod, decide_true]
    refine wCall_use ⟨hk.1, hk.2 F _ x.conf _ items ((conf_rd ho hn hl).up (Ext.b1 _))⟩ ?_
    rintro _ _ ⟨b2, rfl, rfl, hb2⟩
    cases b2
    · simp only [go_sem, reduceIte, Nat.reduceEqDiff, Nat.reduceAdd, Nat.reduceLeDiff, Nat.reducePow, Nat.reduceDiv, Nat.reduceMod, decide_true, ls]
      exact ⟨Ext.b1 _, _, rfl, fun e => ⟨hb1 rfl, hb2 rfl, by simpa using e⟩⟩
    · simp only [go_sem, reduceIte, Nat.reduceEqDiff, Nat.reduceAdd, Nat.reduceLeDiff, Nat.reducePow, Nat.reduceDiv, Nat.reduceMod, decide_true]
      exact ⟨Ext.b1 _, _, rfl, fun e => by cases e⟩
  · simp only [go_sem, reduceIte, Nat.reduceEqDiff, Nat.reduceAdd, Nat.reduceLeDiff, Nat.reducePow, Nat.reduceDiv, Nat.reduceMod, decide_true]
    exact ⟨Ext.b1 _, _, rfl, fun e => by cases e⟩

end Glb

/-
  Calls whose answers are plain data: bytes, numbers, entries, logs, members, what a member must not forget, messages.
-/
namespace Glb
open Go
set_option maxRecDepth 10000
set_option maxHeartbeats 4000000

mutual
theorem upto_av (k : Nat) : ∀ d : D, d.av.upto k = true
  | .int i n => by simp only [D.av, AV.upto]
  | .bool b => by simp only [D.av, AV.upto]
  | .str s => by simp only [D.av, AV.upto]
  | .sl sz es => by simp only [D.av, AV.upto, uptoLL_av k es, Nat.zero_le, decide_true, Bool.or_true, Bool.and_self]
theorem uptoL_av (k : Nat) : ∀ l : List D, AV.uptoL k (D.avL l) = true
  | [] => by simp only [D.avL, AV.uptoL]
  | d :: r => by simp only [D.avL, AV.uptoL, upto_av k d, uptoL_av k r, Bool.and_self]
theorem uptoLL_av (k : Nat) : ∀ l : List (List D), AV.uptoLL k (D.avLL l) = true
  | [] => by simp only [D.avLL, AV.uptoLL]
  | d :: r => by simp only [D.avLL, AV.uptoLL, uptoL_av k d, uptoLL_av k r, Bool.and_self]
end
theorem upto_aggD (k : Nat) (l : List D) : (AV.agg (D.avL l)).upto k = true := by simp only [AV.upto, uptoL_av]

def abytes (l : List Int) : AV := (dBytes l).av
def aints (l : List Int) : AV := (dInts l).av
def aentries (l : List Entry) : AV := (dEntries l).av

theorem scalar_abytes (l : List Int) : (abytes l).scalar = true := av_scalar _
theorem scalar_aints (l : List Int) : (aints l).scalar = true := av_scalar _
theorem scalar_aentries (l : List Entry) : (aentries l).scalar = true := av_scalar _
theorem cells_abytes (l : List Int) : (abytes l).cells? = some [abytes l] := cells_of (av_scalar _)
theorem cells_aints (l : List Int) : (aints l).cells? = some [aints l] := cells_of (av_scalar _)
theorem cells_aentries (l : List Entry) : (aentries l).cells? = some [aentries l] := cells_of (av_scalar _)
theorem rd_abytes (F : Nat → Prop) (h : AHeap) (l : List Int) : Rd F h (dBytes l) (abytes l) := rd_av _ _ _
theorem rd_aints (F : Nat → Prop) (h : AHeap) (l : List Int) : Rd F h (dInts l) (aints l) := rd_av _ _ _
theorem rd_aentries (F : Nat → Prop) (h : AHeap) (l : List Entry) : Rd F h (dEntries l) (aentries l) := rd_av _ _ _
theorem len_abytes (l : List Int) : alen (abytes l) = some (.int .i64 l.length) := by simpa using (rd_abytes nof [] l).len
theorem len_aints (l : List Int) : alen (aints l) = some (.int .i64 l.length) := by simpa using (rd_aints nof [] l).len
theorem len_aentries (l : List Entry) : alen (aentries l) = some (.int .i64 l.length) := by simpa using (rd_aentries nof [] l).len
attribute [go_sem] scalar_abytes scalar_aints scalar_aentries cells_abytes cells_aints cells_aentries len_abytes len_aints len_aentries

def Entry.v (e : Entry) : List AV := D.avL e.c
def Log.v (l : Log) : List AV := D.avL l.c
def Conf.v (x : Conf) : List AV := D.avL x.c
def Hard.v (x : Hard) : List AV := D.avL x.c
theorem Entry.v_eq (e : Entry) : e.v = [.int .i64 e.term, .int .i64 e.kind, abytes e.data] := by simp only [Entry.v, Entry.c, D.avL, D.av]; rfl
theorem Log.v_eq (l : Log) : l.v = [.int .i64 l.base, .int .i64 l.bterm, aentries l.es] := by simp only [Log.v, Log.c, D.avL, D.av]; rfl
theorem Conf.v_eq (x : Conf) : x.v = [aints x.old, aints x.new, aints x.learners] := by simp only [Conf.v, Conf.c, D.avL]; rfl
theorem Hard.v_eq (x : Hard) : x.v = [.int .i64 x.group, .int .i64 x.term, .int .i64 x.vote, .int .i64 x.log.base, .int .i64 x.log.bterm, aentries x.log.es, aints x.conf.old, aints x.conf.new, aints x.conf.learners, abytes x.snap] := by
  simp only [Hard.v, Hard.c, D.avL, D.av]; rfl
theorem use1 {P : Program} {f : FuncId} {avs : List AV} {r : AV} {h : AHeap} {K : AV → AHeap → Prop} (hi : isFn P f = true) (hc : ACalls P f avs h fun r' h' => r' = r ∧ h' = h) (hk : K r h) : wCall P f avs h K :=
  wCall_use ⟨hi, hc⟩ fun _ _ ⟨e1, e2⟩ => by subst e1; subst e2; exact hk

def Conf.few (x : Conf) (n : Nat) : Prop := x.old.length ≤ n ∧ x.new.length ≤ n ∧ x.learners.length ≤ n
def Hard.few (x : Hard) : Prop := SmallEntries x.log.es ∧ x.conf.few (2^40) ∧ x.snap.length ≤ 2^40
end Glb

/-
  Members, what a member must not forget, messages: held against one another; messages written over.
-/
namespace Glb
open Go
set_option maxRecDepth 10000
set_option maxHeartbeats 4000000

theorem Conf.dec (x y : Conf) : decide (x = y) = (decide (x.old = y.old) && (decide (x.new = y.new) && decide (x.learners = y.learners))) := by
  cases x; cases y; simp [Bool.decide_and]
theorem Hard.dec (x y : Hard) : decide (x = y) = (decide (x.group = y.group) && (decide (x.term = y.term) && (decide (x.vote = y.vote) && (decide (x.log = y.log) && (decide (x.conf = y.conf) && decide (x.snap = y.snap)))))) := by
  cases x; cases y; simp [Bool.decide_and]
def SameConfOk (P : Program) (f : FuncId) : Prop :=
  isFn P f = true ∧ ∀ (F F' : Nat → Prop) (h : AHeap) (x y : Conf) (a b : List AV), RdL F h x.c a → RdL F' h y.c b → x.few (2^40) →
    ACalls P f [.agg a, .agg b] h fun r h' => r = .bool (decide (x = y)) ∧ h' = h

theorem SameConf_ok {P : Program} {f g : FuncId} (hf : Is P f (c_glebekit_SameConf g)) (hg : SameOk P g .i64) : SameConfOk P f := by
  refine ⟨hf.2, fun F F' h x y a b hx hy hl => obs rfl (fun_sound hf.1 (Nat.le_of_ble_eq_true rfl) ?_)⟩
  show vc P (c_glebekit_SameConf g).code ⟨[(0, .agg a), (1, .agg b)], [], h⟩ (atEnd (c_glebekit_SameConf g).res _)
  obtain ⟨o, n, e, rfl, ho, hn, he⟩ := rd_conf (RdL.mono (F' := fun _ => True) (fun _ _ => trivial) (Keep.lt _ _) _ _ hx)
  obtain ⟨o', n', e', rfl, ho', hn', he'⟩ := rd_conf (RdL.mono (F' := fun _ => True) (fun _ _ => trivial) (Keep.lt _ _) _ _ hy)
  simp only [c_glebekit_SameConf, go_sem, reduceIte, Nat.reduceEqDiff, Nat.reduceAdd, Nat.reduceLeDiff, Nat.reducePow, Nat.reduceDiv, Nat.reduceMod, decide_true, ho.scalar, hn.scalar, he.scalar, ho'.scalar, hn'.scalar, he'.scalar]
  repeat' (first
    | refine wGuardT (fun _ => ?_) (fun _ => ?_)
    | (refine wCall_use ⟨hg.1, hg.2 (fun _ => True) _ x.old y.old _ _ (ho.up (Ext.b2 _ _)) (ho'.up (Ext.b2 _ _)) hl.1⟩ ?_; rintro _ _ ⟨rfl, rfl⟩)
    | (refine wCall_use ⟨hg.1, hg.2 (fun _ => True) _ x.new y.new _ _ (hn.up (Ext.b2 _ _)) (hn'.up (Ext.b2 _ _)) hl.2.1⟩ ?_; rintro _ _ ⟨rfl, rfl⟩)
    | (refine wCall_use ⟨hg.1, hg.2 (fun _ => True) _ x.learners y.learners _ _ (he.up (Ext.b2 _ _)) (he'.up (Ext.b2 _ _)) hl.2.2⟩ ?_; rintro _ _ ⟨rfl, rfl⟩)
    | simp only [go_sem, reduceIte, Nat.reduceEqDiff, Nat.reduceAdd, Nat.reduceLeDiff, Nat.reducePow, Nat.reduceDiv, Nat.reduceMod, decide_true, *])
  all_goals exact ⟨by simp [Conf.dec, *], Ext.b2 _ _⟩

def SameHardOk (P : Program) (f : FuncId) : Prop :=
  isFn P f = true ∧ ∀ (F F' : Nat → Prop) (h : AHeap) (x y : Hard) (a b : List AV), RdL F h x.c a → RdL F' h y.c b → x.few →
    ACalls P f [.agg a, .agg b] h fun r h' => r = .bool (decide (x = y)) ∧ h' = h

theorem log_rd {x : Log} {F : Nat → Prop} {h : AHeap} {e : AV} (he : Rd F h (dEntries x.es) e) : RdL F h x.c [.int .i64 x.base, .int .i64 x.bterm, e] := by
  simp only [Log.c, rdL_int]
  refine ⟨_, rfl, _, rfl, ?_⟩
  simp only [RdL]
  exact ⟨e, _, rfl, he, rfl⟩

theorem SameHard_ok {P : Program} {f g k b : FuncId} (hf : Is P f (c_glebekit_SameHard g k b)) (hg : SameLogOk P g) (hk : SameConfOk P k) (hb : SameOk P b .u8) : SameHardOk P f := by
  refine ⟨hf.2, fun F F' h x y a c hx hy hl => obs rfl (fun_sound hf.1 (Nat.le_of_ble_eq_true rfl) ?_)⟩
  show vc P (c_glebekit_SameHard g k b).code ⟨[(0, .agg a), (1, .agg c)], [], h⟩ (atEnd (c_glebekit_SameHard g k b).res _)
  obtain ⟨e1, o1, n1, l1, s1, rfl, he1, ho1, hn1, hl1, hs1⟩ := rd_hard (RdL.mono (F' := fun _ => True) (fun _ _ => trivial) (Keep.lt _ _) _ _ hx)
  obtain ⟨e2, o2, n2, l2, s2, rfl, he2, ho2, hn2, hl2, hs2⟩ := rd_hard (RdL.mono (F' := fun _ => True) (fun _ _ => trivial) (Keep.lt _ _) _ _ hy)
  simp only [c_glebekit_SameHard, Hard.cells, go_sem, reduceIte, Nat.reduceEqDiff, Nat.reduceAdd, Nat.reduceLeDiff, Nat.reducePow, Nat.reduceDiv, Nat.reduceMod, decide_true, he1.scalar, ho1.scalar, hn1.scalar, hl1.scalar, hs1.scalar, he2.scalar, ho2.scalar, hn2.scalar, hl2.scalar, hs2.scalar]
  repeat' (first
    | refine wGuardT (fun _ => ?_) (fun _ => ?_)
    | (refine wCall_use ⟨hg.1, hg.2 (fun _ => True) _ x.log y.log _ _ ((log_rd he1).up (Ext.b2 _ _)) ((log_rd he2).up (Ext.b2 _ _)) (by have := hl.1.1; omega) (fun e he => by have := hl.1.2 e he; omega)⟩ ?_; rintro _ _ ⟨rfl, rfl⟩)
    | (refine wCall_use ⟨hk.1, hk.2 (fun _ => True) (fun _ => True) _ x.conf y.conf _ _ ((conf_rd ho1 hn1 hl1).up (Ext.b2 _ _)) ((conf_rd ho2 hn2 hl2).up (Ext.b2 _ _)) hl.2.1⟩ ?_; rintro _ _ ⟨rfl, rfl⟩)
    | (refine wCall_use ⟨hb.1, hb.2 (fun _ => True) _ x.snap y.snap _ _ (hs1.up (Ext.b2 _ _)) (hs2.up (Ext.b2 _ _)) hl.2.2⟩ ?_; rintro _ _ ⟨rfl, rfl⟩)
    | simp only [go_sem, reduceIte, Nat.reduceEqDiff, Nat.reduceAdd, Nat.reduceLeDiff, Nat.reducePow, Nat.reduceDiv, Nat.reduceMod, decide_true, *])
  all_goals exact ⟨by simp [Hard.dec, *], Ext.b2 _ _⟩

end Glb
