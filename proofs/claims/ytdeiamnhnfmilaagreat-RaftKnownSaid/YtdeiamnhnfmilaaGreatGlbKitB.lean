/-
  A library of its own: its parts, one behind the other.
-/
import Derived.Test.YtdeiamnhnfmilaaGreatGlbLibD
import Derived.Test.YtdeiamnhnfmilaaGreatGlbKitA
import Derived.Test.YtdeiamnhnfmilaaGreatGlbCpack
import Derived.Test.YtdeiamnhnfmilaaGreatGlbLibE
set_option linter.unusedSimpArgs false
set_option linter.unusedVariables false
namespace Glb
open Go
open Nat (reduceAdd reduceDiv reduceEqDiff reduceLeDiff reduceMod reducePow)
theorem own_appF {sz bytes : Nat} {F : Nat -> Prop} {ds es : List (List D)} {h0 h : AHeap} {av : AV} {ys : List (List AV)} (ho : Own (.sl sz ds) F h0 av) (hc : canApp h0 av)
  (hx : Ext nof h0 h) (hy : OwnLL es (fun m => h0.length <= m) h ys) (hF : ∀ m, h0.length <= m -> F m) (hb : (ds.length + es.length) * bytes <= 2 ^ 46) :
  ∃ av' h', aappendY h sz bytes av ys = some (av', h') /\ Own (.sl sz (ds ++ es)) F h' av' /\ canApp h' av' /\ Ext F h h' := by
 have hyl := OwnLL_length hy
 have fresh : ∀ (hh : AHeap) (dd : List (List D)) (es' : List (List AV)), F hh.length -> OwnLL dd F hh es' ->
   Own (.sl sz dd) F (append1 hh sz es').2 (append1 hh sz es').1 /\ canApp (append1 hh sz es').2 (append1 hh sz es').1 := by
  intro hh dd es' hl hd
  have hlen := OwnLL_length hd
  refine ⟨?_, ⟨es', true, by simp [append1], (fun _ => rfl), (fun c hc => by cases hc)⟩⟩
  simp only [Own, append1]
  refine .inr (.inr ⟨hh.length, 0, none, es', true, by rw [hlen], hl, by simp, by omega, (fun c hc => by cases hc), ?_⟩)
  have : (es'.drop 0).take dd.length = es' := by rw [List.drop_zero, List.take_of_length_le (by omega)]
  rw [this]
  refine OwnLL.mono dd (fun m hm => ⟨hm.1, by have := hm.2; omega⟩) ?_ _ (OwnLL.lt dd _ hd)
  intro m hm x hx
  rw [List.getElem?_append_left hm.2]; exact hx
 simp only [Own] at ho
 rcases ho with ⟨rfl, rfl⟩ | ⟨t, c, rfl, rfl⟩ | ⟨n, off, cap, row, g, rfl, hn, hrow, hle, hcl, hd⟩
 · -- nothing yet
  have hy' : OwnLL es F h ys := OwnLL.mono es (fun m hm => hF _ hm) (fun _ _ _ x => x) _ hy
  obtain ⟨a, b⟩ := fresh h es ys (hF _ hx.1) hy'
  refine ⟨_, _, ?_, by simpa using a, b, ?_⟩
  ·simp only [aappendY]; rw [if_pos (by rw [hyl]; simpa using hb)]
  ·exact Ext.app _ _ _
 ·have hc1 : c = true := hc
  subst hc1
  have hy' : OwnLL es F h ys := OwnLL.mono es (fun m hm => hF _ hm) (fun _ _ _ x => x) _ hy
  simp only [aappendY]
  rw [if_pos ⟨trivial, by rw [hyl]; simpa using hb⟩]
  by_cases hy0 : ys.length = 0
  ·rw [if_pos hy0]
   have hes : es = [] := List.eq_nil_of_length_eq_zero (by omega)
   subst hes
   refine ⟨_, _, rfl, ?_, rfl, Ext.refl _ _⟩
   simp only [Own]
   exact .inr (.inl ⟨t, true, rfl, rfl⟩)
  ·rw [if_neg hy0, if_pos trivial]
   obtain ⟨a, b⟩ := fresh h es ys (hF _ hx.1) hy'
   exact ⟨_, _, rfl, by simpa [append1] using a, b, Ext.app _ _ _⟩
 ·obtain ⟨row', g', hrow', hcn, hcs⟩ := hc
  rw [hrow] at hrow'
  obtain ⟨rfl, rfl⟩ : row = row' /\ g = g' := by simpa using hrow'
  have hnlt := (List.getElem?_eq_some_iff.1 hrow).1
  have hrow1 : h[n]? = some (some (.arr sz row g)) := hx.get hrow
  have hnlt1 := (List.getElem?_eq_some_iff.1 hrow1).1
  have hd1 : OwnLL ds (fun m => F m /\ m ≠ n) h ((row.drop off).take ds.length) := OwnLL.mono ds (fun m hm => hm) (hx.keep _) _ hd
  have hy1 : OwnLL es (fun m => F m /\ m ≠ n) h ys := OwnLL.mono es (fun m hm => ⟨hF _ hm, by omega⟩) (fun _ _ _ x => x) _ hy
  have both : OwnLL (ds ++ es) F h ((row.drop off).take ds.length ++ ys) := OwnLL.mono _ (fun m hm => hm.1) (fun _ _ _ x => x) _ (OwnLL_app hd1 hy1)
  simp only [aappendY, hrow1]
  rw [if_pos ⟨trivial, trivial, hle, by rw [hyl]; exact hb⟩]
  cases cap with
  | none =>
   obtain rfl := hcn rfl
   simp only [if_true]
   have both' : OwnLL (ds ++ es) F (h.set n none) (row.take ds.length ++ ys) := by
    have := OwnLL_app hd1 hy1
    rw [List.drop_zero] at this
    exact OwnLL.mono _ (fun m hm => hm.1) (fun m hm x hx => by rw [List.getElem?_set_ne (fun e => hm.2 e.symm)]; exact hx) _ this
   obtain ⟨a, b⟩ := fresh (h.set n none) (ds ++ es) (row.take ds.length ++ ys) (by rw [List.length_set]; exact hF _ hx.1) both'
   exact ⟨_, _, rfl, a, b, (Ext.set none (fun _ => hn)).trans (Ext.app F _ _) (fun _ _ x => x) (fun _ _ x => x)⟩
  | some c =>
   have hc1 := hcl c rfl
   have hc2 := hcs c rfl
   cases c with
   | zero =>
    have h0 : ds.length = 0 := by omega
    have hds : ds = [] := List.eq_nil_of_length_eq_zero h0
    subst hds
    simp only [List.length_nil, if_true]
    by_cases hy0 : ys.length = 0
    ·rw [if_pos hy0]
     have hes : es = [] := List.eq_nil_of_length_eq_zero (by omega)
     subst hes
     refine ⟨_, _, rfl, ?_, ⟨row, g, hrow1, (fun e => by cases e), (fun c hc => by cases hc; omega)⟩, Ext.refl _ _⟩
     simp only [Own]
     exact .inr (.inr ⟨n, off, some 0, row, g, rfl, hn, hrow1, by simpa using hle, (fun c hc => by cases hc; simp), by simp [OwnLL]⟩)
    ·rw [if_neg hy0]
     have hy2 : OwnLL es F h ys := OwnLL.mono es (fun m hm => hm.1) (fun _ _ _ x => x) _ hy1
     obtain ⟨a, b⟩ := fresh h es ys (hF _ hx.1) hy2
     exact ⟨_, _, rfl, by simpa [append1] using a, b, Ext.app _ _ _⟩
   | succ c =>
    simp only
    by_cases hcap : c + 1 < ds.length + ys.length
    ·rw [if_pos hcap]
     obtain ⟨a, b⟩ := fresh h (ds ++ es) _ (hF _ hx.1) both
     exact ⟨_, _, rfl, a, b, Ext.app _ _ _⟩
    ·rw [if_neg hcap, if_pos (by omega)]
     have hsl : (splice row (off + ds.length) ys).length = row.length := by simp [splice]; omega
     refine ⟨_, _, rfl, ?_, ⟨_, g, by rw [List.getElem?_set_self hnlt1], (fun e => by cases e), (fun c' hc' => by cases hc'; rw [hsl]; exact hc2)⟩, Ext.set _ (fun _ => hn)⟩
     simp only [Own]
     refine .inr (.inr ⟨n, off, some (c + 1), splice row (off + ds.length) ys, g, by rw [List.length_append, hyl], hn, by rw [List.getElem?_set_self hnlt1], by rw [hsl, List.length_append]; omega,
      (fun c' hc' => by cases hc'; rw [List.length_append]; omega), ?_⟩)
     have e : ((splice row (off + ds.length) ys).drop off).take (ds ++ es).length = (row.drop off).take ds.length ++ ys := by
      apply List.ext_getElem?
      intro i
      simp only [List.getElem?_take, List.getElem?_drop, List.length_append, splice, List.getElem?_append, List.length_take, List.length_append, List.length_drop]
      rw [show min (off + ds.length) row.length = off + ds.length by omega, show min ds.length (row.length - off) = ds.length by omega]
      by_cases h1 : i < ds.length
      ·rw [if_pos (by omega), if_pos (by omega), if_pos (by omega), if_pos (by omega), if_pos h1]
       simp [h1]
      ·by_cases h2 : i < ds.length + es.length
       ·rw [if_pos h2, if_pos (by omega), if_neg (by omega), if_neg h1]
        congr 1; omega
       ·rw [if_neg h2, if_neg h1, List.getElem?_eq_none (by omega)]
     rw [e]
     refine OwnLL.mono _ (fun m hm => hm) ?_ _ (OwnLL_app hd1 hy1)
     intro m hm x hx
     rw [List.getElem?_set_ne (fun e => hm.2 e.symm)]; exact hx
end Glb
namespace Glb
open Go
open Nat (reduceAdd reduceDiv reduceEqDiff reduceLeDiff reduceMod reducePow)
set_option maxRecDepth 10000
set_option maxHeartbeats 4000000
def byteOf (v : Int) (k : Nat) : Int := IntKind.u8.wrap ((IntKind.u64.wrap v).fdiv (2 ^ (8 * (7 - k))))
def num (v : Int) : List Int := [byteOf v 0, byteOf v 1, byteOf v 2, byteOf v 3, byteOf v 4, byteOf v 5, byteOf v 6, byteOf v 7]
theorem num_length (v : Int) : (num v).length = 8 := rfl
theorem num_get (v : Int) (j : Nat) (hj : j < 8) : (num v)[j]? = some (byteOf v j) := by
 match j, hj with
 | 0, _ => rfl
 | 1, _ => rfl
 | 2, _ => rfl
 | 3, _ => rfl
 | 4, _ => rfl
 | 5, _ => rfl
 | 6, _ => rfl
 | 7, _ => rfl
theorem take_one_more {α : Type} {l : List α} {j : Nat} {x : α} (h : l[j]? = some x) : l.take (j + 1) = l.take j ++ [x] := by
 rw [List.take_add_one, h]; rfl
def NumberOk (P : Program) (f : FuncId) : Prop :=
 isFn P f = true /\ ∀ (lo : Nat) (h : AHeap) (l : List Int) (b : AV) (v : Int), Own (dBytes l) (fun m => lo <= m) h b -> canApp h b -> lo <= h.length -> l.length <= 2^45 ->
  ACalls P f [b, .int .i64 v] h fun r h' => Own (dBytes (l ++ num v)) (fun m => lo <= m) h' r /\ canApp h' r /\ Ext (fun m => lo <= m) h h'
theorem shr_u64 (a b : Int) : abin .shr (.int .u64 a) (.int .i64 b) = ishift .shr .u64 a b := Eq.trans rfl rfl
theorem number_ok {P : Program} {f : FuncId} (hf : Is P f c_pack_number) : NumberOk P f := by
 refine ⟨hf.2, fun lo h l b v hb hc hlo hl => fun_sound hf.1 (Nat.le_of_ble_eq_true rfl) ?_⟩
 show vc P c_pack_number.code ⟨[(0, b), (1, .int .i64 v)], [], h⟩ (atEnd c_pack_number.res _)
 simp only [c_pack_number, go_sem]
 refine vc_loop (fun m L h' => ∃ (j : Nat) (o : AV), lk 0 L = o /\ lk 1 L = .int .i64 v /\ lk 5 L = .int .i64 (7 - (j : Int)) /\ j <= 8 /\ m = 8 - j /\
  Own (dBytes (l ++ (num v).take j)) (fun m => lo <= m) h' o /\ canApp h' o /\ Ext (fun m => lo <= m) h h') 8 ?_ ?_
 ·exact ⟨0, b, by simp [lk_ins, lk_cons], by simp [lk_ins, lk_cons], by simp [lk_ins], by omega, by omega, by simpa using hb, hc, Ext.refl _ _⟩
 ·rintro m L h' ⟨j, o, h0, h1, h5, hj, rfl, ho, hc', he⟩
  simp only [c_pack_number_l0, go_sem, h5]
  refine wCond_split (fun ci => ?_) (fun ci => ?_)
  ·simp at ci
   have e1 : IntKind.i64.wrap (8 * (7 - (j : Int))) = ((8 * (7 - j) : Nat) : Int) := by rw [wrap_i64 (by omega)]; omega
   have e2 : IntKind.i64.wrap (7 - (j : Int) - 1) = 7 - ((j + 1 : Nat) : Int) := by rw [wrap_i64 (by omega)]; omega
   have e3 : ishift .shr .u64 (IntKind.u64.wrap v) ((8 * (7 - j) : Nat) : Int) = some (.int .u64 ((IntKind.u64.wrap v).fdiv (2 ^ (8 * (7 - j))))) := by
    simp only [ishift]
    rw [if_neg (by omega), Int.toNat_natCast, Nat.min_eq_left (by simp [IntKind.bits]; omega)]
   have e4 : IntKind.u8.wrap ((IntKind.u64.wrap v).fdiv (2 ^ (8 * (7 - j)))) = byteOf v j := rfl
   have hln : (l ++ (num v).take j).length = l.length + j := by simp [num_length]; omega
   obtain ⟨o', h2, ha, ho', hc2, he'⟩ := own_app (bytes := 1) (es := [[.int .u8 (byteOf v j)]]) (h := h' ++ [some (.arr 1 [[.int .u8 (byteOf v j)]] false)]) ho hc' (Ext.app _ _ _) (ys := [[.int .u8 (byteOf v j)]])
    (by simp [OwnLL, OwnL, Own]) (Nat.le_trans hlo he.1) (by rw [List.length_map, hln]; simp; omega)
   simp only [go_sem, reduceEqDiff, reduceAdd, h0, h1, h5, e1, e2, shr_u64, e3, e4, aconv_int, aappend_of (aelems_new h' 1 [[.int .u8 (byteOf v j)]] false (some 1) (len := 1) rfl), ha]
   refine ⟨_, ?_, j + 1, o', rfl, rfl, by omega, rfl, ?_, hc2, ?_⟩
   ·omega
   ·rw [take_one_more (num_get v j (by omega)), <- List.append_assoc, dBytes, List.map_append]; exact ho'
   ·exact (he.trans (Ext.app nof h' _) (fun _ _ x => x) (fun _ _ x => x.elim)).trans he' (fun _ _ x => x) (fun m hm hm' => hm')
  ·simp at ci
   simp only [go_sem, reduceEqDiff, h0]
   obtain rfl : j = 8 := by omega
   exact ⟨ho, hc', he⟩
def amks (h : AHeap) (sz bytes : Nat) (zero : List AV) : AV -> AV -> Option (AV × AHeap)
 | .int _ l, .int _ c => if 0 <= l /\ l <= c /\ c * bytes <= 2 ^ 46 then some (.ref h.length sz 0 l.toNat (some c.toNat), h ++ [some (.arr sz (List.replicate c.toNat zero) false)]) else none
 | _, _ => none
theorem hev_mks (g : Opd -> AV) (h : AHeap) (sz bytes : Nat) (zero : List AV) (l c : Opd) : hev g h (.mks sz bytes zero l c) = amks h sz bytes zero (g l) (g c) := by
 simp only [hev, lightOf, amks]
 generalize g l = x
 generalize g c = y
 cases x <;> cases y <;> simp only
 rename_i k l k' c
 by_cases q : 0 <= l /\ l <= c /\ c * (bytes : Int) <= 2 ^ 46
 ·rw [if_pos q, if_pos q]
 ·rw [if_neg q, if_neg q]
theorem amks_int {h : AHeap} {sz bytes : Nat} {zero : List AV} {k k' : IntKind} {l c : Int} (h0 : 0 <= l) (h1 : l <= c) (h2 : c * bytes <= 2 ^ 46) :
  amks h sz bytes zero (.int k l) (.int k' c) = some (.ref h.length sz 0 l.toNat (some c.toNat), h ++ [some (.arr sz (List.replicate c.toNat zero) false)]) := by
 simp only [amks]; rw [if_pos ⟨h0, h1, h2⟩]
theorem own_empty {sz : Nat} (h : AHeap) (c : Nat) (zero : List AV) : Own (.sl sz []) (fun m => h.length <= m) (h ++ [some (.arr sz (List.replicate c zero) false)]) (.ref h.length sz 0 0 (some c)) /\
  canApp (h ++ [some (.arr sz (List.replicate c zero) false)]) (.ref h.length sz 0 0 (some c)) := by
 constructor
 ·simp only [Own]
  exact .inr (.inr ⟨h.length, 0, some c, List.replicate c zero, false, rfl, Nat.le_refl _, bx10 _ _, by simp, (fun d hd => by cases hd; simp), by simp [OwnLL]⟩)
 ·exact ⟨_, false, bx10 _ _, (fun hc => by cases hc), (fun d hd => by cases hd; simp)⟩
theorem own_ints1 {n : IntKind} {F G : Nat -> Prop} {h h' : AHeap} : ∀ {l : List Int} {ys : List (List AV)}, RdLL F h (l.map fun x => [.int n x]) ys -> OwnLL (l.map fun x => [.int n x]) G h' ys := by
 intro l
 induction l with
 | nil => intro ys hh; simpa [RdLL, OwnLL] using hh
 | cons x l ih =>
  intro ys hh
  simp only [List.map_cons, RdLL] at hh
  obtain ⟨e, r, rfl, h1, h2⟩ := hh
  simp only [RdL, Rd] at h1
  obtain ⟨_, _, rfl, rfl, rfl⟩ := h1
  simp only [List.map_cons, OwnLL]
  exact ⟨_, _, rfl, ⟨_, _, rfl, by simp only [Own], rfl⟩, ih h2⟩
def RoomOk (P : Program) (f : FuncId) : Prop :=
 isFn P f = true /\ ∀ (F : Nat -> Prop) (h : AHeap) (l : List Int) (b : AV) (n : Int), Rd F h (dBytes l) b -> l.length <= 2^42 -> 0 <= n /\ n <= 2^42 ->
  ACalls P f [b, .int .i64 n] h fun r h' => Own (dBytes l) (fun m => h.length <= m) h' r /\ canApp h' r /\ Ext nof h h'
theorem room_ok {P : Program} {f : FuncId} (hf : Is P f c_pack_room) : RoomOk P f := by
 refine ⟨hf.2, fun F h l b n hb hl hn => fun_sound hf.1 (Nat.le_of_ble_eq_true rfl) ?_⟩
 show vc P c_pack_room.code ⟨[(0, b), (1, .int .i64 n)], [], h⟩ (atEnd c_pack_room.res _)
 have lb := hb.len
 simp only [List.length_map] at lb
 have e1 : IntKind.i64.wrap ((l.length : Int) + n) = (l.length : Int) + n := wrap_i64 (by omega)
 have hm := amks_int (h := h) (sz := 1) (bytes := 1) (zero := [.int .u8 0]) (k := .i64) (k' := .i64) (l := 0) (c := (l.length : Int) + n) (Int.le_refl 0) (by omega) (by omega)
 have oe := own_empty (sz := 1) h ((l.length : Int) + n).toNat [.int .u8 0]
 obtain ⟨ys, hys, hyr⟩ := (hb.up (Ext.b1 (some (.arr 1 (List.replicate ((l.length : Int) + n).toNat [.int .u8 0]) false)))).elems
 obtain ⟨r, h2, ha, hr, hc, he⟩ := own_app (bytes := 1) oe.1 oe.2 (Ext.refl nof _) (own_ints1 hyr) (by simp) (by simp; omega)
 have ha' := aappend_of hys 1 (.ref h.length 1 0 0 (some ((l.length : Int) + n).toNat))
 rw [ha] at ha'
 simp only [c_pack_room, go_sem, reduceEqDiff, lb, e1, hev_mks, hm, Int.toNat_zero, ha']
 exact ⟨hr, hc, (Ext.b1 _).then he (fun m hm hm' => by omega)⟩
def BlobOk (P : Program) (f : FuncId) : Prop :=
 isFn P f = true /\ ∀ (F : Nat -> Prop) (h : AHeap) (l p : List Int) (b a : AV), Rd F h (dBytes l) b -> Rd F h (dBytes p) a -> l.length <= 2^41 -> p.length <= 2^41 ->
  ACalls P f [b, a] h fun r h' => Own (dBytes (l ++ num p.length ++ p)) (fun m => h.length <= m) h' r /\ canApp h' r /\ Ext nof h h'
theorem pack_Blob_ok {P : Program} {f fr fn : FuncId} (hf : Is P f (c_pack_Blob fr fn)) (hr : RoomOk P fr) (hn : NumberOk P fn) : BlobOk P f := by
 refine ⟨hf.2, fun F h l p b a hb ha hl hp => fun_sound hf.1 (Nat.le_of_ble_eq_true rfl) ?_⟩
 show vc P (c_pack_Blob fr fn).code ⟨[(0, b), (1, a)], [], h⟩ (atEnd (c_pack_Blob fr fn).res _)
 have la := ha.len
 simp only [List.length_map] at la
 have e1 : IntKind.i64.wrap (8 + (p.length : Int)) = 8 + (p.length : Int) := wrap_i64 (by omega)
 simp only [c_pack_Blob, go_sem, reduceEqDiff, la, e1]
 refine wCall_use ⟨hr.1, hr.2 F _ l _ _ hb (by omega) (by omega)⟩ ?_
 rintro r h1 ⟨ro, rc, x1⟩
 simp only [go_sem, reduceEqDiff, la]
 refine wCall_use ⟨hn.1, hn.2 h.length _ l _ _ ro rc x1.1 (by omega)⟩ ?_
 rintro s h2 ⟨so, sc, x2⟩
 have x12 := x1.then x2 (fun m hm hm' => by omega)
 obtain ⟨ys, hys, hyr⟩ := (ha.up x12).elems
 obtain ⟨t, h3, ht, to, tc, x3⟩ := own_app (bytes := 1) so sc (Ext.refl nof _) (own_ints1 hyr) x12.1 (by simp [num_length]; omega)
 have ha' := aappend_of hys 1 s
 rw [ht] at ha'
 simp only [go_sem, reduceEqDiff, ha']
 refine ⟨?_, tc, x12.then x3 (fun m hm hm' => by omega)⟩
 rw [dBytes, List.map_append]; exact to
def nums : List Int -> List Int
 | [] => []
 | x :: r => num x ++ nums r
theorem nums_app : ∀ (a b : List Int), nums (a ++ b) = nums a ++ nums b
 | [], b => rfl
 | x :: r, b => by simp only [List.cons_append, nums, nums_app r b, List.append_assoc]
theorem nums_length : ∀ (a : List Int), (nums a).length = 8 * a.length
 | [] => rfl
 | x :: r => by simp only [nums, List.length_append, num_length, nums_length r, List.length_cons]; omega
def IntsOk (P : Program) (f : FuncId) : Prop :=
 isFn P f = true /\ ∀ (F : Nat -> Prop) (h : AHeap) (l p : List Int) (b a : AV), Rd F h (dBytes l) b -> Rd F h (dInts p) a -> l.length <= 2^38 -> p.length <= 2^38 ->
  ACalls P f [b, a] h fun r h' => Own (dBytes (l ++ num p.length ++ nums p)) (fun m => h.length <= m) h' r /\ canApp h' r /\ Ext nof h h'
theorem pack_Ints_ok {P : Program} {f fr fn : FuncId} (hf : Is P f (c_pack_Ints fr fn)) (hr : RoomOk P fr) (hn : NumberOk P fn) : IntsOk P f := by
 refine ⟨hf.2, fun F h l p b a hb ha hl hp => fun_sound hf.1 (Nat.le_of_ble_eq_true rfl) ?_⟩
 show vc P (c_pack_Ints fr fn).code ⟨[(0, b), (1, a)], [], h⟩ (atEnd (c_pack_Ints fr fn).res _)
 have la := ha.len
 simp only [List.length_map] at la
 have e0 : IntKind.i64.wrap (8 * (p.length : Int)) = 8 * (p.length : Int) := wrap_i64 (by omega)
 have e1 : IntKind.i64.wrap (8 + 8 * (p.length : Int)) = 8 + 8 * (p.length : Int) := wrap_i64 (by omega)
 simp only [c_pack_Ints, go_sem, reduceEqDiff, la, e0, e1]
 refine wCall_use ⟨hr.1, hr.2 F _ l _ _ hb (by omega) (by omega)⟩ ?_
 rintro r h1 ⟨ro, rc, x1⟩
 simp only [go_sem, reduceEqDiff, la]
 refine wCall_use ⟨hn.1, hn.2 h.length _ l _ _ ro rc x1.1 (by omega)⟩ ?_
 rintro s h2 ⟨so, sc, x2⟩
 have x12 := x1.then x2 (fun m hm hm' => by omega)
 simp only [go_sem, reduceEqDiff, la]
 refine vc_loop (fun m L h' => ∃ (i : Nat) (o : AV), lk 17 L = a /\ lk 18 L = .int .i64 p.length /\ lk 5 L = o /\ lk 19 L = .int .i64 i /\ i <= p.length /\ m = p.length - i /\
  Own (dBytes (l ++ num p.length ++ nums (p.take i))) (fun m => h.length <= m) h' o /\ canApp h' o /\ Ext nof h h') p.length ?_ ?_
 ·exact ⟨0, s, by simp [lk_ins], by simp [lk_ins], by simp [lk_ins], by simp [lk_ins], by omega, by omega, by simpa [nums] using so, sc, x12⟩
 ·rintro m L h' ⟨i, o, h17, h18, h5, h19, hi, rfl, ho, hc, he⟩
  simp only [c_pack_Ints_l0, go_sem, h18, h19]
  refine wCond_split (fun ci => ?_) (fun ci => ?_)
  ·simp at ci
   obtain ⟨q, cs, hq, hqc, hcs⟩ := (ha.up he).index .i64 (i := i) (d := [.int .i64 p[i]]) (by omega) (by simp [ci])
   simp only [RdL, Rd] at hcs
   obtain ⟨_, _, rfl, rfl, rfl⟩ := hcs
   have e2 : IntKind.i64.wrap ((i : Int) + 1) = (i : Int) + 1 := wrap_i64 (by omega)
   simp only [go_sem, reduceEqDiff, h17, h5, h19, hq, aload_p hqc]
   refine wCall_use ⟨hn.1, hn.2 h.length _ (l ++ num p.length ++ nums (p.take i)) _ p[i] ho hc he.1 (by simp [num_length, nums_length]; omega)⟩ ?_
   rintro u h3 ⟨uo, uc, x3⟩
   simp only [go_sem, reduceEqDiff, h17, h18, h5, h19, e2]
   refine ⟨_, ?_, i + 1, u, rfl, rfl, ci, rfl, ?_, uc, he.then x3 (fun m hm hm' => by omega)⟩
   ·omega
   ·rw [take_one_more (x := p[i]) (by simp [ci]), nums_app]; simpa [nums] using uo
  ·simp at ci
   simp only [go_sem, reduceEqDiff, h5]
   obtain rfl : i = p.length := by omega
   rw [List.take_length] at ho
   exact ⟨ho, hc, he⟩
end Glb
namespace Glb
open Go
open Nat (reduceAdd reduceDiv reduceEqDiff reduceLeDiff reduceMod reducePow)
set_option maxRecDepth 10000
set_option maxHeartbeats 4000000
theorem wrap_u8 (x : Int) : IntKind.u8.wrap x = x % 256 := by
 simp [IntKind.wrap, IntKind.bits, IntKind.signed]
theorem wrap_u64 (x : Int) : IntKind.u64.wrap x = x % 18446744073709551616 := by
 simp [IntKind.wrap, IntKind.bits, IntKind.signed]
theorem byteOf_low (v : Int) (k : Nat) (hk : k <= 7) : byteOf v (7 - k) = (IntKind.u64.wrap v / 256 ^ k) % 256 := by
 rw [byteOf, wrap_u8, Int.fdiv_eq_ediv_of_nonneg _ (Int.le_of_lt (Int.pow_pos (by decide))), show 7 - (7 - k) = k by omega, Int.pow_mul]
 rfl
structure Conf where
 old : List Int
 new : List Int
 learners : List Int
 deriving DecidableEq
def Conf.c (x : Conf) : List D := [dInts x.old, dInts x.new, dInts x.learners]
def Conf.bytes (x : Conf) : List Int := num x.old.length ++ nums x.old ++ (num x.new.length ++ nums x.new) ++ (num x.learners.length ++ nums x.learners)
def PutConfOk (P : Program) (f : FuncId) : Prop :=
 isFn P f = true /\ ∀ (F : Nat -> Prop) (h : AHeap) (l : List Int) (b : AV) (x : Conf) (a : List AV), Rd F h (dBytes l) b -> RdL F h x.c a -> l.length <= 2^33 -> x.old.length <= 2^33 -> x.new.length <= 2^33 -> x.learners.length <= 2^33 ->
  ACalls P f [b, .agg a] h fun r h' => Own (dBytes (l ++ x.bytes)) (fun m => h.length <= m) h' r /\ canApp h' r /\ Ext nof h h'
theorem image_putConf_ok {P : Program} {f g : FuncId} (hf : Is P f (c_image_putConf g)) (hg : IntsOk P g) : PutConfOk P f := by
 refine ⟨hf.2, fun F h l b x a hb ha hl h1 h2 h3 => fun_sound hf.1 (Nat.le_of_ble_eq_true rfl) ?_⟩
 show vc P (c_image_putConf g).code ⟨[(0, b), (1, .agg a)], [], h⟩ (atEnd (c_image_putConf g).res _)
 simp only [Conf.c, RdL] at ha
 obtain ⟨o, _, rfl, ho, n, _, rfl, hn, e, _, rfl, he, rfl⟩ := ha
 simp only [c_image_putConf, go_sem, reduceEqDiff, reduceAdd, ho.scalar, hn.scalar, he.scalar]
 have A0 := bx10 h (some (.arr 3 [[o, n, e]] false))
 have ho' := ho.up (Ext.b1 (some (.arr 3 [[o, n, e]] false)))
 have hn' := hn.up (Ext.b1 (some (.arr 3 [[o, n, e]] false)))
 have he' := he.up (Ext.b1 (some (.arr 3 [[o, n, e]] false)))
 have hb' := hb.up (Ext.b1 (some (.arr 3 [[o, n, e]] false)))
 refine wCall_use ⟨hg.1, hg.2 F _ l x.old _ _ hb' ho' (by omega) (by omega)⟩ ?_
 rintro r1 g1 ⟨r1o, r1c, x1⟩
 have A1 := x1.get A0
 simp only [go_sem, reduceEqDiff, reducePow, reduceDiv, reduceMod, decide_true, A1]
 refine wCall_use ⟨hg.1, hg.2 (fun _ => True) _ _ x.new _ _ (Own.rd _ (fun _ _ => trivial) _ r1o) (Rd.mono (fun _ _ => trivial) (Keep.lt _ _) _ _ (hn'.up x1)) (by simp [num_length, nums_length]; omega) (by omega)⟩ ?_
 rintro r2 g2 ⟨r2o, r2c, x2⟩
 have A2 := x2.get A1
 simp only [go_sem, reduceEqDiff, reducePow, reduceDiv, reduceMod, decide_true, A2]
 refine wCall_use ⟨hg.1, hg.2 (fun _ => True) _ _ x.learners _ _ (Own.rd _ (fun _ _ => trivial) _ r2o) (Rd.mono (fun _ _ => trivial) (Keep.lt _ _) _ _ ((he'.up x1).up x2)) (by simp [num_length, nums_length]; omega) (by omega)⟩ ?_
 rintro r3 g3 ⟨r3o, r3c, x3⟩
 simp only [go_sem, reduceEqDiff, reducePow, reduceDiv, reduceMod, decide_true, x3.get A2]
 have xx := (((Ext.b1 _).tr x1).tr x2).tr x3
 refine ⟨?_, r3c, xx⟩
 have l12 := ((Ext.b1 _).tr x1).tr x2
 have := Own.mono (F' := fun m => h.length <= m) _ (fun m hm => Nat.le_trans l12.1 hm) (fun _ _ _ x => x) _ r3o
 simpa [Conf.bytes] using this
def ConfBytesOk (P : Program) (f : FuncId) : Prop :=
 isFn P f = true /\ ∀ (F : Nat -> Prop) (h : AHeap) (x : Conf) (a : List AV), RdL F h x.c a -> x.old.length <= 2^33 -> x.new.length <= 2^33 -> x.learners.length <= 2^33 ->
  ACalls P f [.agg a] h fun r h' => Own (dBytes x.bytes) (fun m => h.length <= m) h' r /\ canApp h' r /\ Ext nof h h'
theorem image_PutConf_ok {P : Program} {f g : FuncId} (hf : Is P f (c_image_PutConf g)) (hg : PutConfOk P g) : ConfBytesOk P f := by
 refine ⟨hf.2, fun F h x a ha h1 h2 h3 => fun_sound hf.1 (Nat.le_of_ble_eq_true rfl) ?_⟩
 show vc P (c_image_PutConf g).code ⟨[(0, .agg a)], [], h⟩ (atEnd (c_image_PutConf g).res _)
 have ha' := ha
 simp only [Conf.c, RdL] at ha
 obtain ⟨o, _, rfl, ho, n, _, rfl, hn, e, _, rfl, he, rfl⟩ := ha
 simp only [c_image_PutConf, go_sem, reduceEqDiff, reduceAdd, reduceLeDiff, ho.scalar, hn.scalar, he.scalar]
 refine wCall_use ⟨hg.1, hg.2 F _ [] _ x _ (Rd.nils 1) (ha'.up (Ext.b1 _)) (by simp) h1 h2 h3⟩ ?_
 rintro r h2 ⟨ro, rc, x1⟩
 simp only [go_sem, reduceEqDiff]
 rw [List.nil_append] at ro
 exact ⟨Own.mono _ (fun m hm => by simp at hm; omega) (fun _ _ _ x => x) _ ro, rc, (Ext.b1 _).tr x1⟩
end Glb
namespace Glb
open Go
open Nat (reduceAdd reduceDiv reduceEqDiff reduceLeDiff reduceMod reducePow)
set_option maxRecDepth 10000
set_option maxHeartbeats 4000000
theorem rd_conf {x : Conf} {F : Nat -> Prop} {h : AHeap} {a : List AV} (hh : RdL F h x.c a) : ∃ o n e, a = [o, n, e] /\ Rd F h (dInts x.old) o /\ Rd F h (dInts x.new) n /\ Rd F h (dInts x.learners) e := by
 simp only [Conf.c, RdL] at hh
 obtain ⟨o, _, rfl, ho, n, _, rfl, hn, e, _, rfl, he, rfl⟩ := hh
 exact ⟨o, n, e, rfl, ho, hn, he⟩
structure Hard where
 group : Int
 term : Int
 vote : Int
 log : Log
 conf : Conf
 snap : List Int
 deriving DecidableEq
def Hard.c (x : Hard) : List D := [.int .i64 x.group, .int .i64 x.term, .int .i64 x.vote, .int .i64 x.log.base, .int .i64 x.log.bterm, dEntries x.log.es, dInts x.conf.old, dInts x.conf.new, dInts x.conf.learners, dBytes x.snap]
def Hard.cells (x : Hard) (e o n l s : AV) : List AV := [.int .i64 x.group, .int .i64 x.term, .int .i64 x.vote, .int .i64 x.log.base, .int .i64 x.log.bterm, e, o, n, l, s]
theorem rd_hard {x : Hard} {F : Nat -> Prop} {h : AHeap} {a : List AV} (hh : RdL F h x.c a) : ∃ e o n l s, a = x.cells e o n l s /\ Rd F h (dEntries x.log.es) e /\ Rd F h (dInts x.conf.old) o /\ Rd F h (dInts x.conf.new) n /\ Rd F h (dInts x.conf.learners) l /\ Rd F h (dBytes x.snap) s := by
 simp only [Hard.c, rdL_int] at hh
 obtain ⟨_, rfl, _, rfl, _, rfl, _, rfl, _, rfl, hh⟩ := hh
 simp only [RdL] at hh
 obtain ⟨e, _, rfl, he, o, _, rfl, ho, n, _, rfl, hn, l, _, rfl, hl, s, _, rfl, hs, rfl⟩ := hh
 exact ⟨e, o, n, l, s, rfl, he, ho, hn, hl, hs⟩
theorem conf_rd {x : Conf} {F : Nat -> Prop} {h : AHeap} {o n l : AV} (ho : Rd F h (dInts x.old) o) (hn : Rd F h (dInts x.new) n) (hl : Rd F h (dInts x.learners) l) : RdL F h x.c [o, n, l] := by
 simp only [Conf.c, RdL]
 exact ⟨o, _, rfl, ho, n, _, rfl, hn, l, _, rfl, hl, rfl⟩
end Glb
namespace Glb
open Go
open Nat (reduceAdd reduceDiv reduceEqDiff reduceLeDiff reduceMod reducePow)
set_option maxRecDepth 10000
set_option maxHeartbeats 4000000
def abytes (l : List Int) : AV := (dBytes l).av
def aints (l : List Int) : AV := (dInts l).av
def aentries (l : List Entry) : AV := (dEntries l).av
theorem scalar_abytes (l : List Int) : (abytes l).scalar = true := av_scalar _
theorem scalar_aints (l : List Int) : (aints l).scalar = true := av_scalar _
theorem scalar_aentries (l : List Entry) : (aentries l).scalar = true := av_scalar _
theorem cells_abytes (l : List Int) : (abytes l).cells? = some [abytes l] := cells_of (av_scalar _)
theorem cells_aints (l : List Int) : (aints l).cells? = some [aints l] := cells_of (av_scalar _)
theorem cells_aentries (l : List Entry) : (aentries l).cells? = some [aentries l] := cells_of (av_scalar _)
theorem rd_abytes (F : Nat -> Prop) (h : AHeap) (l : List Int) : Rd F h (dBytes l) (abytes l) := rd_av _ _ _
theorem rd_aints (F : Nat -> Prop) (h : AHeap) (l : List Int) : Rd F h (dInts l) (aints l) := rd_av _ _ _
theorem rd_aentries (F : Nat -> Prop) (h : AHeap) (l : List Entry) : Rd F h (dEntries l) (aentries l) := rd_av _ _ _
theorem len_abytes (l : List Int) : alen (abytes l) = some (.int .i64 l.length) := by simpa using (rd_abytes nof [] l).len
theorem len_aints (l : List Int) : alen (aints l) = some (.int .i64 l.length) := by simpa using (rd_aints nof [] l).len
theorem len_aentries (l : List Entry) : alen (aentries l) = some (.int .i64 l.length) := by simpa using (rd_aentries nof [] l).len
attribute [go_sem] scalar_abytes scalar_aints scalar_aentries cells_abytes cells_aints cells_aentries len_abytes len_aints len_aentries
def Entry.v (e : Entry) : List AV := D.avL e.c
def Log.v (l : Log) : List AV := D.avL l.c
def Conf.v (x : Conf) : List AV := D.avL x.c
def Hard.v (x : Hard) : List AV := D.avL x.c
theorem aentries_eq (l : List Entry) : aentries l = .vals 0 false 3 (l.map Entry.v) := by
 simp only [aentries, dEntries, D.av, avLL_map, List.map_map]
 congr 1
theorem Log.v_eq (l : Log) : l.v = [.int .i64 l.base, .int .i64 l.bterm, aentries l.es] := by simp only [Log.v, Log.c, D.avL, D.av]; rfl
theorem Conf.v_eq (x : Conf) : x.v = [aints x.old, aints x.new, aints x.learners] := by simp only [Conf.v, Conf.c, D.avL]; rfl
theorem Hard.v_eq (x : Hard) : x.v = [.int .i64 x.group, .int .i64 x.term, .int .i64 x.vote, .int .i64 x.log.base, .int .i64 x.log.bterm, aentries x.log.es, aints x.conf.old, aints x.conf.new, aints x.conf.learners, abytes x.snap] := by
 simp only [Hard.v, Hard.c, D.avL, D.av]; rfl
theorem rd_logv (F : Nat -> Prop) (h : AHeap) (l : Log) : RdL F h l.c l.v := rdL_av _ _ _
theorem rd_confv (F : Nat -> Prop) (h : AHeap) (x : Conf) : RdL F h x.c x.v := rdL_av _ _ _
theorem rd_hardv (F : Nat -> Prop) (h : AHeap) (x : Hard) : RdL F h x.c x.v := rdL_av _ _ _
theorem use1 {P : Program} {f : FuncId} {avs : List AV} {r : AV} {h : AHeap} {K : AV -> AHeap -> Prop} (hi : isFn P f = true) (hc : ACalls P f avs h fun r' h' => r' = r /\ h' = h) (hk : K r h) : wCall P f avs h K :=
 wCall_use ⟨hi, hc⟩ fun _ _ ⟨e1, e2⟩ => by subst e1; subst e2; exact hk
def Pure (P : Program) (f : FuncId) (avs : List AV) (r : AV) : Prop := ∀ h, ACalls P f avs h fun r' h' => r' = r /\ h' = h
theorem Pure.use {P : Program} {f : FuncId} {avs : List AV} {r : AV} {h : AHeap} {K : AV -> AHeap -> Prop} (hi : isFn P f = true) (hc : Pure P f avs r) (hk : K r h) : wCall P f avs h K :=
 wCall_use ⟨hi, hc h⟩ fun _ _ ⟨e1, e2⟩ => by subst e1; subst e2; exact hk
theorem pure_d {P : Program} {f : FuncId} {avs : List AV} {d : D} (hc : ∀ h, ACalls P f avs h fun r h' => Own d (fun m => h.length <= m) h' r /\ Ext nof h h') : Pure P f avs d.av :=
 fun h => (hc h).freeze fun _ _ hk => ⟨hk.2, _, Frz.d (Own.fz d (fun _ x => x) _ hk.1), rfl⟩
def Conf.few (x : Conf) (n : Nat) : Prop := x.old.length <= n /\ x.new.length <= n /\ x.learners.length <= n
end Glb
namespace Glb
open Go
open Nat (reduceAdd reduceDiv reduceEqDiff reduceLeDiff reduceMod reducePow)
set_option maxRecDepth 10000
set_option maxHeartbeats 4000000
end Glb
