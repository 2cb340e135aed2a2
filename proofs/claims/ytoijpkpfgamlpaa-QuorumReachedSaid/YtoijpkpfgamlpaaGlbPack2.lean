/-
  Numbers, bytes and lists as bytes: the document's answer.
-/
import Derived.Test.YtoijpkpfgamlpaaGlbPack
import Derived.Test.YtoijpkpfgamlpaaGlbOwnF
set_option linter.unusedSimpArgs false
set_option linter.unusedVariables false
namespace Glb
open Go
set_option maxRecDepth 10000
set_option maxHeartbeats 4000000

theorem wrap_u8 (x : Int) : IntKind.u8.wrap x = x % 256 := by
  simp [IntKind.wrap, IntKind.bits, IntKind.signed]
theorem wrap_u64 (x : Int) : IntKind.u64.wrap x = x % 18446744073709551616 := by
  simp [IntKind.wrap, IntKind.bits, IntKind.signed]

/-- from below -/
theorem byteOf_low (v : Int) (k : Nat) (hk : k ≤ 7) : byteOf v (7 - k) = (IntKind.u64.wrap v / 256 ^ k) % 256 := by
  rw [byteOf, wrap_u8, Int.fdiv_eq_ediv_of_nonneg _ (Int.le_of_lt (Int.pow_pos (by decide))), show 7 - (7 - k) = k by omega, Int.pow_mul]
  rfl

def lows (v : Int) : List Int := [byteOf v 7, byteOf v 6, byteOf v 5, byteOf v 4, byteOf v 3, byteOf v 2, byteOf v 1, byteOf v 0]
theorem lows_get (v : Int) (j : Nat) (hj : j ≤ 7) : (lows v)[j]? = some (byteOf v (7 - j)) := by
  match j, hj with
  | 0, _ => rfl
  | 1, _ => rfl
  | 2, _ => rfl
  | 3, _ => rfl
  | 4, _ => rfl
  | 5, _ => rfl
  | 6, _ => rfl
  | 7, _ => rfl
theorem lows_length (v : Int) : (lows v).length = 8 := rfl

theorem rem_u64 (a b : Int) : abin .rem (.int .u64 a) (.int .u64 b) = if b = 0 then none else some (.int .u64 (a.tmod b)) := Eq.trans rfl rfl
theorem quo_u64 (a b : Int) : abin .quo (.int .u64 a) (.int .u64 b) = if b = 0 then none else some (.int .u64 (IntKind.u64.wrap (a.tdiv b))) := Eq.trans rfl rfl

/-- the byte that comes next, from below, and what is left -/
theorem low_step (v : Int) (k : Nat) (hk : k ≤ 7) : IntKind.u8.wrap ((IntKind.u64.wrap v / 256 ^ k).tmod 256) = byteOf v (7 - k) ∧
    IntKind.u64.wrap ((IntKind.u64.wrap v / 256 ^ k).tdiv 256) = IntKind.u64.wrap v / 256 ^ (k + 1) := by
  have h0 : 0 ≤ IntKind.u64.wrap v := by rw [wrap_u64]; omega
  have h1 : IntKind.u64.wrap v < 18446744073709551616 := by rw [wrap_u64]; omega
  have hp : (0 : Int) < 256 ^ k := Int.pow_pos (by decide)
  generalize hu : IntKind.u64.wrap v = u at *
  have h2 : 0 ≤ u / 256 ^ k := Int.ediv_nonneg h0 (Int.le_of_lt hp)
  have h3 : u / 256 ^ k ≤ u := Int.ediv_le_self _ h0
  constructor
  · rw [byteOf_low v k hk, hu, wrap_u8, Int.tmod_eq_emod_of_nonneg h2]; omega
  · rw [Int.tdiv_eq_ediv_of_nonneg h2, wrap_u64, Int.pow_succ, ← Int.ediv_ediv_of_nonneg (Int.le_of_lt hp)]
    omega

/-- bytes with a number behind them, in new memory -/
def IntOk (P : Program) (f : FuncId) : Prop :=
  isFn P f = true ∧ ∀ (F : Nat → Prop) (h : AHeap) (l : List Int) (b : AV) (v : Int), Rd F h (dBytes l) b → l.length ≤ 2^42 →
    ACalls P f [b, .int .i64 v] h fun r h' => Own (dBytes (l ++ num v)) (fun m => h.length ≤ m) h' r ∧ canApp h' r ∧ Ext nof h h'

theorem gleberef02_Int_ok {P : Program} {f : FuncId} (hf : Is P f c_gleberef02_Int) : IntOk P f := by
  refine ⟨hf.2, fun F h l b v hb hl => fun_sound hf.1 (Nat.le_of_ble_eq_true rfl) ?_⟩
  show vc P c_gleberef02_Int.code ⟨[(0, b), (1, .int .i64 v)], [], h⟩ (atEnd c_gleberef02_Int.res _)
  have lb := hb.len
  simp only [List.length_map] at lb
  have z256 : ∀ {x : Option AV}, (if (256 : Int) = 0 then none else x) = x := fun {x} => if_neg (by decide)
  simp only [c_gleberef02_Int, go_sem, reduceIte, Nat.reduceEqDiff, Nat.reduceAdd, Nat.reduceLeDiff, Nat.reducePow, Nat.reduceDiv, Nat.reduceMod, decide_true, aconv_int]
  refine vc_loop (fun m L h' => ∃ (k : Nat) (o : AV), lk 0 L = b ∧ lk 5 L = o ∧ lk 6 L = .int .u64 (IntKind.u64.wrap v / 256 ^ k) ∧ lk 7 L = .int .i64 k ∧ k ≤ 8 ∧ m = 8 - k ∧
    Own (dBytes ((lows v).take k)) (fun m => h.length ≤ m) h' o ∧ canApp h' o ∧ Ext nof h h') 8 ?_ ?_
  · exact ⟨0, .nils, by simp [lk_ins, lk_cons], by simp [lk_ins, lk_cons], by simp [lk_ins, lk_cons], by simp [lk_ins], by omega, by omega, Own.nils 1, trivial, Ext.refl _ _⟩
  · rintro m L h' ⟨k, o, h0, h5, h6, h7, hk, rfl, ho, hc, he⟩
    simp only [c_gleberef02_Int_l0, go_sem, reduceIte, Nat.reduceEqDiff, Nat.reduceAdd, Nat.reduceLeDiff, Nat.reducePow, Nat.reduceDiv, Nat.reduceMod, decide_true, h0, h5, h6, h7]
    refine wCond_split (fun ci => ?_) (fun ci => ?_)
    · simp at ci
      have st := low_step v k (by omega)
      have e1 : IntKind.i64.wrap ((k : Int) + 1) = (k : Int) + 1 := wrap_i64 (by omega)
      obtain ⟨o', h2, ha, ho', hc2, he'⟩ := own_app (bytes := 1) (es := [[.int .u8 (byteOf v (7 - k))]]) (h := h' ++ [some (.arr 1 [[.int .u8 (byteOf v (7 - k))]] false)]) ho hc (Ext.app _ _ _) (ys := [[.int .u8 (byteOf v (7 - k))]])
        (by simp [OwnLL, OwnL, Own]) he.1 (by rw [List.length_map, List.length_take, lows_length]; simp; omega)
      simp only [go_sem, reduceIte, Nat.reduceEqDiff, Nat.reduceAdd, Nat.reduceLeDiff, Nat.reducePow, Nat.reduceDiv, Nat.reduceMod, decide_true, h0, h5, h6, h7, e1, rem_u64, quo_u64, z256, st.1, st.2, aconv_int, aappend_of (aelems_new h' 1 [[.int .u8 (byteOf v (7 - k))]] false (some 1) (len := 1) rfl), ha]
      refine ⟨_, ?_, k + 1, o', rfl, rfl, rfl, by omega, rfl, ?_, hc2, ?_⟩
      · omega
      · rw [take_one_more (lows_get v k (by omega)), dBytes, List.map_append]; exact ho'
      · exact (he.trans (Ext.app nof h' _) (fun _ _ x => x) (fun _ _ x => x)).trans he' (fun _ _ x => x) (fun m hm hm' => by omega)
    · simp at ci
      obtain rfl : k = 8 := by omega
      have hlow : Own (dBytes (lows v)) (fun m => m < h'.length) h' o := Own.mono _ (fun m hm => hm.2) (fun _ _ _ x => x) _ (Own.lt _ _ ho)
      simp only [go_sem, reduceIte, Nat.reduceEqDiff, Nat.reduceAdd, Nat.reduceLeDiff, Nat.reducePow, Nat.reduceDiv, Nat.reduceMod, decide_true, h0, h5]
      refine vc_loop (fun m L h2 => ∃ (i : Nat) (o2 : AV), lk 0 L = b ∧ lk 5 L = o ∧ lk 8 L = o2 ∧ lk 9 L = .int .i64 i ∧ i ≤ l.length ∧ m = l.length - i ∧
        Own (dBytes (l.take i)) (fun m => h'.length ≤ m) h2 o2 ∧ canApp h2 o2 ∧ Ext nof h' h2) l.length ?_ ?_
      · exact ⟨0, .nils, by simp [lk_ins, lk_cons, h0], by simp [lk_ins, lk_cons, h5], by simp [lk_ins, lk_cons], by simp [lk_ins], by omega, by omega, Own.nils 1, trivial, Ext.refl _ _⟩
      · rintro m L h2 ⟨i, o2, h0, h5, h8, h9, hi, rfl, ho2, hc2, he2⟩
        simp only [c_gleberef02_Int_l1, go_sem, reduceIte, Nat.reduceEqDiff, Nat.reduceAdd, Nat.reduceLeDiff, Nat.reducePow, Nat.reduceDiv, Nat.reduceMod, decide_true, h0, h5, h8, h9, lb]
        refine wCond_split (fun ci => ?_) (fun ci => ?_)
        · simp at ci
          have e1 : IntKind.i64.wrap ((i : Int) + 1) = (i : Int) + 1 := wrap_i64 (by omega)
          obtain ⟨q, cs, hq, hqc, hcs⟩ := (hb.up (he.tr he2)).index .i64 (i := i) (d := [.int .u8 l[i]]) (by omega) (by simp [ci])
          simp only [RdL, Rd] at hcs
          obtain ⟨_, _, rfl, rfl, rfl⟩ := hcs
          obtain ⟨o', h3, ha, ho', hc3, he'⟩ := own_app (bytes := 1) (es := [[.int .u8 l[i]]]) (h := h2 ++ [some (.arr 1 [[.int .u8 l[i]]] false)]) ho2 hc2 (Ext.app _ _ _) (ys := [[.int .u8 l[i]]])
            (by simp [OwnLL, OwnL, Own]) he2.1 (by rw [List.length_map, List.length_take]; simp; omega)
          simp only [go_sem, reduceIte, Nat.reduceEqDiff, Nat.reduceAdd, Nat.reduceLeDiff, Nat.reducePow, Nat.reduceDiv, Nat.reduceMod, decide_true, h0, h5, h8, h9, e1, hq, aload_p hqc, aappend_of (aelems_new h2 1 [[.int .u8 l[i]]] false (some 1) (len := 1) rfl), ha]
          refine ⟨_, ?_, i + 1, o', rfl, rfl, ci, rfl, ?_, hc3, ?_⟩
          · omega
          · rw [take_one_more (x := l[i]) (by simp [ci]), dBytes, List.map_append]; exact ho'
          · exact (he2.trans (Ext.app nof h2 _) (fun _ _ x => x) (fun _ _ x => x)).trans he' (fun _ _ x => x) (fun m hm hm' => by omega)
        · simp at ci
          obtain rfl : i = l.length := by omega
          rw [List.take_length] at ho2
          have hlow2 := hlow.up he2
          simp only [go_sem, reduceIte, Nat.reduceEqDiff, Nat.reduceAdd, Nat.reduceLeDiff, Nat.reducePow, Nat.reduceDiv, Nat.reduceMod, decide_true, h0, h5, h8]
          refine vc_loop (fun m L h3 => ∃ (j : Nat) (o3 : AV), lk 5 L = o ∧ lk 8 L = o3 ∧ lk 10 L = .int .i64 (7 - (j : Int)) ∧ j ≤ 8 ∧ m = 8 - j ∧
            Own (dBytes (l ++ (num v).take j)) (fun m => h'.length ≤ m) h3 o3 ∧ canApp h3 o3 ∧ Ext (fun m => h'.length ≤ m) h2 h3) 8 ?_ ?_
          · exact ⟨0, o2, by simp [lk_ins, lk_cons, h5], by simp [lk_ins, lk_cons, h8], by simp [lk_ins], by omega, by omega, by simpa using ho2, hc2, Ext.refl _ _⟩
          · rintro m L h3 ⟨j, o3, h5, h8, h10, hj, rfl, ho3, hc3, he3⟩
            simp only [c_gleberef02_Int_l2, go_sem, reduceIte, Nat.reduceEqDiff, Nat.reduceAdd, Nat.reduceLeDiff, Nat.reducePow, Nat.reduceDiv, Nat.reduceMod, decide_true, h5, h8, h10]
            refine wCond_split (fun ci => ?_) (fun ci => ?_)
            · simp at ci
              have e1 : IntKind.i64.wrap (7 - (j : Int) - 1) = 7 - ((j + 1 : Nat) : Int) := by rw [wrap_i64 (by omega)]; omega
              have hlow3 : Own (dBytes (lows v)) (fun m => m < h'.length) h3 o := hlow2.mono _ (fun _ x => x) (he3.keepOff (fun m _ hm hn => by omega))
              obtain ⟨q, cs, hq, hqc, hcs⟩ := (Own.rd _ (fun _ x => x) _ hlow3).index .i64 (i := 7 - (j : Int)) (d := [.int .u8 (byteOf v j)]) (by omega)
                (by rw [List.getElem?_map, lows_get v (7 - (j : Int)).toNat (by omega), show 7 - (7 - (j : Int)).toNat = j by omega]; rfl)
              simp only [RdL, Rd] at hcs
              obtain ⟨_, _, rfl, rfl, rfl⟩ := hcs
              obtain ⟨o', h4, ha, ho', hc4, he'⟩ := own_app (bytes := 1) (es := [[.int .u8 (byteOf v j)]]) (h := h3 ++ [some (.arr 1 [[.int .u8 (byteOf v j)]] false)]) ho3 hc3 (Ext.app _ _ _) (ys := [[.int .u8 (byteOf v j)]])
                (by simp [OwnLL, OwnL, Own]) (Nat.le_trans he2.1 he3.1) (by rw [List.length_map, List.length_append, List.length_take, num_length]; simp; omega)
              simp only [go_sem, reduceIte, Nat.reduceEqDiff, Nat.reduceAdd, Nat.reduceLeDiff, Nat.reducePow, Nat.reduceDiv, Nat.reduceMod, decide_true, h5, h8, h10, e1, hq, aload_p hqc, aappend_of (aelems_new h3 1 [[.int .u8 (byteOf v j)]] false (some 1) (len := 1) rfl), ha]
              refine ⟨_, ?_, j + 1, o', rfl, rfl, by omega, rfl, ?_, hc4, ?_⟩
              · omega
              · rw [take_one_more (num_get v j (by omega)), ← List.append_assoc, dBytes, List.map_append]; exact ho'
              · exact (he3.trans (Ext.app nof h3 _) (fun _ _ x => x) (fun _ _ x => x.elim)).trans he' (fun _ _ x => x) (fun m hm hm' => hm')
            · simp at ci
              obtain rfl : j = 8 := by omega
              simp only [go_sem, reduceIte, Nat.reduceEqDiff, Nat.reduceAdd, Nat.reduceLeDiff, Nat.reducePow, Nat.reduceDiv, Nat.reduceMod, decide_true, h8]
              exact ⟨Own.mono _ (fun m hm => Nat.le_trans he.1 hm) (fun _ _ _ x => x) _ ho3, hc3, (he.tr he2).then he3 (fun m hm hm' => by have := he.1; omega)⟩

theorem gleberef02_Blob_ok {P : Program} {f g : FuncId} (hf : Is P f (c_gleberef02_Blob g)) (hg : IntOk P g) : BlobOk P f := by
  refine ⟨hf.2, fun F h l p b a hb ha hl hp => fun_sound hf.1 (Nat.le_of_ble_eq_true rfl) ?_⟩
  show vc P (c_gleberef02_Blob g).code ⟨[(0, b), (1, a)], [], h⟩ (atEnd (c_gleberef02_Blob g).res _)
  have la := ha.len
  simp only [List.length_map] at la
  simp only [c_gleberef02_Blob, go_sem, reduceIte, Nat.reduceEqDiff, Nat.reduceAdd, Nat.reduceLeDiff, Nat.reducePow, Nat.reduceDiv, Nat.reduceMod, decide_true, la]
  refine wCall_use ⟨hg.1, hg.2 F _ l _ _ hb (by omega)⟩ ?_
  rintro r h1 ⟨ro, rc, x1⟩
  simp only [go_sem, reduceIte, Nat.reduceEqDiff, Nat.reduceAdd, Nat.reduceLeDiff, Nat.reducePow, Nat.reduceDiv, Nat.reduceMod, decide_true, la]
  refine vc_loop (fun m L h' => ∃ (i : Nat) (o : AV), lk 1 L = a ∧ lk 5 L = o ∧ lk 6 L = .int .i64 i ∧ i ≤ p.length ∧ m = p.length - i ∧
    Own (dBytes (l ++ num p.length ++ p.take i)) (fun m => h.length ≤ m) h' o ∧ canApp h' o ∧ Ext nof h h') p.length ?_ ?_
  · exact ⟨0, r, by simp [lk_ins, lk_cons], by simp [lk_ins, lk_cons], by simp [lk_ins], by omega, by omega, by simpa using ro, rc, x1⟩
  · rintro m L h' ⟨i, o, h1, h5, h6, hi, rfl, ho, hc, he⟩
    simp only [c_gleberef02_Blob_l0, go_sem, reduceIte, Nat.reduceEqDiff, Nat.reduceAdd, Nat.reduceLeDiff, Nat.reducePow, Nat.reduceDiv, Nat.reduceMod, decide_true, h1, h5, h6, la]
    refine wCond_split (fun ci => ?_) (fun ci => ?_)
    · simp at ci
      have e1 : IntKind.i64.wrap ((i : Int) + 1) = (i : Int) + 1 := wrap_i64 (by omega)
      obtain ⟨q, cs, hq, hqc, hcs⟩ := (ha.up he).index .i64 (i := i) (d := [.int .u8 p[i]]) (by omega) (by simp [ci])
      simp only [RdL, Rd] at hcs
      obtain ⟨_, _, rfl, rfl, rfl⟩ := hcs
      obtain ⟨o', h3, hap, ho', hc3, he'⟩ := own_app (bytes := 1) (es := [[.int .u8 p[i]]]) (h := h' ++ [some (.arr 1 [[.int .u8 p[i]]] false)]) ho hc (Ext.app _ _ _) (ys := [[.int .u8 p[i]]])
        (by simp [OwnLL, OwnL, Own]) he.1 (by simp [num_length]; omega)
      simp only [go_sem, reduceIte, Nat.reduceEqDiff, Nat.reduceAdd, Nat.reduceLeDiff, Nat.reducePow, Nat.reduceDiv, Nat.reduceMod, decide_true, h1, h5, h6, e1, hq, aload_p hqc, aappend_of (aelems_new h' 1 [[.int .u8 p[i]]] false (some 1) (len := 1) rfl), hap]
      refine ⟨_, ?_, i + 1, o', rfl, rfl, ci, rfl, ?_, hc3, ?_⟩
      · omega
      · rw [take_one_more (x := p[i]) (by simp [ci]), ← List.append_assoc, dBytes, List.map_append]; exact ho'
      · exact (he.trans (Ext.app nof h' _) (fun _ _ x => x) (fun _ _ x => x)).trans he' (fun _ _ x => x) (fun m hm hm' => by omega)
    · simp at ci
      simp only [go_sem, reduceIte, Nat.reduceEqDiff, Nat.reduceAdd, Nat.reduceLeDiff, Nat.reducePow, Nat.reduceDiv, Nat.reduceMod, decide_true, h5]
      obtain rfl : i = p.length := by omega
      rw [List.take_length] at ho
      exact ⟨ho, hc, he⟩

theorem gleberef02_Ints_ok {P : Program} {f g : FuncId} (hf : Is P f (c_gleberef02_Ints g)) (hg : IntOk P g) : IntsOk P f := by
  refine ⟨hf.2, fun F h l p b a hb ha hl hp => fun_sound hf.1 (Nat.le_of_ble_eq_true rfl) ?_⟩
  show vc P (c_gleberef02_Ints g).code ⟨[(0, b), (1, a)], [], h⟩ (atEnd (c_gleberef02_Ints g).res _)
  have la := ha.len
  simp only [List.length_map] at la
  simp only [c_gleberef02_Ints, go_sem, reduceIte, Nat.reduceEqDiff, Nat.reduceAdd, Nat.reduceLeDiff, Nat.reducePow, Nat.reduceDiv, Nat.reduceMod, decide_true, la]
  refine wCall_use ⟨hg.1, hg.2 F _ l _ _ hb (by omega)⟩ ?_
  rintro r h1 ⟨ro, rc, x1⟩
  simp only [go_sem, reduceIte, Nat.reduceEqDiff, Nat.reduceAdd, Nat.reduceLeDiff, Nat.reducePow, Nat.reduceDiv, Nat.reduceMod, decide_true, la]
  refine vc_loop (fun m L h' => ∃ (i : Nat) (o : AV), lk 1 L = a ∧ lk 5 L = o ∧ lk 6 L = .int .i64 i ∧ i ≤ p.length ∧ m = p.length - i ∧
    Own (dBytes (l ++ num p.length ++ nums (p.take i))) (fun m => h.length ≤ m) h' o ∧ canApp h' o ∧ Ext nof h h') p.length ?_ ?_
  · exact ⟨0, r, by simp [lk_ins, lk_cons], by simp [lk_ins, lk_cons], by simp [lk_ins], by omega, by omega, by simpa [nums] using ro, rc, x1⟩
  · rintro m L h' ⟨i, o, h1, h5, h6, hi, rfl, ho, hc, he⟩
    simp only [c_gleberef02_Ints_l1, go_sem, reduceIte, Nat.reduceEqDiff, Nat.reduceAdd, Nat.reduceLeDiff, Nat.reducePow, Nat.reduceDiv, Nat.reduceMod, decide_true, h1, h5, h6, la]
    refine wCond_split (fun ci => ?_) (fun ci => ?_)
    · simp at ci
      have e1 : IntKind.i64.wrap ((i : Int) + 1) = (i : Int) + 1 := wrap_i64 (by omega)
      obtain ⟨q, cs, hq, hqc, hcs⟩ := (ha.up he).index .i64 (i := i) (d := [.int .i64 p[i]]) (by omega) (by simp [ci])
      simp only [RdL, Rd] at hcs
      obtain ⟨_, _, rfl, rfl, rfl⟩ := hcs
      simp only [go_sem, reduceIte, Nat.reduceEqDiff, Nat.reduceAdd, Nat.reduceLeDiff, Nat.reducePow, Nat.reduceDiv, Nat.reduceMod, decide_true, h1, h5, h6, hq, aload_p hqc]
      refine wCall_use ⟨hg.1, hg.2 nof _ [] _ p[i] (Rd.nils 1) (by simp)⟩ ?_
      rintro s h2 ⟨so, sc, x2⟩
      rw [List.nil_append] at so
      have so2 : Own (dBytes (num p[i])) (fun m => h'.length ≤ m) h2 s := so
      have ho2 : Own (dBytes (l ++ num p.length ++ nums (p.take i))) (fun m => h.length ≤ m ∧ m < h'.length) h2 o := (Own.lt _ _ ho).up x2
      simp only [go_sem, reduceIte, Nat.reduceEqDiff, Nat.reduceAdd, Nat.reduceLeDiff, Nat.reducePow, Nat.reduceDiv, Nat.reduceMod, decide_true, h1, h5, h6]
      have so3 := Own.lt _ _ so2
      refine vc_loop (fun m L h4 => ∃ (k : Nat) (o4 : AV), lk 1 L = a ∧ lk 6 L = .int .i64 i ∧ lk 7 L = s ∧ lk 5 L = o4 ∧ lk 8 L = .int .i64 k ∧ k ≤ 8 ∧ m = 8 - k ∧
        Own (dBytes (l ++ num p.length ++ nums (p.take i) ++ (num p[i]).take k)) (fun m => (h.length ≤ m ∧ m < h'.length) ∨ h2.length ≤ m) h4 o4 ∧ canApp h4 o4 ∧ Ext (fun m => (h.length ≤ m ∧ m < h'.length) ∨ h2.length ≤ m) h2 h4) 8 ?_ ?_
      · exact ⟨0, o, by simp [lk_ins, lk_cons, h1], by simp [lk_ins, lk_cons, h6], by simp [lk_ins, lk_cons], by simp [lk_ins, lk_cons, h5], by simp [lk_ins], by omega, by omega,
          by simpa using Own.mono _ (fun m hm => .inl hm) (fun _ _ _ x => x) _ ho2, hc.keep ho (x2.keep _), Ext.refl _ _⟩
      · rintro m L h4 ⟨k, o4, h1, h6, h7, h5, h8, hk, rfl, ho4, hc4, he4⟩
        simp only [c_gleberef02_Ints_l0, go_sem, reduceIte, Nat.reduceEqDiff, Nat.reduceAdd, Nat.reduceLeDiff, Nat.reducePow, Nat.reduceDiv, Nat.reduceMod, decide_true, h1, h5, h6, h7, h8]
        refine wCond_split (fun ck => ?_) (fun ck => ?_)
        · simp at ck
          have e2 : IntKind.i64.wrap ((k : Int) + 1) = (k : Int) + 1 := wrap_i64 (by omega)
          have s4 := so3.mono (F' := fun m => h'.length ≤ m ∧ m < h2.length) _ (fun _ x => x) (he4.keepOff (fun m _ hm hn => by omega))
          obtain ⟨q', cs', hq', hqc', hcs'⟩ := (Own.rd _ (fun _ x => x) _ s4).index .i64 (i := (k : Int)) (d := [.int .u8 (byteOf p[i] k)]) (by omega) (by rw [List.getElem?_map, Int.toNat_natCast, num_get p[i] k (by omega)]; rfl)
          simp only [RdL, Rd] at hcs'
          obtain ⟨_, _, rfl, rfl, rfl⟩ := hcs'
          obtain ⟨o', h5', hap, ho', hc5, he'⟩ := own_appF (bytes := 1) (es := [[.int .u8 (byteOf p[i] k)]]) (h := h4 ++ [some (.arr 1 [[.int .u8 (byteOf p[i] k)]] false)]) ho4 hc4 (Ext.app _ _ _) (ys := [[.int .u8 (byteOf p[i] k)]])
            (by simp [OwnLL, OwnL, Own]) (fun m hm => .inr (Nat.le_trans he4.1 hm)) (by simp [num_length, nums_length]; omega)
          simp only [go_sem, reduceIte, Nat.reduceEqDiff, Nat.reduceAdd, Nat.reduceLeDiff, Nat.reducePow, Nat.reduceDiv, Nat.reduceMod, decide_true, h1, h5, h6, h7, h8, e2, hq', aload_p hqc', aappend_of (aelems_new h4 1 [[.int .u8 (byteOf p[i] k)]] false (some 1) (len := 1) rfl), hap]
          refine ⟨_, ?_, k + 1, o', rfl, rfl, by omega, rfl, ?_, hc5, ?_⟩
          · omega
          · rw [take_one_more (num_get p[i] k (by omega)), ← List.append_assoc, dBytes, List.map_append]; exact ho'
          · exact (he4.trans (Ext.app nof h4 _) (fun _ _ x => x) (fun _ _ x => x.elim)).trans he' (fun _ _ x => x) (fun m hm hm' => hm')
        · simp at ck
          obtain rfl : k = 8 := by omega
          simp only [go_sem, reduceIte, Nat.reduceEqDiff, Nat.reduceAdd, Nat.reduceLeDiff, Nat.reducePow, Nat.reduceDiv, Nat.reduceMod, decide_true, h1, h5, h6, e1]
          refine ⟨_, ?_, i + 1, o4, rfl, rfl, ci, rfl, ?_, hc4, ?_⟩
          · omega
          · rw [take_one_more (x := p[i]) (by simp [ci]), nums_app]
            have := Own.mono (F' := fun m => h.length ≤ m) _ (fun m hm => by have := he.1; have := x2.1; omega) (fun _ _ _ x => x) _ ho4
            rw [show (num p[i]).take 8 = num p[i] from rfl] at this
            simpa [nums] using this
          · exact (he.tr x2).then he4 (fun m hm hm' => by have := he.1; have := x2.1; omega)
    · simp at ci
      simp only [go_sem, reduceIte, Nat.reduceEqDiff, Nat.reduceAdd, Nat.reduceLeDiff, Nat.reducePow, Nat.reduceDiv, Nat.reduceMod, decide_true, h5]
      obtain rfl : i = p.length := by omega
      rw [List.take_length] at ho
      exact ⟨ho, hc, he⟩

structure Conf where
  old : List Int
  new : List Int
  learners : List Int
  deriving DecidableEq

def Conf.c (x : Conf) : List D := [dInts x.old, dInts x.new, dInts x.learners]
/-- members as bytes -/
def Conf.bytes (x : Conf) : List Int := num x.old.length ++ nums x.old ++ (num x.new.length ++ nums x.new) ++ (num x.learners.length ++ nums x.learners)

def PutConfOk (P : Program) (f : FuncId) : Prop :=
  isFn P f = true ∧ ∀ (F : Nat → Prop) (h : AHeap) (l : List Int) (b : AV) (x : Conf) (a : List AV), Rd F h (dBytes l) b → RdL F h x.c a → l.length ≤ 2^33 → x.old.length ≤ 2^33 → x.new.length ≤ 2^33 → x.learners.length ≤ 2^33 →
    ACalls P f [b, .agg a] h fun r h' => Own (dBytes (l ++ x.bytes)) (fun m => h.length ≤ m) h' r ∧ canApp h' r ∧ Ext nof h h'

theorem image_putConf_ok {P : Program} {f g : FuncId} (hf : Is P f (c_image_putConf g)) (hg : IntsOk P g) : PutConfOk P f := by
  refine ⟨hf.2, fun F h l b x a hb ha hl h1 h2 h3 => fun_sound hf.1 (Nat.le_of_ble_eq_true rfl) ?_⟩
  show vc P (c_image_putConf g).code ⟨[(0, b), (1, .agg a)], [], h⟩ (atEnd (c_image_putConf g).res _)
  simp only [Conf.c, RdL] at ha
  obtain ⟨o, _, rfl, ho, n, _, rfl, hn, e, _, rfl, he, rfl⟩ := ha
  simp only [c_image_putConf, go_sem, reduceIte, Nat.reduceEqDiff, Nat.reduceAdd, Nat.reduceLeDiff, Nat.reducePow, Nat.reduceDiv, Nat.reduceMod, decide_true, ho.scalar, hn.scalar, he.scalar]
  have A0 := bx10 h (some (.arr 3 [[o, n, e]] false))
  have ho' := ho.up (Ext.b1 (some (.arr 3 [[o, n, e]] false)))
  have hn' := hn.up (Ext.b1 (some (.arr 3 [[o, n, e]] false)))
  have he' := he.up (Ext.b1 (some (.arr 3 [[o, n, e]] false)))
  have hb' := hb.up (Ext.b1 (some (.arr 3 [[o, n, e]] false)))
  refine wCall_use ⟨hg.1, hg.2 F _ l x.old _ _ hb' ho' (by omega) (by omega)⟩ ?_
  rintro r1 g1 ⟨r1o, r1c, x1⟩
  have A1 := x1.get A0
  simp only [go_sem, reduceIte, Nat.reduceEqDiff, Nat.reduceAdd, Nat.reduceLeDiff, Nat.reducePow, Nat.reduceDiv, Nat.reduceMod, decide_true, A0, A1]
  refine wCall_use ⟨hg.1, hg.2 (fun _ => True) _ _ x.new _ _ (Own.rd _ (fun _ _ => trivial) _ r1o) (Rd.mono (fun _ _ => trivial) (Keep.lt _ _) _ _ (hn'.up x1)) (by simp [num_length, nums_length]; omega) (by omega)⟩ ?_
  rintro r2 g2 ⟨r2o, r2c, x2⟩
  have A2 := x2.get A1
  simp only [go_sem, reduceIte, Nat.reduceEqDiff, Nat.reduceAdd, Nat.reduceLeDiff, Nat.reducePow, Nat.reduceDiv, Nat.reduceMod, decide_true, A1, A2]
  refine wCall_use ⟨hg.1, hg.2 (fun _ => True) _ _ x.learners _ _ (Own.rd _ (fun _ _ => trivial) _ r2o) (Rd.mono (fun _ _ => trivial) (Keep.lt _ _) _ _ ((he'.up x1).up x2)) (by simp [num_length, nums_length]; omega) (by omega)⟩ ?_
  rintro r3 g3 ⟨r3o, r3c, x3⟩
  simp only [go_sem, reduceIte, Nat.reduceEqDiff, Nat.reduceAdd, Nat.reduceLeDiff, Nat.reducePow, Nat.reduceDiv, Nat.reduceMod, decide_true, A2, x3.get A2]
  have xx := (((Ext.b1 _).tr x1).tr x2).tr x3
  refine ⟨?_, r3c, xx⟩
  have l12 := ((Ext.b1 _).tr x1).tr x2
  have := Own.mono (F' := fun m => h.length ≤ m) _ (fun m hm => Nat.le_trans l12.1 hm) (fun _ _ _ x => x) _ r3o
  simpa [Conf.bytes] using this
theorem gleberef13_putConf_ok {P : Program} {f g : FuncId} (hf : Is P f (c_gleberef13_putConf g)) (hg : IntsOk P g) : PutConfOk P f := by
  refine ⟨hf.2, fun F h l b x a hb ha hl h1 h2 h3 => fun_sound hf.1 (Nat.le_of_ble_eq_true rfl) ?_⟩
  show vc P (c_gleberef13_putConf g).code ⟨[(0, b), (1, .agg a)], [], h⟩ (atEnd (c_gleberef13_putConf g).res _)
  simp only [Conf.c, RdL] at ha
  obtain ⟨o, _, rfl, ho, n, _, rfl, hn, e, _, rfl, he, rfl⟩ := ha
  simp only [c_gleberef13_putConf, go_sem, reduceIte, Nat.reduceEqDiff, Nat.reduceAdd, Nat.reduceLeDiff, Nat.reducePow, Nat.reduceDiv, Nat.reduceMod, decide_true, ho.scalar, hn.scalar, he.scalar]
  have A0 := bx10 h (some (.arr 3 [[o, n, e]] false))
  have ho' := ho.up (Ext.b1 (some (.arr 3 [[o, n, e]] false)))
  have hn' := hn.up (Ext.b1 (some (.arr 3 [[o, n, e]] false)))
  have he' := he.up (Ext.b1 (some (.arr 3 [[o, n, e]] false)))
  have hb' := hb.up (Ext.b1 (some (.arr 3 [[o, n, e]] false)))
  refine wCall_use ⟨hg.1, hg.2 F _ l x.old _ _ hb' ho' (by omega) (by omega)⟩ ?_
  rintro r1 g1 ⟨r1o, r1c, x1⟩
  have A1 := x1.get A0
  simp only [go_sem, reduceIte, Nat.reduceEqDiff, Nat.reduceAdd, Nat.reduceLeDiff, Nat.reducePow, Nat.reduceDiv, Nat.reduceMod, decide_true, A0, A1]
  refine wCall_use ⟨hg.1, hg.2 (fun _ => True) _ _ x.new _ _ (Own.rd _ (fun _ _ => trivial) _ r1o) (Rd.mono (fun _ _ => trivial) (Keep.lt _ _) _ _ (hn'.up x1)) (by simp [num_length, nums_length]; omega) (by omega)⟩ ?_
  rintro r2 g2 ⟨r2o, r2c, x2⟩
  have A2 := x2.get A1
  simp only [go_sem, reduceIte, Nat.reduceEqDiff, Nat.reduceAdd, Nat.reduceLeDiff, Nat.reducePow, Nat.reduceDiv, Nat.reduceMod, decide_true, A1, A2]
  refine wCall_use ⟨hg.1, hg.2 (fun _ => True) _ _ x.learners _ _ (Own.rd _ (fun _ _ => trivial) _ r2o) (Rd.mono (fun _ _ => trivial) (Keep.lt _ _) _ _ ((he'.up x1).up x2)) (by simp [num_length, nums_length]; omega) (by omega)⟩ ?_
  rintro r3 g3 ⟨r3o, r3c, x3⟩
  simp only [go_sem, reduceIte, Nat.reduceEqDiff, Nat.reduceAdd, Nat.reduceLeDiff, Nat.reducePow, Nat.reduceDiv, Nat.reduceMod, decide_true, A2, x3.get A2]
  have xx := (((Ext.b1 _).tr x1).tr x2).tr x3
  refine ⟨?_, r3c, xx⟩
  have l12 := ((Ext.b1 _).tr x1).tr x2
  have := Own.mono (F' := fun m => h.length ≤ m) _ (fun m hm => Nat.le_trans l12.1 hm) (fun _ _ _ x => x) _ r3o
  simpa [Conf.bytes] using this

def ConfBytesOk (P : Program) (f : FuncId) : Prop :=
  isFn P f = true ∧ ∀ (F : Nat → Prop) (h : AHeap) (x : Conf) (a : List AV), RdL F h x.c a → x.old.length ≤ 2^33 → x.new.length ≤ 2^33 → x.learners.length ≤ 2^33 →
    ACalls P f [.agg a] h fun r h' => Own (dBytes x.bytes) (fun m => h.length ≤ m) h' r ∧ canApp h' r ∧ Ext nof h h'

theorem image_PutConf_ok {P : Program} {f g : FuncId} (hf : Is P f (c_image_PutConf g)) (hg : PutConfOk P g) : ConfBytesOk P f := by
  refine ⟨hf.2, fun F h x a ha h1 h2 h3 => fun_sound hf.1 (Nat.le_of_ble_eq_true rfl) ?_⟩
  show vc P (c_image_PutConf g).code ⟨[(0, .agg a)], [], h⟩ (atEnd (c_image_PutConf g).res _)
  have ha' := ha
  simp only [Conf.c, RdL] at ha
  obtain ⟨o, _, rfl, ho, n, _, rfl, hn, e, _, rfl, he, rfl⟩ := ha
  simp only [c_image_PutConf, go_sem, reduceIte, Nat.reduceEqDiff, Nat.reduceAdd, Nat.reduceLeDiff, Nat.reducePow, Nat.reduceDiv, Nat.reduceMod, decide_true, ho.scalar, hn.scalar, he.scalar]
  refine wCall_use ⟨hg.1, hg.2 F _ [] _ x _ (Rd.nils 1) (ha'.up (Ext.b1 _)) (by simp) h1 h2 h3⟩ ?_
  rintro r h2 ⟨ro, rc, x1⟩
  simp only [go_sem, reduceIte, Nat.reduceEqDiff, Nat.reduceAdd, Nat.reduceLeDiff, Nat.reducePow, Nat.reduceDiv, Nat.reduceMod, decide_true]
  rw [List.nil_append] at ro
  exact ⟨Own.mono _ (fun m hm => by simp at hm; omega) (fun _ _ _ x => x) _ ro, rc, (Ext.b1 _).tr x1⟩
theorem gleberef13_PutConf_ok {P : Program} {f g : FuncId} (hf : Is P f (c_gleberef13_PutConf g)) (hg : PutConfOk P g) : ConfBytesOk P f := by
  refine ⟨hf.2, fun F h x a ha h1 h2 h3 => fun_sound hf.1 (Nat.le_of_ble_eq_true rfl) ?_⟩
  show vc P (c_gleberef13_PutConf g).code ⟨[(0, .agg a)], [], h⟩ (atEnd (c_gleberef13_PutConf g).res _)
  have ha' := ha
  simp only [Conf.c, RdL] at ha
  obtain ⟨o, _, rfl, ho, n, _, rfl, hn, e, _, rfl, he, rfl⟩ := ha
  simp only [c_gleberef13_PutConf, go_sem, reduceIte, Nat.reduceEqDiff, Nat.reduceAdd, Nat.reduceLeDiff, Nat.reducePow, Nat.reduceDiv, Nat.reduceMod, decide_true, ho.scalar, hn.scalar, he.scalar]
  refine wCall_use ⟨hg.1, hg.2 F _ [] _ x _ (Rd.nils 1) (ha'.up (Ext.b1 _)) (by simp) h1 h2 h3⟩ ?_
  rintro r h2 ⟨ro, rc, x1⟩
  simp only [go_sem, reduceIte, Nat.reduceEqDiff, Nat.reduceAdd, Nat.reduceLeDiff, Nat.reducePow, Nat.reduceDiv, Nat.reduceMod, decide_true]
  rw [List.nil_append] at ro
  exact ⟨Own.mono _ (fun m hm => by simp at hm; omega) (fun _ _ _ x => x) _ ro, rc, (Ext.b1 _).tr x1⟩

end Glb
