/-
  A library of its own: its parts, one behind the other.
-/
import Derived.Test.YtoijpkpfgamlpaaGlbQuoC
import Derived.Test.YtoijpkpfgamlpaaGlbMorA
set_option linter.unusedSimpArgs false
set_option linter.unusedVariables false
/-
  The chapter's examples on members: the statement without arguments.
-/
namespace Glb
open Go
set_option maxRecDepth 10000
set_option maxHeartbeats 1000000

/-- the members that it goes through -/
def known10 : List Conf := [⟨[], [], []⟩, ⟨[1, 2, 3], [], []⟩, ⟨[1, 2, 3], [3, 4], []⟩, ⟨[1, 2, 3, 4], [], []⟩, ⟨[2, 1], [], []⟩, ⟨[8], [], []⟩, ⟨[0], [], []⟩, ⟨[1], [], [1]⟩, ⟨[1], [2], [2]⟩, ⟨[7], [1, 1], []⟩, ⟨[], [1], []⟩, ⟨[1, 2, 3, 4, 5, 6, 7], [], []⟩, ⟨[3, 3, 3, 1], [], []⟩]
/-- how they lie -/
def heap10 : AHeap := [some (.arr 1 [[.int .i64 1], [.int .i64 2], [.int .i64 3]] false),
  some (.arr 1 [[.int .i64 1], [.int .i64 2], [.int .i64 3]] false),
  some (.arr 1 [[.int .i64 3], [.int .i64 4]] false),
  some (.arr 1 [[.int .i64 1], [.int .i64 2], [.int .i64 3], [.int .i64 4]] false),
  some (.arr 1 [[.int .i64 2], [.int .i64 1]] false),
  some (.arr 1 [[.int .i64 8]] false),
  some (.arr 1 [[.int .i64 0]] false),
  some (.arr 1 [[.int .i64 1]] false),
  some (.arr 1 [[.int .i64 1]] false),
  some (.arr 1 [[.int .i64 1]] false),
  some (.arr 1 [[.int .i64 2]] false),
  some (.arr 1 [[.int .i64 2]] false),
  some (.arr 1 [[.int .i64 7]] false),
  some (.arr 1 [[.int .i64 1], [.int .i64 1]] false),
  some (.arr 1 [[.int .i64 1]] false),
  some (.arr 1 [[.int .i64 1], [.int .i64 2], [.int .i64 3], [.int .i64 4], [.int .i64 5], [.int .i64 6], [.int .i64 7]] false),
  some (.arr 1 [] false),
  some (.arr 1 [[.int .i64 3], [.int .i64 3], [.int .i64 3], [.int .i64 1]] false),
  some (.arr 3 [[.nils, .nils, .nils], [.ref 0 1 0 3 (some 3), .nils, .nils], [.ref 1 1 0 3 (some 3), .ref 2 1 0 2 (some 2), .nils], [.ref 3 1 0 4 (some 4), .nils, .nils], [.ref 4 1 0 2 (some 2), .nils, .nils], [.ref 5 1 0 1 (some 1), .nils, .nils], [.ref 6 1 0 1 (some 1), .nils, .nils], [.ref 7 1 0 1 (some 1), .nils, .ref 8 1 0 1 (some 1)], [.ref 9 1 0 1 (some 1), .ref 10 1 0 1 (some 1), .ref 11 1 0 1 (some 1)], [.ref 12 1 0 1 (some 1), .ref 13 1 0 2 (some 2), .nils], [.nils, .ref 14 1 0 1 (some 1), .nils], [.ref 15 1 0 7 (some 7), .nils, .ref 16 1 0 0 (some 0)], [.ref 17 1 0 4 (some 4), .nils, .nils]] false)]
def dConfs (l : List Conf) : D := .sl 3 (l.map Conf.c)
theorem read10 : Rd (fun _ => True) heap10 (dConfs known10) (.ref 18 3 0 13 (some 13)) := rdB_rd _ _ _ (by rfl)

def TellsL (P : Program) (f : FuncId) : Prop := isFn P f = true ∧ ∀ (x : Conf) (y : List Int), ACalls P f [.agg x.v, aints y] [] fun r _ => r = .bool true
def TwoL (P : Program) (f : FuncId) : Prop := isFn P f = true ∧ ∀ (x : Conf) (y z : List Int), ACalls P f [.agg x.v, aints y, aints z] [] fun r _ => r = .bool true
def ReachL (P : Program) (f : FuncId) : Prop := isFn P f = true ∧ ∀ (x : Conf) (y z : List Int) (i j : Int), ACalls P f [.agg x.v, aints y, aints z, .int .i64 i, .int .i64 j] [] fun r _ => r = .bool true

theorem TellsL.use {P : Program} {f : FuncId} (hf : TellsL P f) {F G : Nat → Prop} {h : AHeap} {x : Conf} {y : List Int} {a : List AV} {b : AV} {K : AV → AHeap → Prop} (ha : RdL F h x.c a) (hb : Rd G h (dInts y) b) (hk : K (.bool true) h) : wCall P f [.agg a, b] h K :=
  wCall_use ⟨hf.1, law_gen (hf.2 x y) (AsL.agg ha (AsL.d hb AsL.nil))⟩ fun _ _ ⟨e1, e2⟩ => by subst e1; subst e2; exact hk
theorem TwoL.use {P : Program} {f : FuncId} (hf : TwoL P f) {F G H : Nat → Prop} {h : AHeap} {x : Conf} {y z : List Int} {a : List AV} {b c : AV} {K : AV → AHeap → Prop} (ha : RdL F h x.c a) (hb : Rd G h (dInts y) b) (hc : Rd H h (dInts z) c) (hk : K (.bool true) h) : wCall P f [.agg a, b, c] h K :=
  wCall_use ⟨hf.1, law_gen (hf.2 x y z) (AsL.agg ha (AsL.d hb (AsL.d hc AsL.nil)))⟩ fun _ _ ⟨e1, e2⟩ => by subst e1; subst e2; exact hk
theorem ReachL.use {P : Program} {f : FuncId} (hf : ReachL P f) {F G H : Nat → Prop} {h : AHeap} {x : Conf} {y z : List Int} {i j : Int} {a : List AV} {b c : AV} {K : AV → AHeap → Prop} (ha : RdL F h x.c a) (hb : Rd G h (dInts y) b) (hc : Rd H h (dInts z) c) (hk : K (.bool true) h) : wCall P f [.agg a, b, c, .int .i64 i, .int .i64 j] h K :=
  wCall_use ⟨hf.1, law_gen (hf.2 x y z i j) (AsL.agg ha (AsL.d hb (AsL.d hc (AsL.int _ _ (AsL.int _ _ AsL.nil)))))⟩ fun _ _ ⟨e1, e2⟩ => by subst e1; subst e2; exact hk

theorem rd_new {H : AHeap} {l : List Int} {g : Bool} {n k : Nat} (hk : k = H.length) (hn : n = l.length) {es : List (List AV)} (he : es = l.map fun n => [.int .i64 n]) : Rd (fun _ => True) (H ++ [some (.arr 1 es g)]) (dInts l) (.ref k 1 0 n (some n)) := by
  subst he; subst hn; subst hk
  simp only [dInts, Rd]
  exact ⟨_, .inr (.inr ⟨H.length, 0, l.length, _, _, g, rfl, trivial, bx10 _ _, by simp, (fun c hc => by cases hc; omega), rfl⟩), by rw [List.drop_zero, List.take_of_length_le (by simp)]; exact OwnLL.rd (F := fun _ => True) _ (fun _ x => x) _ (ownLL_ints .i64 _ _ l)⟩

theorem len2 (h : AHeap) (x y : Option ABlk) : (h ++ [x] ++ [y]).length = h.length + 1 + 1 := by simp
theorem pcellsUp {h h' : AHeap} {p : AV} {cs : List AV} (hp : pcells h p = some cs) (e : Ext nof h h') : pcells h' p = some cs := pup hp e

theorem known10_ok {P : Program} {f ft fm fe fa fr fw : FuncId} (hf : Is P f (c_glebelaw10_QuorumKnown ft fm fe fa fr fw)) (ht : TellsL P ft) (hm : TwoL P fm) (he : TwoL P fe) (ha : TwoL P fa) (hr : ReachL P fr) (hw : YesOk P fw) :
    ACalls P f [] [] fun r _ => r = .bool true := by
  refine fun_sound hf.1 (Nat.le_of_ble_eq_true rfl) ?_
  show vc P (c_glebelaw10_QuorumKnown ft fm fe fa fr fw).code ⟨[], [], []⟩ (atEnd (c_glebelaw10_QuorumKnown ft fm fe fa fr fw).res _)
  have yes : ∀ {h : AHeap} {K : AV → AHeap → Prop}, K (.bool true) h → wCall P fw [] h K := fun hK => wCall_use ⟨hw.1, hw.2 _⟩ (by rintro _ _ ⟨rfl, rfl⟩; exact hK)
  simp only [c_glebelaw10_QuorumKnown, go_sem, reduceIte, Nat.reduceEqDiff, Nat.reduceAdd, Nat.reduceLeDiff, Nat.reducePow, Nat.reduceDiv, Nat.reduceMod, decide_true, List.length_nil, Nat.zero_add, List.nil_append, List.cons_append, List.length_cons]
  refine vc_loop (fun m L h' => ∃ i : Nat, lk 1 L = .ref 18 3 0 13 (some 13) ∧ lk 2 L = .int .i64 i ∧ Ext nof heap10 h' ∧ i ≤ 13 ∧ m = 13 - i) 13 ?_ ?_
  · exact ⟨0, by simp [lk_ins, lk_cons], by simp [lk_ins], Ext.refl _ _, by omega, by omega⟩
  · rintro m L h1 ⟨i, k1, k2, hE, hi, rfl⟩
    have la : alen (.ref 18 3 0 13 (some 13)) = some (.int .i64 13) := rfl
    simp only [c_glebelaw10_QuorumKnown_l3, go_sem, reduceIte, Nat.reduceEqDiff, Nat.reduceAdd, Nat.reduceLeDiff, Nat.reducePow, Nat.reduceDiv, Nat.reduceMod, decide_true, k1, k2, la]
    refine wCond_split (fun ci => ?_) (fun ci => ?_)
    rotate_left
    · simp only [go_sem, reduceIte, Nat.reduceEqDiff, Nat.reduceAdd, Nat.reduceLeDiff, Nat.reducePow, Nat.reduceDiv, Nat.reduceMod, decide_true]
      refine yes ?_
      simp only [go_sem, reduceIte, Nat.reduceEqDiff, Nat.reduceAdd, Nat.reduceLeDiff, Nat.reducePow, Nat.reduceDiv, Nat.reduceMod, decide_true]
    simp at ci
    have hci : i < known10.length := by simp only [known10, List.length_cons, List.length_nil]; omega
    have e1 : IntKind.i64.wrap (↑i + 1) = (i : Int) + 1 := wrap_i64 (by omega)
    have conf : ∀ {h' : AHeap}, Ext nof heap10 h' → ∃ p cs, aindex 3 (.ref 18 3 0 13 (some 13)) (.int .i64 i) = some p ∧ (∀ {h2}, Ext nof h' h2 → aload h2 true 3 p = some (.agg cs)) ∧ RdL (fun _ => True) h' known10[i].c cs ∧ notRes h'.length 3 p = true := fun {h'} hE => by
      obtain ⟨p, cs, hp, hpc, hcs⟩ := (read10.up hE).index .i64 (i := i) (d := known10[i].c) (by omega) (by simp [hci])
      obtain ⟨o, n, e, rfl, _⟩ := rd_conf hcs
      exact ⟨p, _, hp, fun e => by rw [aload_p (pup hpc e)]; rfl, hcs, notRes_of0 hpc 3⟩
    simp only [go_sem, reduceIte, Nat.reduceEqDiff, Nat.reduceAdd, Nat.reduceLeDiff, Nat.reducePow, Nat.reduceDiv, Nat.reduceMod, decide_true, k1, k2]
    refine vc_loop (fun m L h' => ∃ q : Nat, lk 1 L = .ref 18 3 0 13 (some 13) ∧ lk 2 L = .int .i64 i ∧ lk 3 L = .int .i64 q ∧ Ext nof heap10 h' ∧ q ≤ 128 ∧ m = 128 - q) 128 ?_ ?_
    · exact ⟨0, by simp [lk_ins, lk_cons, k1], by simp [lk_ins, lk_cons, k2], by simp [lk_ins], hE, by omega, by omega⟩
    · rintro m L h2 ⟨q, k1, k2, k3, hE, hq, rfl⟩
      simp only [c_glebelaw10_QuorumKnown_l1, go_sem, reduceIte, Nat.reduceEqDiff, Nat.reduceAdd, Nat.reduceLeDiff, Nat.reducePow, Nat.reduceDiv, Nat.reduceMod, decide_true, k1, k2, k3]
      refine wCond_split (fun cq => ?_) (fun cq => ?_)
      · simp at cq
        have e2 : IntKind.i64.wrap (↑q + 1) = (q : Int) + 1 := wrap_i64 (by omega)
        simp only [go_sem, reduceIte, Nat.reduceEqDiff, Nat.reduceAdd, Nat.reduceLeDiff, Nat.reducePow, Nat.reduceDiv, Nat.reduceMod, decide_true, k1, k2, k3]
        refine vc_loop (fun m L h' => ∃ (j : Nat) (o : AV) (ys : List Int), lk 1 L = .ref 18 3 0 13 (some 13) ∧ lk 2 L = .int .i64 i ∧ lk 3 L = .int .i64 q ∧ lk 4 L = o ∧ lk 5 L = .int .i64 j ∧ Own (dInts ys) (fun m => h2.length ≤ m) h' o ∧ canApp h' o ∧ Ext nof h2 h' ∧ ys.length ≤ j ∧ j ≤ 7 ∧ m = 7 - j) 7 ?_ ?_
        · exact ⟨0, .nils, [], by simp [lk_ins, lk_cons, k1], by simp [lk_ins, lk_cons, k2], by simp [lk_ins, lk_cons, k3], by simp [lk_ins, lk_cons], by simp [lk_ins], Own.nils 1, trivial, Ext.refl _ _, by simp, by omega, by omega⟩
        · rintro m L h3 ⟨j, o, ys, k1, k2, k3, k4, k5, hO, hA, hX, hyl, hj, rfl⟩
          simp only [c_glebelaw10_QuorumKnown_l0, go_sem, reduceIte, Nat.reduceEqDiff, Nat.reduceAdd, Nat.reduceLeDiff, Nat.reducePow, Nat.reduceDiv, Nat.reduceMod, decide_true, k1, k2, k3, k4, k5]
          refine wCond_split (fun cj => ?_) (fun cj => ?_)
          · simp at cj
            have e3 : IntKind.i64.wrap (↑j + 1) = (j : Int) + 1 := wrap_i64 (by omega)
            have e4 : IntKind.u64.wrap (j : Int) = j := by rw [wrap_u64]; omega
            have cn : ¬ (j : Int) < 0 := by omega
            simp only [go_sem, reduceIte, Nat.reduceEqDiff, Nat.reduceAdd, Nat.reduceLeDiff, Nat.reducePow, Nat.reduceDiv, Nat.reduceMod, decide_true, k1, k2, k3, k4, k5, e4, shr64, and64, if_neg cn]
            refine wCond_split (fun cb => ?_) (fun cb => ?_)
            · have app : ∃ o' h4, aappend (h3 ++ [some (.arr 1 [[.int .i64 ((j : Int) + 1)]] false)]) 1 8 o (.ref h3.length 1 0 1 (some 1)) = some (o', h4) ∧ Own (dInts (ys ++ [(j : Int) + 1])) (fun m => h2.length ≤ m) h4 o' ∧ canApp h4 o' ∧ Ext nof h2 h4 := by
                obtain ⟨o2, h5, ha, ho', hc2', he'⟩ := own_app (bytes := 8) (es := [[.int .i64 ((j : Int) + 1)]]) (h := h3 ++ [some (.arr 1 [[.int .i64 ((j : Int) + 1)]] false)]) hO hA (Ext.app _ _ _) (ys := [[.int .i64 ((j : Int) + 1)]])
                  (by simp [OwnLL, OwnL, Own]) hX.1 (by simp; omega)
                refine ⟨o2, h5, by rw [aappend_of (aelems_new h3 1 [[.int .i64 ((j : Int) + 1)]] false (some 1) (len := 1) rfl)]; exact ha, ?_, hc2', (hX.tr (Ext.b1 _)).then he' (fun m hm hm' => by have := hX.1; omega)⟩
                rw [dInts, List.map_append]; exact ho'
              obtain ⟨o2, h4, s1, s2, s3, s4⟩ := app
              simp only [go_sem, reduceIte, Nat.reduceEqDiff, Nat.reduceAdd, Nat.reduceLeDiff, Nat.reducePow, Nat.reduceDiv, Nat.reduceMod, decide_true, k1, k2, k3, k4, k5, e3, s1]
              exact ⟨_, by omega, j + 1, o2, _, rfl, by simp, s2, s3, s4, by simp; omega, by omega, rfl⟩
            · simp only [go_sem, reduceIte, Nat.reduceEqDiff, Nat.reduceAdd, Nat.reduceLeDiff, Nat.reducePow, Nat.reduceDiv, Nat.reduceMod, decide_true, k1, k2, k3, k4, k5, e3]
              exact ⟨_, by omega, j + 1, o, ys, rfl, by simp, hO, hA, hX, by omega, by omega, rfl⟩
          · have hE3 := hE.tr hX
            obtain ⟨p, cs, s1, s2, s3, s4⟩ := conf hE3
            have hy : Rd (fun _ => True) h3 (dInts ys) o := Own.rd _ (fun _ _ => trivial) _ hO
            simp only [go_sem, reduceIte, Nat.reduceEqDiff, Nat.reduceAdd, Nat.reduceLeDiff, Nat.reducePow, Nat.reduceDiv, Nat.reduceMod, decide_true, k1, k2, k3, k4, k5, s1, s2 (Ext.refl _ _)]
            refine ht.use s3 hy ?_
            have s20 := s2 (Ext.refl _ _)
            have s2' : ∀ a, aload (h3 ++ [a]) true 3 p = some (.agg cs) := fun a => s2 (Ext.b1 a)
            have hy1 := hy.up (Ext.b1 (some (.arr 1 [[.int .i64 3]] false)))
            simp only [go_sem, reduceIte, Nat.reduceEqDiff, Nat.reduceAdd, Nat.reduceLeDiff, Nat.reducePow, Nat.reduceDiv, Nat.reduceMod, decide_true, k1, k2, k3, k4, k5, s1, s20, s2']
            refine hm.use (s3.up (Ext.b1 _)) hy1 (rd_new (l := [3]) rfl rfl rfl) ?_
            simp only [go_sem, reduceIte, Nat.reduceEqDiff, Nat.reduceAdd, Nat.reduceLeDiff, Nat.reducePow, Nat.reduceDiv, Nat.reduceMod, decide_true, k1, k2, k3, k4, k5, s1, s20, s2']
            refine he.use (s3.up (Ext.b2 _ _)) (hy.up (Ext.b2 _ _)) (rd_new (l := [1, 3, 4, 5]) (len_app1 _ _).symm rfl rfl) ?_
            simp only [go_sem, reduceIte, Nat.reduceEqDiff, Nat.reduceAdd, Nat.reduceLeDiff, Nat.reducePow, Nat.reduceDiv, Nat.reduceMod, decide_true, k1, k2, k3, k4, k5, e2]
            exact ⟨_, by omega, q + 1, by simp, (hE3.tr (Ext.b2 _ _)), by omega, rfl⟩
      · simp at cq
        simp only [go_sem, reduceIte, Nat.reduceEqDiff, Nat.reduceAdd, Nat.reduceLeDiff, Nat.reducePow, Nat.reduceDiv, Nat.reduceMod, decide_true, k1, k2, k3]
        have hE2 : ∀ x, Ext nof heap10 (h2 ++ [x]) := fun x => hE.tr (Ext.b1 x)
        have rr : Rd (fun _ => True) (h2 ++ [some (.arr 1 [[.int .i64 7], [.int .i64 5], [.int .i64 9], [.int .i64 0], [.int .i64 (-1)], [.int .i64 7], [.int .i64 9223372036854775807]] false)]) (dInts [7, 5, 9, 0, -1, 7, 9223372036854775807]) (.ref h2.length 1 0 7 (some 7)) :=
          rd_new (l := [7, 5, 9, 0, -1, 7, 9223372036854775807]) rfl rfl rfl
        have hE4 := hE2 (some (.arr 1 [[.int .i64 7], [.int .i64 5], [.int .i64 9], [.int .i64 0], [.int .i64 (-1)], [.int .i64 7], [.int .i64 9223372036854775807]] false))
        generalize h2 ++ [some (.arr 1 [[.int .i64 7], [.int .i64 5], [.int .i64 9], [.int .i64 0], [.int .i64 (-1)], [.int .i64 7], [.int .i64 9223372036854775807]] false)] = h3 at *
        generalize AV.ref h2.length 1 0 7 (some 7) = ra at *
        refine vc_loop (fun m L h' => ∃ k : Nat, lk 1 L = .ref 18 3 0 13 (some 13) ∧ lk 2 L = .int .i64 i ∧ lk 6 L = ra ∧ lk 7 L = .int .i64 k ∧ Ext nof h3 h' ∧ k ≤ 8 ∧ m = 8 - k) 8 ?_ ?_
        · exact ⟨0, by simp [lk_ins, lk_cons, k1], by simp [lk_ins, lk_cons, k2], by simp [lk_ins, lk_cons], by simp [lk_ins], Ext.refl _ _, by omega, by omega⟩
        · rintro m L h4 ⟨k, k1, k2, k6, k7, hX, hk, rfl⟩
          simp only [c_glebelaw10_QuorumKnown_l2, go_sem, reduceIte, Nat.reduceEqDiff, Nat.reduceAdd, Nat.reduceLeDiff, Nat.reducePow, Nat.reduceDiv, Nat.reduceMod, decide_true, k1, k2, k6, k7]
          refine wCond_split (fun ck => ?_) (fun ck => ?_)
          · simp at ck
            have e3 : IntKind.i64.wrap (↑k + 1) = (k : Int) + 1 := wrap_i64 (by omega)
            have hE5 := hE4.tr hX
            have rr4 := rr.up hX
            obtain ⟨p, cs, s1, s2, s3, s4⟩ := conf hE5
            have ld : ∀ a b c, aload (h4 ++ [a] ++ [b] ++ [c]) true 3 p = some (.agg cs) := fun a b c => s2 (Ext.b3 a b c)
            obtain ⟨c1, u1, u2⟩ := rr4.slice (lo := none) (hi := some (k : Int)) (mx := none) (by simp) (by simp) (by simp; omega) (by simp) (by simp; omega) (by simp)
            obtain ⟨c2, u3, u4⟩ := rr4.slice (lo := some (k : Int)) (hi := none) (mx := none) (by simp) (by simp; omega) (by simp) (by simp) (by simp) (by simp)
            obtain ⟨l1, w1⟩ : ∃ l, ∀ h, Ext nof h4 h → Rd (fun _ => True) h (dInts l) c1 := ⟨([7, 5, 9, 0, -1, 7, 9223372036854775807] : List Int).take k, fun h e => by rw [dInts, List.map_take]; have := u2.up e; simpa using this⟩
            obtain ⟨l2, w2⟩ : ∃ l, ∀ h, Ext nof h4 h → Rd (fun _ => True) h (dInts l) c2 := ⟨([7, 5, 9, 0, -1, 7, 9223372036854775807] : List Int).drop k, fun h e => by rw [dInts, List.map_drop]; have := u4.up e; simpa using this⟩
            simp only [go_sem, reduceIte, Nat.reduceEqDiff, Nat.reduceAdd, Nat.reduceLeDiff, Nat.reducePow, Nat.reduceDiv, Nat.reduceMod, decide_true, Bool.or_true, Bool.and_self, true_and, loose_cons, k1, k2, k6, k7, s1, ld, aslc, u1, u3, s4]
            refine ha.use (s3.up (Ext.b3 _ _ _)) ((rd_new (l := [1, 2, 3, 4, 5, 6, 7]) rfl rfl rfl).up (Ext.b2 _ _)) (w1 _ (Ext.b3 _ _ _)) ?_
            simp only [go_sem, reduceIte, Nat.reduceEqDiff, Nat.reduceAdd, Nat.reduceLeDiff, Nat.reducePow, Nat.reduceDiv, Nat.reduceMod, decide_true, Bool.or_true, Bool.and_self, true_and, loose_cons, k1, k2, k6, k7, s1, ld, aslc, u1, u3, s4]
            refine hr.use (s3.up (Ext.b3 _ _ _)) ((rd_new (l := [1, 2, 3, 4, 5, 6, 7]) (len_app1 _ _).symm rfl rfl).up (Ext.b1 _)) (rr4.up (Ext.b3 _ _ _)) ?_
            simp only [go_sem, reduceIte, Nat.reduceEqDiff, Nat.reduceAdd, Nat.reduceLeDiff, Nat.reducePow, Nat.reduceDiv, Nat.reduceMod, decide_true, Bool.or_true, Bool.and_self, true_and, loose_cons, k1, k2, k6, k7, s1, ld, aslc, u1, u3, s4]
            refine ha.use (s3.up (Ext.b3 _ _ _)) (rd_new (l := [3, 3, 1]) (len2 _ _ _).symm rfl rfl) (w2 _ (Ext.b3 _ _ _)) ?_
            simp only [kDB_mk]
            simp only [freeR_three, loose_cons, mdep_eval, List.any_cons, List.any_nil]
            simp only [go_sem, reduceIte, Nat.reduceEqDiff, Nat.reduceAdd, Nat.reduceLeDiff, Nat.reducePow, Nat.reduceDiv, Nat.reduceMod, decide_true, Bool.or_true, Bool.and_self, true_and]
            simp only [go_sem, reduceIte, Nat.reduceEqDiff, Nat.reduceAdd, Nat.reduceLeDiff, Nat.reducePow, Nat.reduceDiv, Nat.reduceMod, decide_true, k1, k2, k6, k7, e3]
            exact ⟨_, by omega, k + 1, by simp, hX.tr (Ext.b3 _ _ _), by omega, rfl⟩
          · simp at ck
            simp only [go_sem, reduceIte, Nat.reduceEqDiff, Nat.reduceAdd, Nat.reduceLeDiff, Nat.reducePow, Nat.reduceDiv, Nat.reduceMod, decide_true, k1, k2, k6, k7, e1]
            exact ⟨_, by omega, i + 1, by simp, hE4.tr hX, by omega, rfl⟩

end Glb
