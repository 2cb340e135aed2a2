/-
  A library of its own: its parts, one behind the other.
-/
import Derived.Test.YtcegihlhpmdbnaaGreatGlbInA
import Derived.Test.YtcegihlhpmdbnaaGreatGlbImgD
import Derived.Test.YtcegihlhpmdbnaaGreatGlbConA
import Derived.Test.YtcegihlhpmdbnaaGreatGlbImgA
import Derived.Test.YtcegihlhpmdbnaaGreatGlbCconfof
import Derived.Test.YtcegihlhpmdbnaaGreatGlbConD
import Derived.Test.YtcegihlhpmdbnaaGreatGlbGetA
import Derived.Test.YtcegihlhpmdbnaaGreatGlbImgK
import Derived.Test.YtcegihlhpmdbnaaGreatGlbImgX
import Derived.Test.YtcegihlhpmdbnaaGreatGlbKnown13
import Derived.Test.YtcegihlhpmdbnaaGreatGlbCglebelaw16
set_option linter.unusedSimpArgs false
set_option linter.unusedVariables false
/-
  Layer 16: the newest members: the program's and the document's.
-/
namespace Glb
open Go
set_option maxRecDepth 10000
set_option maxHeartbeats 8000000

theorem endI_normal (Kn : AHeap → Prop) (Ks : AX → AHeap → Prop) (st : St) : atEndI Kn Ks .normal ⟨none, false, st⟩ = Kn st.h := by simp [atEndI]
theorem endI_ret (Kn : AHeap → Prop) (Ks : AX → AHeap → Prop) (x : AX) (st : St) : atEndI Kn Ks .ret ⟨some x, false, st⟩ = Ks x st.h := by simp [atEndI]

/-- entries from behind: for a body that leads from J (k + 1) to J k, or stops with Ks -/
def BackItOk (P : Program) (f : FuncId) : Prop := isFn P f = true ∧ ∀ (Y : Yl) (J : Nat → AHeap → Prop) (Ks : AX → AHeap → Prop) (G : Nat → Prop) (h : AHeap) (nb : Nat) (a : AV) (l : List Entry),
  (∀ avs h (R R' : Option AX → AHeap → Prop), (∀ j h, R j h → R' j h) → Y avs h R → Y avs h R') → l.length ≤ 2^40 → J l.length h →
  (∀ k h', J k h' → h'[nb]? = some (some (.arr 1 [[a]] false)) ∧ Rd G h' (dEntries l) a) →
  (∀ k h' d (R : Option AX → AHeap → Prop) (hk : k < l.length), J (k + 1) h' → Rd G h' (dBytes l[k].data) d → (∀ h2, J k h2 → R none h2) → (∀ x h2, Ks x h2 → R (some x) h2) → Y [.int .i64 k, .agg [.int .i64 l[k].term, .int .i64 l[k].kind, d]] h' R) →
  AIter P f [.ptr nb 1 0 0] h Y (J 0) Ks
theorem backit_ok {P : Program} {f : FuncId} (hf : IsR P true f y_slices_Backward_api_Entry_api_Entry_f1) : BackItOk P f := by
  refine ⟨hf.1, fun Y J Ks G h nb a l hY hl hJ0 hJ hB => riter_sound hf.2 rfl (Nat.le_of_ble_eq_true rfl) fun y => ?_⟩
  show rvc P y Y y_slices_Backward_api_Entry_api_Entry_f1.code ⟨none, false, ⟨[(0, .raw (.func (.yield y) #[] #[])), (1, .ptr nb 1 0 0)], [], h⟩⟩ (atEndI (J 0) Ks)
  obtain ⟨b1, hr⟩ := hJ _ h hJ0
  have la : alen a = some (.int .i64 l.length) := by have := hr.len; simpa [dEntries] using this
  have e0 : IntKind.i64.wrap ((l.length : Int) - 1) = l.length - 1 := wrap_i64 (by omega)
  simp only [y_slices_Backward_api_Entry_api_Entry_f1, go_sem, reduceIte, Nat.reduceEqDiff, Nat.reduceAdd, Nat.reduceLeDiff, Nat.reducePow, Nat.reduceDiv, Nat.reduceMod, decide_true, b1, la, e0]
  obtain ⟨I, hI⟩ : ∃ I : Nat → Env → AHeap → Prop, ∀ m L h', I m L h' ↔ lk 0 L = .raw (.func (.yield y) #[] #[]) ∧ lk 1 L = .ptr nb 1 0 0 ∧ lk 3 L = .int .i64 (m - 1) ∧ J m h' ∧ m ≤ l.length := ⟨_, fun _ _ _ => Iff.rfl⟩
  refine rvc_loop hY I l.length ((hI _ _ _).2 ⟨by simp [lk_ins, lk_cons], by simp [lk_ins, lk_cons], by simp [lk_ins, lk_cons], hJ0, by omega⟩) ?_
  intro m L h' hh
  obtain ⟨k0, k1, k3, hJk, hk⟩ := (hI _ _ _).1 hh
  obtain ⟨b1, hr⟩ := hJ m h' hJk
  simp only [go_sem, reduceIte, Nat.reduceEqDiff, Nat.reduceAdd, Nat.reduceLeDiff, Nat.reducePow, Nat.reduceDiv, Nat.reduceMod, decide_true, k3]
  refine wCond_split (fun ck => ?_) (fun ck => ?_)
  · simp at ck
    obtain ⟨k, rfl⟩ : ∃ k, m = k + 1 := ⟨m - 1, by omega⟩
    have hkl : k < l.length := by omega
    have ek : ((k + 1 : Nat) : Int) - 1 = k := by omega
    have e1 : IntKind.i64.wrap ((k : Int) - 1) = k - 1 := wrap_i64 (by omega)
    rw [ek] at k3
    obtain ⟨p, cs, i1, i2, i3⟩ := Rd.index hr .i64 (i := (k : Int)) (d := l[k].c) (by omega) (by rw [show ((k : Int)).toNat = k by omega, List.getElem?_map, List.getElem?_eq_getElem hkl]; rfl)
    obtain ⟨d, rfl, hd⟩ := rd_entry i3
    have ld : aload h' true 3 p = some (.agg [.int .i64 l[k].term, .int .i64 l[k].kind, d]) := by rw [aload_p i2]; rfl
    simp only [go_sem, reduceIte, Nat.reduceEqDiff, Nat.reduceAdd, Nat.reduceLeDiff, Nat.reducePow, Nat.reduceDiv, Nat.reduceMod, decide_true, k0, k1, k3, b1, i1, ld]
    refine hB k h' d _ hkl hJk hd ?_ ?_
    · intro h2 hj2
      simp only [go_sem, reduceIte, Nat.reduceEqDiff, Nat.reduceAdd, Nat.reduceLeDiff, Nat.reducePow, Nat.reduceDiv, Nat.reduceMod, decide_true, Option.isNone_none, Bool.not_true, k3, e1]
      exact ⟨k, by omega, (hI _ _ _).2 ⟨by simp [lk_ins, k0], by simp [lk_ins, k1], by simp [lk_ins], hj2, by omega⟩⟩
    · intro x h2 hk2
      simp only [go_sem, reduceIte, Nat.reduceEqDiff, Nat.reduceAdd, Nat.reduceLeDiff, Nat.reducePow, Nat.reduceDiv, Nat.reduceMod, decide_true, Option.isNone_some, Bool.not_false, endI_ret]
      exact hk2
  · simp at ck
    have : m = 0 := by omega
    subst this
    simp only [go_sem, reduceIte, Nat.reduceEqDiff, Nat.reduceAdd, Nat.reduceLeDiff, Nat.reducePow, Nat.reduceDiv, Nat.reduceMod, decide_true, endI_normal]
    exact hJk

/-- the newest members that entries ahead of the k-th tell -/
def confBack (l : List Entry) : Nat → Option (Conf × Nat)
  | 0 => none
  | k + 1 => match l[k]? with
    | none => confBack l k
    | some e => if e.kind = 2 ∧ (getConf e.data).2 = 0 then some ((getConf e.data).1, k) else confBack l k
def Hard.ofN (x : Hard) (k : Nat) : Conf × Int := match confBack x.log.es k with
  | none => (x.conf, x.log.base)
  | some (c, k) => (c, x.log.base + 1 + k)
def Hard.of (x : Hard) : Conf × Int := x.ofN x.log.es.length
theorem Hard.ofN_step {x : Hard} {k : Nat} (hk : k < x.log.es.length) : x.ofN (k + 1) = if x.log.es[k].kind = 2 ∧ (getConf x.log.es[k].data).2 = 0 then ((getConf x.log.es[k].data).1, x.log.base + 1 + k) else x.ofN k := by
  have e1 : confBack x.log.es (k + 1) = if x.log.es[k].kind = 2 ∧ (getConf x.log.es[k].data).2 = 0 then some ((getConf x.log.es[k].data).1, k) else confBack x.log.es k := by rw [confBack, List.getElem?_eq_getElem hk]
  unfold Hard.ofN
  rw [e1]
  by_cases c : x.log.es[k].kind = 2 ∧ (getConf x.log.es[k].data).2 = 0
  · rw [if_pos c, if_pos c]
  · rw [if_neg c, if_neg c]
theorem Hard.ofN_cases (x : Hard) : ∀ k, k ≤ x.log.es.length → (x.ofN k).1 = x.conf ∨ ∃ e ∈ x.log.es, (x.ofN k).1 = (getConf e.data).1
  | 0, _ => .inl rfl
  | k + 1, hk => by
    rw [Hard.ofN_step hk]
    split
    · exact .inr ⟨_, List.getElem_mem hk, rfl⟩
    · exact Hard.ofN_cases x k (by omega)
structure Hard.ofR (x : Hard) : Prop where
  base : 0 ≤ x.log.base ∧ x.log.base ≤ 2^41
  len : x.log.es.length ≤ 2^40
  data : ∀ e ∈ x.log.es, bytesOk e.data ∧ e.data.length ≤ 2^37
  conf : x.conf.few (2^40)
def OfOk (P : Program) (f : FuncId) : Prop := isFn P f = true ∧ ∀ (G : Nat → Prop) (h : AHeap) (x : Hard) (ags : List AV), RdL G h x.c ags → x.ofR →
  ACalls P f [.agg ags] h fun r h' => ∃ cs, r = .tup [.agg cs, .int .i64 x.of.2] ∧ OwnL x.of.1.c (fun m => h.length ≤ m) h' cs ∧ Ext nof h h'
def BackOk (P : Program) (f sf : FuncId) : Prop := isFn P f = true ∧ ∀ (h : AHeap) (a : AV), a.scalar = true → ACalls P f [a] h fun r h' => r = .clo sf [] [.ptr h.length 1 0 0] ∧ h'[h.length]? = some (some (.arr 1 [[a]] false)) ∧ Ext nof h h'
theorem back_ok16 {P : Program} {f sf : FuncId} (hf : Is P f (c_slices_Backward_api_Entry_api_Entry sf)) : BackOk P f sf := by
  refine ⟨hf.2, fun h a sa => fun_sound hf.1 (Nat.le_of_ble_eq_true rfl) ?_⟩
  show vc P (c_slices_Backward_api_Entry_api_Entry sf).code ⟨[(0, a)], [], h⟩ (atEnd (c_slices_Backward_api_Entry_api_Entry sf).res _)
  simp only [c_slices_Backward_api_Entry_api_Entry, go_sem, reduceIte, Nat.reduceEqDiff, Nat.reduceAdd, Nat.reduceLeDiff, Nat.reducePow, Nat.reduceDiv, Nat.reduceMod, decide_true, sa, cells_of sa]
  exact Ext.b1 _

theorem own_conf3 {x : Conf} {F : Nat → Prop} {h : AHeap} {a : List AV} (hh : OwnL x.c F h a) : ∃ o n e, a = [o, n, e] ∧ Own (dInts x.old) F h o ∧ Own (dInts x.new) F h n ∧ Own (dInts x.learners) F h e := by
  simp only [Conf.c, OwnL] at hh
  obtain ⟨o, _, rfl, ho, n, _, rfl, hn, e, _, rfl, he, rfl⟩ := hh
  exact ⟨o, n, e, rfl, ho, hn, he⟩
theorem of_ok {P : Program} {f g1 g2 g3 sf : FuncId} (hf : IsR P false f (r_conf_Of g1 g2 g3)) (h1 : BackOk P g1 sf) (hs : BackItOk P sf) (h2 : GetConfOk P g2) (h3 : CloneOk P g3) : OfOk P f := by
  refine ⟨hf.1, fun G h x ags ha hR => rfun_sound hf.2 (Nat.le_of_ble_eq_true rfl) ?_⟩
  obtain ⟨e, o, n, l, s, rfl, he, ho, hn, hl, hsn⟩ := rd_hard ha
  show rvc P 0 (fun _ _ _ => False) (r_conf_Of g1 g2 g3).code ⟨none, false, ⟨[(0, .agg (x.cells e o n l s))], [], h⟩⟩ (atEndR (r_conf_Of g1 g2 g3).res _)
  simp only [r_conf_Of, Hard.cells, go_sem, reduceIte, Nat.reduceEqDiff, Nat.reduceAdd, Nat.reduceLeDiff, Nat.reducePow, Nat.reduceDiv, Nat.reduceMod, decide_true, he.scalar, ho.scalar, hn.scalar, hl.scalar, hsn.scalar]
  obtain ⟨H, hH⟩ : ∃ H, H = h ++ [some (ABlk.arr 10 [[.int .i64 x.group, .int .i64 x.term, .int .i64 x.vote, .int .i64 x.log.base, .int .i64 x.log.bterm, e, o, n, l, s]] false)] ++ [some (.arr 3 [[.nils, .nils, .nils]] false)] ++ [some (.arr 1 [[.int .i64 0]] false)] := ⟨_, rfl⟩
  have B0 : H[h.length]? = some (some (.arr 10 [[.int .i64 x.group, .int .i64 x.term, .int .i64 x.vote, .int .i64 x.log.base, .int .i64 x.log.bterm, e, o, n, l, s]] false)) := by rw [hH]; exact bx30 _ _ _ _
  have B1 : H[h.length + 1]? = some (some (.arr 3 [[.nils, .nils, .nils]] false)) := by rw [hH]; exact bx31 _ _ _ _
  have B2 : H[h.length + 1 + 1]? = some (some (.arr 1 [[.int .i64 0]] false)) := by rw [hH]; exact bx32 _ _ _ _
  have X0 : Ext nof h H := by rw [hH]; exact Ext.b3 _ _ _
  have L0 : H.length = h.length + 3 := by rw [hH]; simp
  rw [← hH]
  clear hH
  have hb := hR.base
  have hlen := hR.len
  have hcf := hR.conf
  obtain ⟨n0, hn0⟩ : ∃ n, n = h.length := ⟨_, rfl⟩
  rw [← hn0] at B0 B1 B2 L0 ⊢
  refine wCall_use ⟨h1.1, h1.2 H e he.scalar⟩ ?_
  rintro _ H3 ⟨rfl, D0, X3⟩
  simp only [go_sem, reduceIte, Nat.reduceEqDiff, Nat.reduceAdd, Nat.reduceLeDiff, Nat.reducePow, Nat.reduceDiv, Nat.reduceMod, decide_true]
  have he3 := (he.up X0).up X3
  have C0 := X3.get B0
  have C1 := X3.get B1
  have C2 := X3.get B2
  have l3 : n0 + 3 ≤ H3.length := by have := X3.1; omega
  obtain ⟨J, hJ⟩ : ∃ J : Nat → AHeap → Prop, ∀ k h', J k h' ↔ Ext nof H3 h' ∧ x.of = x.ofN k ∧ k ≤ x.log.es.length := ⟨_, fun _ _ => Iff.rfl⟩
  obtain ⟨Ks, hKs⟩ : ∃ Ks : AX → AHeap → Prop, ∀ y h', Ks y h' ↔ y = .ret ∧ ∃ h1 a b c, Ext nof H3 h1 ∧ OwnL x.of.1.c (fun m => H3.length ≤ m) h1 [a, b, c] ∧ h' = (h1.set (n0 + 1) (some (.arr 3 [[a, b, c]] false))).set (n0 + 1 + 1) (some (.arr 1 [[.int .i64 x.of.2]] false)) := ⟨_, fun _ _ => Iff.rfl⟩
  refine rvc_range (gf := sf) (cs := [.ptr H.length 1 0 0]) (Kn := J 0) (Ks := Ks) (by simp [St.get, lk_ins]) hs.1 (hs.2 _ J Ks G H3 _ e x.log.es (bodyY_mono _ _ _ _) hlen ((hJ _ _).2 ⟨Ext.refl _ _, rfl, Nat.le_refl _⟩) ?_ ?_) ?_ ?_
  · intro k h' hk
    obtain ⟨hx, -, -⟩ := (hJ _ _).1 hk
    exact ⟨hx.get D0, he3.up hx⟩
  · intro k h' d R hk hjk hd hn' hs'
    obtain ⟨hx, hof, -⟩ := (hJ _ _).1 hjk
    rw [bodyY_mk _ _ _ _ _ _ _ rfl]
    have sd := hd.scalar
    have mem := hR.data _ (List.getElem_mem hk)
    have step : x.ofN (k + 1) = if x.log.es[k].kind = 2 ∧ (getConf x.log.es[k].data).2 = 0 then ((getConf x.log.es[k].data).1, x.log.base + 1 + k) else x.ofN k := by
      have e1 : confBack x.log.es (k + 1) = if x.log.es[k].kind = 2 ∧ (getConf x.log.es[k].data).2 = 0 then some ((getConf x.log.es[k].data).1, k) else confBack x.log.es k := by rw [confBack, List.getElem?_eq_getElem hk]
      unfold Hard.ofN
      rw [e1]
      by_cases c : x.log.es[k].kind = 2 ∧ (getConf x.log.es[k].data).2 = 0
      · rw [if_pos c, if_pos c]
      · rw [if_neg c, if_neg c]
    rw [step] at hof
    generalize x.log.es[k] = y at *
    simp only [insL, List.zip_cons_cons, List.zip_nil_right, go_sem, reduceIte, Nat.reduceEqDiff, Nat.reduceAdd, Nat.reduceLeDiff, Nat.reducePow, Nat.reduceDiv, Nat.reduceMod, decide_true, sd]
    have ek : k ≤ x.log.es.length := by omega
    have w1 : IntKind.i64.wrap (x.log.base + 1) = x.log.base + 1 := wrap_i64 (by omega)
    have w2 : IntKind.i64.wrap (x.log.base + 1 + (k : Int)) = x.log.base + 1 + k := wrap_i64 (by omega)
    by_cases c1 : y.kind = 2
    · simp only [go_sem, reduceIte, Nat.reduceEqDiff, Nat.reduceAdd, Nat.reduceLeDiff, Nat.reducePow, Nat.reduceDiv, Nat.reduceMod, decide_true, decide_eq_true c1, Bool.not_true]
      have Xa : Ext nof h' (h' ++ [some (.arr 3 [[.int .i64 y.term, .int .i64 y.kind, d]] false)]) := Ext.b1 _
      generalize h' ++ [some (ABlk.arr 3 [[.int .i64 y.term, .int .i64 y.kind, d]] false)] = H4 at *
      refine wCall_use ⟨h2.1, h2.2 G H4 y.data d (hd.up Xa) mem.1 mem.2⟩ ?_
      rintro _ H5 ⟨ags, rfl, hown, hx5⟩
      obtain ⟨a, b, c, rfl, oa, ob, oc⟩ := own_conf3 hown
      have X5 := (hx.tr Xa).tr hx5
      have E0 := X5.get C0
      have E1 := X5.get C1
      have E2 := X5.get C2
      have l5 := X5.1
      have X6 : Ext nof H5 (H5 ++ [some (.arr 3 [[a, b, c]] false)]) := Ext.b1 _
      have F0 := X6.get E0
      have F1 := X6.get E1
      have F2 := X6.get E2
      have F3 : (H5 ++ [some (ABlk.arr 3 [[a, b, c]] false)])[H5.length]? = _ := bx10 _ _
      have lH4 : H3.length ≤ H4.length := (hx.tr Xa).1
      have ow : OwnL (getConf y.data).1.c (fun m => H3.length ≤ m) (H5 ++ [some (ABlk.arr 3 [[a, b, c]] false)]) [a, b, c] := OwnL.mono _ (fun m hm => by omega) (X6.keep _) _ hown
      by_cases c2 : (getConf y.data).2 = 0
      · rw [if_pos ⟨c1, c2⟩] at hof
        have k1 : n0 + 1 < H5.length + 1 := by omega
        have k2 : n0 + 1 + 1 < H5.length + 1 := by omega
        simp only [go_sem, reduceIte, Nat.reduceEqDiff, Nat.reduceAdd, Nat.reduceLeDiff, Nat.reducePow, Nat.reduceDiv, Nat.reduceMod, decide_true, oa.scalar, ob.scalar, oc.scalar, decide_eq_true c2, F0, F1, F2, w1, w2, k1, k2, List.length_set, List.getElem?_set_ne]
        exact hs' _ _ ((hKs _ _).2 ⟨rfl, _, a, b, c, X5.tr X6, by rw [hof]; exact ow, by rw [hof]⟩)
      · rw [if_neg (fun z => c2 z.2)] at hof
        simp only [go_sem, reduceIte, Nat.reduceEqDiff, Nat.reduceAdd, Nat.reduceLeDiff, Nat.reducePow, Nat.reduceDiv, Nat.reduceMod, decide_true, oa.scalar, ob.scalar, oc.scalar, decide_eq_false c2]
        exact hn' _ ((hJ _ _).2 ⟨X5.tr X6, hof, ek⟩)
    · rw [if_neg (fun z => c1 z.1)] at hof
      simp only [go_sem, reduceIte, Nat.reduceEqDiff, Nat.reduceAdd, Nat.reduceLeDiff, Nat.reducePow, Nat.reduceDiv, Nat.reduceMod, decide_true, decide_eq_false c1, Bool.not_false]
      exact hn' _ ((hJ _ _).2 ⟨hx.tr (Ext.b1 _), hof, ek⟩)
  · intro h' hk
    obtain ⟨hx, hof, -⟩ := (hJ _ _).1 hk
    have hof : x.of = (x.conf, x.log.base) := hof
    have E0 := hx.get C0
    have E1 := hx.get C1
    have E2 := hx.get C2
    have xx := (X0.tr X3).tr hx
    have lx := hx.1
    obtain ⟨f1, f2, f3⟩ := id hcf
    simp only [go_sem, reduceIte, Nat.reduceEqDiff, Nat.reduceAdd, Nat.reduceLeDiff, Nat.reducePow, Nat.reduceDiv, Nat.reduceMod, decide_true, E0, ho.scalar, hn.scalar, hl.scalar]
    have G0 : (h' ++ [some (ABlk.arr 3 [[o, n, l]] false)])[n0]? = _ := (Ext.b1 _).get E0
    have G1 : (h' ++ [some (ABlk.arr 3 [[o, n, l]] false)])[n0 + 1]? = _ := (Ext.b1 _).get E1
    have G2 : (h' ++ [some (ABlk.arr 3 [[o, n, l]] false)])[n0 + 1 + 1]? = _ := (Ext.b1 _).get E2
    have G3 : (h' ++ [some (ABlk.arr 3 [[o, n, l]] false)])[h'.length]? = some (some (.arr 3 [[o, n, l]] false)) := bx10 _ _
    have xy : Ext nof h (h' ++ [some (ABlk.arr 3 [[o, n, l]] false)]) := xx.tr (Ext.b1 _)
    have ho6 := ho.up xy
    have hn6 := hn.up xy
    have hl6 := hl.up xy
    have l6 : n0 + 3 ≤ (h' ++ [some (ABlk.arr 3 [[o, n, l]] false)]).length := by simp; omega
    generalize h' ++ [some (ABlk.arr 3 [[o, n, l]] false)] = H6 at *
    simp only [go_sem, reduceIte, Nat.reduceEqDiff, Nat.reduceAdd, Nat.reduceLeDiff, Nat.reducePow, Nat.reduceDiv, Nat.reduceMod, decide_true, G0, G3]
    refine wCall_use ⟨h3.1, h3.2 G H6 x.conf.old o ho6 (by omega)⟩ ?_
    rintro r1 H7 ⟨ro, -, rx⟩
    have M0 := rx.get G0
    have M1 := rx.get G1
    have M2 := rx.get G2
    have M3 := rx.get G3
    simp only [go_sem, reduceIte, Nat.reduceEqDiff, Nat.reduceAdd, Nat.reduceLeDiff, Nat.reducePow, Nat.reduceDiv, Nat.reduceMod, decide_true, M0, M3]
    refine wCall_use ⟨h3.1, h3.2 G H7 x.conf.new n (hn6.up rx) (by omega)⟩ ?_
    rintro r2 H8 ⟨uo, -, ux⟩
    have N0 := ux.get M0
    have N1 := ux.get M1
    have N2 := ux.get M2
    have N3 := ux.get M3
    simp only [go_sem, reduceIte, Nat.reduceEqDiff, Nat.reduceAdd, Nat.reduceLeDiff, Nat.reducePow, Nat.reduceDiv, Nat.reduceMod, decide_true, N0, N3]
    refine wCall_use ⟨h3.1, h3.2 G H8 x.conf.learners l ((hl6.up rx).up ux) (by omega)⟩ ?_
    rintro r3 H9 ⟨vo, -, vx⟩
    have P0 := vx.get N0
    have P1 := vx.get N1
    have P2 := vx.get N2
    have P3 := vx.get N3
    have g1 := rx.1
    have g2 := ux.1
    have g3 := vx.1
    have k1 : n0 + 1 < H9.length := by omega
    have k2 : n0 + 1 + 1 < H9.length := by omega
    have X := (rx.tr ux).tr vx
    simp only [go_sem, reduceIte, Nat.reduceEqDiff, Nat.reduceAdd, Nat.reduceLeDiff, Nat.reducePow, Nat.reduceDiv, Nat.reduceMod, decide_true, P0, P1, P2, P3, ro.scalar, cells_of ro.scalar, uo.scalar, cells_of uo.scalar, vo.scalar, cells_of vo.scalar, k1, k2, List.length_set]
    rw [hof]
    refine ⟨_, rfl, own_conf ?_ ?_ ?_, ((xy.tr X).setNew (by omega) _).setNew (by omega) _⟩
    · exact own_setOff (own_setOff (k := n0 + 3) (Own.mono (F' := fun m => n0 + 3 ≤ m) _ (fun m hm => by omega) ((ux.tr vx).keep _) _ ro) (by omega) _ (by omega)) (by omega) _ (by omega)
    · exact own_setOff (own_setOff (k := n0 + 3) (Own.mono (F' := fun m => n0 + 3 ≤ m) _ (fun m hm => by omega) (vx.keep _) _ uo) (by omega) _ (by omega)) (by omega) _ (by omega)
    · exact own_setOff (own_setOff (k := n0 + 3) (Own.mono (F' := fun m => n0 + 3 ≤ m) _ (fun m hm => by omega) (Keep.lt _ _) _ vo) (by omega) _ (by omega)) (by omega) _ (by omega)
  · intro y h' hk
    obtain ⟨rfl, h1', a, b, c, hx, ow, rfl⟩ := (hKs _ _).1 hk
    have E1 := hx.get C1
    have E2 := hx.get C2
    have lx := hx.1
    have k1 : n0 + 1 < h1'.length := by omega
    have k2 : n0 + 1 + 1 < h1'.length := by omega
    refine ⟨by simp, ?_⟩
    simp only [go_sem, reduceIte, Nat.reduceEqDiff, Nat.reduceAdd, Nat.reduceLeDiff, Nat.reducePow, Nat.reduceDiv, Nat.reduceMod, decide_true, k1, k2, List.length_set]
    obtain ⟨oa, ob, oc⟩ : Own (dInts x.of.1.old) (fun m => H3.length ≤ m) h1' a ∧ Own (dInts x.of.1.new) (fun m => H3.length ≤ m) h1' b ∧ Own (dInts x.of.1.learners) (fun m => H3.length ≤ m) h1' c := by
      obtain ⟨o', n', e', q, z⟩ := own_conf3 ow
      cases q
      exact z
    refine ⟨_, rfl, own_conf ?_ ?_ ?_, ((((X0.tr X3).tr hx)).setNew (by omega) _).setNew (by omega) _⟩
    · exact own_setOff (own_setOff (k := n0 + 3) oa (by omega) _ (by omega)) (by omega) _ (by omega)
    · exact own_setOff (own_setOff (k := n0 + 3) ob (by omega) _ (by omega)) (by omega) _ (by omega)
    · exact own_setOff (own_setOff (k := n0 + 3) oc (by omega) _ (by omega)) (by omega) _ (by omega)

end Glb

/-
  Layer 16: the newest members, ags the document finds them; the law ConfOf.
-/
namespace Glb
open Go
set_option maxRecDepth 10000
set_option maxHeartbeats 8000000

def OfP (P : Program) (f : FuncId) : Prop := isFn P f = true ∧ ∀ (G : Nat → Prop) (h : AHeap) (x : Hard) (ags : List AV), RdL G h x.c ags → x.ofR →
  ACalls P f [.agg ags] h fun r h' => r = .tup [.agg x.of.1.v, .int .i64 x.of.2] ∧ h' = h
theorem rof_ok {P : Program} {f g1 g2 : FuncId} (hf : Is P f (c_gleberef16_Of g1 g2)) (h1 : CopyConfOk P g1) (h2 : GetConfP P g2) : OfP P f := by
  refine ⟨hf.2, fun G h x ags ha hR => ACalls.freeze (K := fun r h' => r = .tup [.agg x.of.1.v, .int .i64 x.of.2] ∧ Ext nof h h') (fun_sound hf.1 (Nat.le_of_ble_eq_true rfl) ?_) (fun r _ ⟨e, hx⟩ => ⟨hx, r, by rw [e]; exact Frz.tup2 (Frz.aggD (fzL_self _ _ _)) (Frz.int _ _), e⟩)⟩
  obtain ⟨e, o, n, l, s, rfl, he, ho, hn, hl, hsn⟩ := rd_hard ha
  show vc P (c_gleberef16_Of g1 g2).code ⟨[(0, .agg (x.cells e o n l s))], [], h⟩ (atEnd (c_gleberef16_Of g1 g2).res _)
  simp only [c_gleberef16_Of, Hard.cells, go_sem, reduceIte, Nat.reduceEqDiff, Nat.reduceAdd, Nat.reduceLeDiff, Nat.reducePow, Nat.reduceDiv, Nat.reduceMod, decide_true, he.scalar, ho.scalar, hn.scalar, hl.scalar, hsn.scalar]
  have X0 : Ext nof h (h ++ [some (ABlk.arr 10 [[.int .i64 x.group, .int .i64 x.term, .int .i64 x.vote, .int .i64 x.log.base, .int .i64 x.log.bterm, e, o, n, l, s]] false)] ++ [some (ABlk.arr 3 [[.nils, .nils, .nils]] false)]) := Ext.b2 _ _
  obtain ⟨f1, f2, f3⟩ := hR.conf
  have cc : ∀ H, Ext nof h H → ACalls P g1 [.agg [o, n, l]] H fun r h' => r = .agg [aints x.conf.old, aints x.conf.new, aints x.conf.learners] ∧ h' = H := fun H hx => by
    refine (h1.2 G H x.conf [o, n, l] ?_ f1 f2 f3).freeze ?_
    · simp only [Conf.c, RdL]; exact ⟨_, _, rfl, ho.up hx, _, _, rfl, hn.up hx, _, _, rfl, hl.up hx, rfl⟩
    · rintro r h' ⟨o', n', e', rfl, z1, z2, z3, hx'⟩
      exact ⟨hx', _, Frz.aggD (OwnL.fz x.conf.c (fun _ z => z) _ (own_conf z1 z2 z3)), by rw [← Conf.v_eq]; rfl⟩
  refine use1 h1.1 (cc _ X0) ?_
  have B0 : (h ++ [some (ABlk.arr 10 [[.int .i64 x.group, .int .i64 x.term, .int .i64 x.vote, .int .i64 x.log.base, .int .i64 x.log.bterm, e, o, n, l, s]] false)] ++ [some (ABlk.arr 3 [[.nils, .nils, .nils]] false)])[h.length]? = _ := bx20 _ _ _
  have B1 : (h ++ [some (ABlk.arr 10 [[.int .i64 x.group, .int .i64 x.term, .int .i64 x.vote, .int .i64 x.log.base, .int .i64 x.log.bterm, e, o, n, l, s]] false)] ++ [some (ABlk.arr 3 [[.nils, .nils, .nils]] false)])[h.length + 1]? = _ := bx21 _ _ _
  have L0 : (h ++ [some (ABlk.arr 10 [[.int .i64 x.group, .int .i64 x.term, .int .i64 x.vote, .int .i64 x.log.base, .int .i64 x.log.bterm, e, o, n, l, s]] false)] ++ [some (ABlk.arr 3 [[.nils, .nils, .nils]] false)]).length = h.length + 2 := by simp
  obtain ⟨n0, hn0⟩ : ∃ n, n = h.length := ⟨_, rfl⟩
  rw [← hn0] at B0 B1 L0 ⊢
  generalize h ++ [some (ABlk.arr 10 [[.int .i64 x.group, .int .i64 x.term, .int .i64 x.vote, .int .i64 x.log.base, .int .i64 x.log.bterm, e, o, n, l, s]] false)] ++ [some (ABlk.arr 3 [[.nils, .nils, .nils]] false)] = H at *
  have hb := hR.base
  have hlen := hR.len
  have C0 := (Ext.b1 (h := H) (some (ABlk.arr 3 [[aints x.conf.old, aints x.conf.new, aints x.conf.learners]] false))).get B0
  have C1 := (Ext.b1 (h := H) (some (ABlk.arr 3 [[aints x.conf.old, aints x.conf.new, aints x.conf.learners]] false))).get B1
  have C2 := bx10 H (some (ABlk.arr 3 [[aints x.conf.old, aints x.conf.new, aints x.conf.learners]] false))
  have X1 := X0.tr (Ext.b1 (h := H) (some (ABlk.arr 3 [[aints x.conf.old, aints x.conf.new, aints x.conf.learners]] false)))
  rw [L0] at C2
  simp only [go_sem, reduceIte, Nat.reduceEqDiff, Nat.reduceAdd, Nat.reduceLeDiff, Nat.reducePow, Nat.reduceDiv, Nat.reduceMod, decide_true, scalar_aints, C0]
  simp only [L0]
  generalize H ++ [some (ABlk.arr 3 [[aints x.conf.old, aints x.conf.new, aints x.conf.learners]] false)] = H1 at *
  obtain ⟨I, hI⟩ : ∃ I : Nat → Env → AHeap → Prop, ∀ m L h', I m L h' ↔ ∃ (i : Nat), lk 1 L = .ptr n0 10 0 0 ∧ lk 2 L = .ptr (n0 + 1) 3 0 0 ∧ lk 4 L = .ptr (n0 + 2) 3 0 0 ∧ lk 5 L = .int .i64 (x.ofN i).2 ∧ lk 6 L = .int .i64 i ∧ Ext nof h h' ∧
    h'[n0]? = some (some (.arr 10 [[.int .i64 x.group, .int .i64 x.term, .int .i64 x.vote, .int .i64 x.log.base, .int .i64 x.log.bterm, e, o, n, l, s]] false)) ∧ h'[n0 + 1]? = some (some (.arr 3 [[.nils, .nils, .nils]] false)) ∧
    h'[n0 + 2]? = some (some (.arr 3 [[aints (x.ofN i).1.old, aints (x.ofN i).1.new, aints (x.ofN i).1.learners]] false)) ∧ i ≤ x.log.es.length ∧ m = x.log.es.length - i := ⟨_, fun _ _ _ => Iff.rfl⟩
  refine vc_loop I x.log.es.length ((hI _ _ _).2 ⟨0, by simp [lk_ins, lk_cons], by simp [lk_ins, lk_cons], by simp [lk_ins, lk_cons], by simp [lk_ins, lk_cons, Hard.ofN, confBack], by simp [lk_ins, lk_cons], X1, C0, C1, C2, by omega, by omega⟩) ?_
  clear C0 C1 C2 B0 B1 X0 X1 L0
  intro m L h' hh
  obtain ⟨i, k1, k2, k4, k5, k6, hx, C0, C1, C2, hi, rfl⟩ := (hI _ _ _).1 hh
  have he' := he.up hx
  have le : alen e = some (.int .i64 x.log.es.length) := by have := he.len; simpa [dEntries] using this
  simp only [c_gleberef16_Of_l0, go_sem, reduceIte, Nat.reduceEqDiff, Nat.reduceAdd, Nat.reduceLeDiff, Nat.reducePow, Nat.reduceDiv, Nat.reduceMod, decide_true, k1, k6, C0, le]
  refine wCond_split (fun ci => ?_) (fun ci => ?_)
  · simp at ci
    have hk : i < x.log.es.length := by omega
    have step := Hard.ofN_step (x := x) hk
    have mem := hR.data _ (List.getElem_mem hk)
    have ew : IntKind.i64.wrap ((i : Int) + 1) = ((i + 1 : Nat) : Int) := by rw [wrap_i64 (by omega)]; omega
    have w1 : IntKind.i64.wrap (x.log.base + 1) = x.log.base + 1 := wrap_i64 (by omega)
    have w2 : IntKind.i64.wrap (x.log.base + 1 + (i : Int)) = x.log.base + 1 + i := wrap_i64 (by omega)
    obtain ⟨p, cs, i1, i2, i3⟩ := Rd.index he' .i64 (i := (i : Int)) (d := x.log.es[i].c) (by omega) (by rw [show ((i : Int)).toNat = i by omega, List.getElem?_map, List.getElem?_eq_getElem hk]; rfl)
    obtain ⟨d, rfl, hd⟩ := rd_entry i3
    generalize x.log.es[i] = y at *
    have fd : ∀ k, afield k p = some (poff k p) := fun k => afield_p i2 k
    have ld1 : aload h' false 1 (poff 1 p) = some (.int .i64 y.kind) := by rw [aload_off i2]; rfl
    have ld2 : aload h' false 1 (poff 2 p) = some d := by rw [aload_off i2]; simp [takeCells, hd.scalar]
    have nxt : ∀ h2 L2, lk 1 L2 = .ptr n0 10 0 0 → lk 2 L2 = .ptr (n0 + 1) 3 0 0 → lk 4 L2 = .ptr (n0 + 2) 3 0 0 → lk 5 L2 = .int .i64 (x.ofN (i + 1)).2 → lk 6 L2 = .int .i64 ((i + 1 : Nat) : Int) → Ext nof h h2 →
        h2[n0]? = some (some (.arr 10 [[.int .i64 x.group, .int .i64 x.term, .int .i64 x.vote, .int .i64 x.log.base, .int .i64 x.log.bterm, e, o, n, l, s]] false)) → h2[n0 + 1]? = some (some (.arr 3 [[.nils, .nils, .nils]] false)) →
        h2[n0 + 2]? = some (some (.arr 3 [[aints (x.ofN (i + 1)).1.old, aints (x.ofN (i + 1)).1.new, aints (x.ofN (i + 1)).1.learners]] false)) → ∃ m', m' < x.log.es.length - i ∧ I m' L2 h2 :=
      fun h2 L2 a1 a2 a3 a4 a5 a6 a7 a8 a9 => ⟨x.log.es.length - (i + 1), by omega, (hI _ _ _).2 ⟨i + 1, a1, a2, a3, a4, a5, a6, a7, a8, a9, hk, rfl⟩⟩
    by_cases c1 : y.kind = 2
    · simp only [go_sem, reduceIte, Nat.reduceEqDiff, Nat.reduceAdd, Nat.reduceLeDiff, Nat.reducePow, Nat.reduceDiv, Nat.reduceMod, decide_true, k1, k2, k4, k5, k6, C0, i1, fd, ld1, ld2, decide_eq_true c1, Bool.not_true]
      refine use1 h2.1 (h2.2 G h' y.data d hd mem.1 mem.2) ?_
      have E0 := (Ext.b1 (h := h') (some (ABlk.arr 3 [[aints (getConf y.data).1.old, aints (getConf y.data).1.new, aints (getConf y.data).1.learners]] false))).get C0
      have E1 := (Ext.b1 (h := h') (some (ABlk.arr 3 [[aints (getConf y.data).1.old, aints (getConf y.data).1.new, aints (getConf y.data).1.learners]] false))).get C1
      have E2 := (Ext.b1 (h := h') (some (ABlk.arr 3 [[aints (getConf y.data).1.old, aints (getConf y.data).1.new, aints (getConf y.data).1.learners]] false))).get C2
      have Ex := hx.tr (Ext.b1 (h := h') (some (ABlk.arr 3 [[aints (getConf y.data).1.old, aints (getConf y.data).1.new, aints (getConf y.data).1.learners]] false)))
      have lt2 : n0 + 2 < h'.length + 1 := by have := (List.getElem?_eq_some_iff.1 C2).1; omega
      simp only [Conf.v_eq]
      by_cases c2 : (getConf y.data).2 = 0
      · rw [if_pos ⟨c1, c2⟩] at step
        simp only [go_sem, reduceIte, Nat.reduceEqDiff, Nat.reduceAdd, Nat.reduceLeDiff, Nat.reducePow, Nat.reduceDiv, Nat.reduceMod, decide_true, scalar_aints, decide_eq_true c2, k1, k2, k4, k5, k6, E0, E2, lt2, w1, w2, ew]
        have ne0 : n0 + 2 ≠ n0 := by omega
        have ne1 : n0 + 2 ≠ n0 + 1 := by omega
        have ln0 : n0 = h.length := hn0
        refine nxt _ _ (by simp [lk_ins, k1]) (by simp [lk_ins, k2]) (by simp [lk_ins, k4]) (by simp [lk_ins, step]) (by simp [lk_ins]) (Ex.setNew (by omega) _) ((List.getElem?_set_ne ne0).trans E0) ((List.getElem?_set_ne ne1).trans E1) ?_
        rw [List.getElem?_set_self (by simp; omega), step]
      · rw [if_neg (fun z => c2 z.2)] at step
        simp only [go_sem, reduceIte, Nat.reduceEqDiff, Nat.reduceAdd, Nat.reduceLeDiff, Nat.reducePow, Nat.reduceDiv, Nat.reduceMod, decide_true, scalar_aints, decide_eq_false c2, k1, k2, k4, k5, k6, ew]
        rw [← step] at E2
        exact nxt _ _ (by simp [lk_ins, k1]) (by simp [lk_ins, k2]) (by simp [lk_ins, k4]) (by simp [lk_ins, k5, step]) (by simp [lk_ins]) Ex E0 E1 E2
    · rw [if_neg (fun z => c1 z.1)] at step
      simp only [go_sem, reduceIte, Nat.reduceEqDiff, Nat.reduceAdd, Nat.reduceLeDiff, Nat.reducePow, Nat.reduceDiv, Nat.reduceMod, decide_true, k1, k2, k4, k5, k6, C0, i1, fd, ld1, decide_eq_false c1, Bool.not_false, ew]
      rw [← step] at C2
      exact nxt _ _ (by simp [lk_ins, k1]) (by simp [lk_ins, k2]) (by simp [lk_ins, k4]) (by simp [lk_ins, k5, step]) (by simp [lk_ins]) hx C0 C1 C2
  · simp at ci
    have ei : i = x.log.es.length := by omega
    have lt1 := (List.getElem?_eq_some_iff.1 C1).1
    rw [ei] at C2 k5
    simp only [go_sem, reduceIte, Nat.reduceEqDiff, Nat.reduceAdd, Nat.reduceLeDiff, Nat.reducePow, Nat.reduceDiv, Nat.reduceMod, decide_true, k1, k2, k4, k5, C1, C2, scalar_aints, lt1]
    refine ⟨?_, ?_⟩
    · rw [Conf.v_eq]; rfl
    · exact hx.setNew (by omega) _

theorem getConf_few16 {l : List Int} (hb : bytesOk l) (hl : l.length ≤ 2^16) : (getConf l).1.few (2^38) := by
  by_cases e : (getConf l).2 = 0
  · obtain ⟨-, h1, h2, h3⟩ := gConf_ok hb e
    exact ⟨by omega, by omega, by omega⟩
  · have : (getConf l).1 = ⟨[], [], []⟩ := by
      simp only [getConf] at e ⊢
      by_cases c : (confC.dec (some l)).2.end_ = 0
      · have c' : ¬ (confC.dec (some l)).2.end_ ≠ 0 := by simpa using c
        rw [if_neg c'] at e ⊢
        by_cases o : (confC.dec (some l)).1.right = true
        · rw [if_pos o] at e; exact absurd rfl e
        · rw [if_neg o]
      · rw [if_pos c]
    rw [this]; exact ⟨by simp, by simp, by simp⟩
theorem confof_ok {P : Program} {f fb fw fc fo fr fs fp fh : FuncId} (hf : Is P f (c_glebelaw16_ConfOf fb fw fc fo fr fs fp fh)) (hb : BigHardOk P fb) (hw : YesOk P fw) (hc : CopyHardG P fc) (ho : OfOk P fo) (hr : OfP P fr) (hs : SameConfOk P fs) (hp : SpoilConfOk P fp) (hh : SameHardOk P fh)
    (x : Hard) (hB : ∀ e ∈ x.log.es, bytesOk e.data) (h : AHeap) : ACalls P f [.agg x.v] h fun r _ => r = .bool true := by
  refine fun_sound hf.1 (Nat.le_of_ble_eq_true rfl) ?_
  show vc P (c_glebelaw16_ConfOf fb fw fc fo fr fs fp fh).code ⟨[(0, .agg x.v)], [], h⟩ (atEnd (c_glebelaw16_ConfOf fb fw fc fo fr fs fp fh).res _)
  have yes : ∀ {h : AHeap} {K : AV → AHeap → Prop}, K (.bool true) h → wCall P fw [] h K := fun hK => wCall_use ⟨hw.1, hw.2 _⟩ (by rintro _ _ ⟨rfl, rfl⟩; exact hK)
  have rx : ∀ h, RdL nof h x.c [.int .i64 x.group, .int .i64 x.term, .int .i64 x.vote, .int .i64 x.log.base, .int .i64 x.log.bterm, aentries x.log.es, aints x.conf.old, aints x.conf.new, aints x.conf.learners, abytes x.snap] := fun h => by rw [← Hard.v_eq]; exact rd_hardv nof h x
  have rc : ∀ h (c : Conf), RdL nof h c.c [aints c.old, aints c.new, aints c.learners] := fun h c => by rw [← Conf.v_eq]; exact rd_confv nof h c
  have se : (aentries x.log.es).scalar = true := (rd_aentries nof [] _).scalar
  have sb : (abytes x.snap).scalar = true := (rd_abytes nof [] _).scalar
  simp only [c_glebelaw16_ConfOf, Hard.v_eq, go_sem, reduceIte, Nat.reduceEqDiff, Nat.reduceAdd, Nat.reduceLeDiff, Nat.reducePow, Nat.reduceDiv, Nat.reduceMod, decide_true, scalar_aints, se, sb]
  by_cases c1 : x.log.base < 0
  · simp only [go_sem, reduceIte, Nat.reduceEqDiff, Nat.reduceAdd, Nat.reduceLeDiff, Nat.reducePow, Nat.reduceDiv, Nat.reduceMod, decide_true, decide_eq_true c1]
    refine yes ?_
    simp only [go_sem, reduceIte, Nat.reduceEqDiff, Nat.reduceAdd, Nat.reduceLeDiff, Nat.reducePow, Nat.reduceDiv, Nat.reduceMod, decide_true]
  by_cases c2 : 1099511627776 < x.log.base
  · simp only [go_sem, reduceIte, Nat.reduceEqDiff, Nat.reduceAdd, Nat.reduceLeDiff, Nat.reducePow, Nat.reduceDiv, Nat.reduceMod, decide_true, decide_eq_false c1, decide_eq_true c2]
    refine yes ?_
    simp only [go_sem, reduceIte, Nat.reduceEqDiff, Nat.reduceAdd, Nat.reduceLeDiff, Nat.reducePow, Nat.reduceDiv, Nat.reduceMod, decide_true]
  by_cases c3 : x.log.bterm < 0
  · simp only [go_sem, reduceIte, Nat.reduceEqDiff, Nat.reduceAdd, Nat.reduceLeDiff, Nat.reducePow, Nat.reduceDiv, Nat.reduceMod, decide_true, decide_eq_false c1, decide_eq_false c2, decide_eq_true c3]
    refine yes ?_
    simp only [go_sem, reduceIte, Nat.reduceEqDiff, Nat.reduceAdd, Nat.reduceLeDiff, Nat.reducePow, Nat.reduceDiv, Nat.reduceMod, decide_true]
  by_cases c4 : 1099511627776 < x.log.bterm
  · simp only [go_sem, reduceIte, Nat.reduceEqDiff, Nat.reduceAdd, Nat.reduceLeDiff, Nat.reducePow, Nat.reduceDiv, Nat.reduceMod, decide_true, decide_eq_false c1, decide_eq_false c2, decide_eq_false c3, decide_eq_true c4]
    refine yes ?_
    simp only [go_sem, reduceIte, Nat.reduceEqDiff, Nat.reduceAdd, Nat.reduceLeDiff, Nat.reducePow, Nat.reduceDiv, Nat.reduceMod, decide_true]
  simp only [go_sem, reduceIte, Nat.reduceEqDiff, Nat.reduceAdd, Nat.reduceLeDiff, Nat.reducePow, Nat.reduceDiv, Nat.reduceMod, decide_true, decide_eq_false c1, decide_eq_false c2, decide_eq_false c3, decide_eq_false c4, scalar_aints, se, sb]
  refine wCall_use ⟨hb.1, hb.2 nof _ x _ 2000 65536 (rx _) (by omega) (by omega)⟩ ?_
  rintro _ _ ⟨bb, rfl, rfl, hbb⟩
  cases bb
  rotate_left
  · simp only [go_sem, reduceIte, Nat.reduceEqDiff, Nat.reduceAdd, Nat.reduceLeDiff, Nat.reducePow, Nat.reduceDiv, Nat.reduceMod, decide_true]
    refine yes ?_
    simp only [go_sem, reduceIte, Nat.reduceEqDiff, Nat.reduceAdd, Nat.reduceLeDiff, Nat.reducePow, Nat.reduceDiv, Nat.reduceMod, decide_true]
  obtain ⟨⟨m1, m2⟩, ⟨m3, m4, m5⟩, m6⟩ := hbb rfl
  have few : x.few := ⟨⟨by omega, fun e he => by have := m2 e he; omega⟩, ⟨by omega, by omega, by omega⟩, by omega⟩
  have ofR : x.ofR := ⟨by omega, by omega, fun e he => ⟨hB e he, by have := m2 e he; omega⟩, ⟨by omega, by omega, by omega⟩⟩
  have cch := fun H => hc.2 nof H x _ (rx H) few
  simp only [Hard.v_eq] at cch
  simp only [go_sem, reduceIte, Nat.reduceEqDiff, Nat.reduceAdd, Nat.reduceLeDiff, Nat.reducePow, Nat.reduceDiv, Nat.reduceMod, decide_true, scalar_aints, se, sb]
  refine use1 hc.1 (cch _) ?_
  obtain ⟨H0, hH0⟩ : ∃ H0, H0 = h ++ [some (ABlk.arr 10 [[.int .i64 x.group, .int .i64 x.term, .int .i64 x.vote, .int .i64 x.log.base, .int .i64 x.log.bterm, aentries x.log.es, aints x.conf.old, aints x.conf.new, aints x.conf.learners, abytes x.snap]] false)] ++ [some (ABlk.arr 3 [[.int .i64 x.log.base, .int .i64 x.log.bterm, aentries x.log.es]] false)] := ⟨_, rfl⟩
  have B0 : H0[h.length]? = some (some (.arr 10 [[.int .i64 x.group, .int .i64 x.term, .int .i64 x.vote, .int .i64 x.log.base, .int .i64 x.log.bterm, aentries x.log.es, aints x.conf.old, aints x.conf.new, aints x.conf.learners, abytes x.snap]] false)) := by rw [hH0]; exact bx20 _ _ _
  rw [← hH0]
  clear hH0
  simp only [go_sem, reduceIte, Nat.reduceEqDiff, Nat.reduceAdd, Nat.reduceLeDiff, Nat.reducePow, Nat.reduceDiv, Nat.reduceMod, decide_true, scalar_aints, se, sb]
  have B1 := (Ext.b1 (h := H0) (some (ABlk.arr 10 [[.int .i64 x.group, .int .i64 x.term, .int .i64 x.vote, .int .i64 x.log.base, .int .i64 x.log.bterm, aentries x.log.es, aints x.conf.old, aints x.conf.new, aints x.conf.learners, abytes x.snap]] false))).get B0
  have D1 := bx10 H0 (some (ABlk.arr 10 [[.int .i64 x.group, .int .i64 x.term, .int .i64 x.vote, .int .i64 x.log.base, .int .i64 x.log.bterm, aentries x.log.es, aints x.conf.old, aints x.conf.new, aints x.conf.learners, abytes x.snap]] false))
  have l1 : (H0 ++ [some (ABlk.arr 10 [[.int .i64 x.group, .int .i64 x.term, .int .i64 x.vote, .int .i64 x.log.base, .int .i64 x.log.bterm, aentries x.log.es, aints x.conf.old, aints x.conf.new, aints x.conf.learners, abytes x.snap]] false)]).length = H0.length + 1 := by simp
  obtain ⟨n1, hn1⟩ : ∃ n, n = H0.length := ⟨_, rfl⟩
  rw [← hn1] at D1 l1 ⊢
  generalize H0 ++ [some (ABlk.arr 10 [[.int .i64 x.group, .int .i64 x.term, .int .i64 x.vote, .int .i64 x.log.base, .int .i64 x.log.bterm, aentries x.log.es, aints x.conf.old, aints x.conf.new, aints x.conf.learners, abytes x.snap]] false)] = H1 at *
  refine wCall_use ⟨ho.1, ho.2 nof H1 x _ (rx _) ofR⟩ ?_
  rintro _ H2 ⟨cs, rfl, oc, xc⟩
  obtain ⟨a1, a2, a3, rfl, oa1, oa2, oa3⟩ := own_confL oc
  have B2 := (xc.tr (Ext.b1 (some (ABlk.arr 3 [[a1, a2, a3]] false)))).get B1
  have D2 := (xc.tr (Ext.b1 (some (ABlk.arr 3 [[a1, a2, a3]] false)))).get D1
  have E2 := bx10 H2 (some (ABlk.arr 3 [[a1, a2, a3]] false))
  have l2 : (H2 ++ [some (ABlk.arr 3 [[a1, a2, a3]] false)]).length = H2.length + 1 := by simp
  have l12 := xc.1
  simp only [go_sem, reduceIte, Nat.reduceEqDiff, Nat.reduceAdd, Nat.reduceLeDiff, Nat.reducePow, Nat.reduceDiv, Nat.reduceMod, decide_true, oa1.scalar, oa2.scalar, oa3.scalar, D2]
  have pa : OwnL x.of.1.c (fun m => H1.length ≤ m ∧ m < H2.length) (H2 ++ [some (ABlk.arr 3 [[a1, a2, a3]] false)]) [a1, a2, a3] := OwnL.mono _ (fun m hm => ⟨by omega, hm.2⟩) ((Ext.b1 _).keep _) _ (Own.in oc)
  obtain ⟨n2, hn2⟩ : ∃ n, n = H2.length := ⟨_, rfl⟩
  rw [← hn2] at E2 pa l2 l12 ⊢
  clear oa1 oa2 oa3 oc
  generalize H2 ++ [some (ABlk.arr 3 [[a1, a2, a3]] false)] = H3 at *
  refine wCall_use ⟨ho.1, ho.2 nof H3 x _ (rx _) ofR⟩ ?_
  rintro _ H4 ⟨cs, rfl, oc, xd⟩
  obtain ⟨d1, d2, d3, rfl, od1, od2, od3⟩ := own_confL oc
  have B4 := (xd.tr (Ext.b1 (some (ABlk.arr 3 [[d1, d2, d3]] false)))).get B2
  have D4 := (xd.tr (Ext.b1 (some (ABlk.arr 3 [[d1, d2, d3]] false)))).get D2
  have E4 := (xd.tr (Ext.b1 (some (ABlk.arr 3 [[d1, d2, d3]] false)))).get E2
  have G4 := bx10 H4 (some (ABlk.arr 3 [[d1, d2, d3]] false))
  have l4 : (H4 ++ [some (ABlk.arr 3 [[d1, d2, d3]] false)]).length = H4.length + 1 := by simp
  have l34 := xd.1
  simp only [go_sem, reduceIte, Nat.reduceEqDiff, Nat.reduceAdd, Nat.reduceLeDiff, Nat.reducePow, Nat.reduceDiv, Nat.reduceMod, decide_true, od1.scalar, od2.scalar, od3.scalar, B4]
  have pa4 := OwnL.mono _ (fun _ h => h) ((xd.tr (Ext.b1 (some (ABlk.arr 3 [[d1, d2, d3]] false)))).keep _) _ pa
  have pd : OwnL x.of.1.c (fun m => H3.length ≤ m ∧ m < H4.length) (H4 ++ [some (ABlk.arr 3 [[d1, d2, d3]] false)]) [d1, d2, d3] := OwnL.mono _ (fun m hm => ⟨by omega, hm.2⟩) ((Ext.b1 _).keep _) _ (Own.in oc)
  obtain ⟨n4, hn4⟩ : ∃ n, n = H4.length := ⟨_, rfl⟩
  rw [← hn4] at G4 pd l4 l34 ⊢
  clear od1 od2 od3 oc pa
  generalize H4 ++ [some (ABlk.arr 3 [[d1, d2, d3]] false)] = H5 at *
  have cof := hr.2 nof H5 x _ (rx _) ofR
  simp only [Conf.v_eq] at cof
  refine use1 hr.1 cof ?_
  have fof : x.of.1.few (2^40) := by
    rcases Hard.ofN_cases x _ (Nat.le_refl _) with e | ⟨e, he, e'⟩
    · show (x.ofN _).1.few _; rw [e]; exact ⟨by omega, by omega, by omega⟩
    · show (x.ofN _).1.few _; rw [e']
      have := getConf_few16 (hB e he) (by have := m2 e he; omega)
      exact ⟨by have := this.1; omega, by have := this.2.1; omega, by have := this.2.2; omega⟩
  generalize x.of.1 = C at *
  generalize x.of.2 = ci at *
  have X6 : Ext nof H5 (H5 ++ [some (ABlk.arr 3 [[aints C.old, aints C.new, aints C.learners]] false)]) := Ext.b1 _
  have B6 := X6.get B4
  have D6 := X6.get D4
  have E6 := X6.get E4
  have G6 := X6.get G4
  have K6 := bx10 H5 (some (ABlk.arr 3 [[aints C.old, aints C.new, aints C.learners]] false))
  have pa6 := OwnL.mono _ (fun _ h => h) (X6.keep _) _ pa4
  have pd6 := OwnL.mono _ (fun _ h => h) (X6.keep _) _ pd
  have l6 : (H5 ++ [some (ABlk.arr 3 [[aints C.old, aints C.new, aints C.learners]] false)]).length = H5.length + 1 := by simp
  simp only [go_sem, reduceIte, Nat.reduceEqDiff, Nat.reduceAdd, Nat.reduceLeDiff, Nat.reducePow, Nat.reduceDiv, Nat.reduceMod, decide_true, scalar_aints, decide_true, Bool.not_true, E6]
  generalize H5 ++ [some (ABlk.arr 3 [[aints C.old, aints C.new, aints C.learners]] false)] = H6 at *
  refine use1 hs.1 (hs.2 (fun _ => True) nof H6 C C _ _ (OwnL.rd _ (F' := fun _ => True) (fun _ _ => trivial) _ pa6) (rc _ C) fof) ?_
  simp only [go_sem, reduceIte, Nat.reduceEqDiff, Nat.reduceAdd, Nat.reduceLeDiff, Nat.reducePow, Nat.reduceDiv, Nat.reduceMod, decide_true, decide_true, Bool.not_true, E6]
  refine wCall_use ⟨hp.1, hp.2 _ H6 C _ pa6 fof (fun m hm => by have := hm.2; omega)⟩ ?_
  rintro _ H7 x7
  have k7 := x7.1
  have hl0 : h.length < n1 := by have := (List.getElem?_eq_some_iff.1 B0).1; omega
  have st : ∀ {m : Nat} {v : Option ABlk}, H6[m]? = some v → (m < H1.length ∨ n2 ≤ m) → H7[m]? = some v := fun hv hm => (x7.2 _ (List.getElem?_eq_some_iff.1 hv).1 (by omega)).trans hv
  have B7 := st B6 (by omega)
  have D7 := st D6 (by omega)
  have G7 := st G6 (by omega)
  have K7 := st K6 (by omega)
  have pd7 := OwnL.mono _ (fun _ h => h) (x7.keepOff (fun m hm h1 h2 => by have := h1.1; have := h2.2; omega)) _ pd6
  simp only [go_sem, reduceIte, Nat.reduceEqDiff, Nat.reduceAdd, Nat.reduceLeDiff, Nat.reducePow, Nat.reduceDiv, Nat.reduceMod, decide_true, G7, K7]
  refine use1 hs.1 (hs.2 (fun _ => True) nof H7 C C _ _ (OwnL.rd _ (F' := fun _ => True) (fun _ _ => trivial) _ pd7) (rc _ C) fof) ?_
  simp only [go_sem, reduceIte, Nat.reduceEqDiff, Nat.reduceAdd, Nat.reduceLeDiff, Nat.reducePow, Nat.reduceDiv, Nat.reduceMod, decide_true, decide_true, B7, D7]
  refine use1 hh.1 (hh.2 nof nof H7 x x _ _ (rx _) (rx _) few) ?_
  simp only [go_sem, reduceIte, Nat.reduceEqDiff, Nat.reduceAdd, Nat.reduceLeDiff, Nat.reducePow, Nat.reduceDiv, Nat.reduceMod, decide_true, decide_true]
  refine yes ?_
  simp only [go_sem, reduceIte, Nat.reduceEqDiff, Nat.reduceAdd, Nat.reduceLeDiff, Nat.reducePow, Nat.reduceDiv, Nat.reduceMod, decide_true]

end Glb

/-
  Layer 16: ConfKnown.
-/
namespace Glb
open Go
set_option maxRecDepth 10000
set_option maxHeartbeats 16000000

def dIR16 (l : List (List Int)) : D := .sl 1 (l.map fun b => [dInts b])
theorem rd_row16 {h : AHeap} {n sz len : Nat} {es : List (List AV)} {ds : List (List D)} {g : Bool} (hb : h[n]? = some (some (.arr sz es g))) (hl : es.length = len) (hr : RdLL (fun _ => True) h ds es) : Rd (fun _ => True) h (.sl sz ds) (.ref n sz 0 len (some len)) := by
  subst hl
  exact ⟨es, .inr (.inr ⟨n, 0, _, _, _, g, rfl, trivial, hb, by omega, fun c hc => by cases hc; omega, by rw [List.drop_zero, List.take_of_length_le (Nat.le_refl _)]⟩), hr⟩
def All16 : Nat → Prop := fun _ => True
def Steps16P (P : Program) (f : FuncId) : Prop := isFn P f = true ∧ ∀ (x : Conf) (n : Int) (far : List Int), ACalls P f [.agg x.v, .int .i64 n, aints far] [] fun r _ => r = .bool true
def Safe16P (P : Program) (f : FuncId) : Prop := isFn P f = true ∧ ∀ (x : Conf) (how n : Int) (far a b : List Int), ACalls P f [.agg x.v, .int .i64 how, .int .i64 n, aints far, aints a, aints b] [] fun r _ => r = .bool true
def Comes16P (P : Program) (f : FuncId) : Prop := isFn P f = true ∧ ∀ (x : Conf) (n : Int), ACalls P f [.agg x.v, .int .i64 n] [] fun r _ => r = .bool true
def Of16P (P : Program) (f : FuncId) : Prop := isFn P f = true ∧ ∀ (x : Hard), (∀ e ∈ x.log.es, bytesOk e.data) → ACalls P f [.agg x.v] [] fun r _ => r = .bool true
def ThreeP (P : Program) (f : FuncId) : Prop := isFn P f = true ∧ ∀ h : AHeap, ACalls P f [] h fun r h' => r = .agg [aints [1, 2, 3], aints [], aints []] ∧ h' = h
theorem three_ok {P : Program} {f : FuncId} (hf : Is P f c_glebelaw16_three) : ThreeP P f := by
  refine ⟨hf.2, fun h => ACalls.freeze (K := fun r h' => r = .agg [.ref (h.length + 1) 1 0 3 (some 3), .nils, .nils] ∧ Ext nof h h' ∧ h'[h.length + 1]? = some (some (.arr 1 ([1, 2, 3].map fun n => [AV.int .i64 n]) false))) (fun_sound hf.1 (Nat.le_of_ble_eq_true rfl) ?_) ?_⟩
  · show vc P c_glebelaw16_three.code ⟨[], [], h⟩ (atEnd c_glebelaw16_three.res _)
    simp only [c_glebelaw16_three, go_sem, reduceIte, Nat.reduceEqDiff, Nat.reduceAdd, Nat.reduceLeDiff, Nat.reducePow, Nat.reduceDiv, Nat.reduceMod, decide_true]
    exact Ext.b2 (h := h) _ _
  · rintro r h' ⟨rfl, hx, hb⟩
    have ow : OwnL (⟨[1, 2, 3], [], []⟩ : Conf).c (fun m => h.length ≤ m) h' [.ref (h.length + 1) 1 0 3 (some 3), .nils, .nils] := own_conf (own_row hb rfl rfl (by omega) (ownLL_ints .i64 _ _ [1, 2, 3])) (Own.nils 1) (Own.nils 1)
    exact ⟨hx, _, Frz.aggD (OwnL.fz _ (fun _ z => z) _ ow), rfl⟩

def confs16 : List Conf := [⟨[], [], []⟩, ⟨[1, 2, 3], [], []⟩, ⟨[3], [], []⟩, ⟨[1], [], [2]⟩, ⟨[1, 2, 3], [1, 2], []⟩, ⟨[1, 2], [3], [4]⟩, ⟨[2, 1], [], []⟩, ⟨[1, 2, 3, 4, 5, 6, 7], [], []⟩, ⟨[1, 5], [], [2, 6]⟩]
def nodes16 : List Int := [-9223372036854775808, -1, 0, 1, 2, 3, 4, 5, 6, 7, 8, 9223372036854775807]
def fars16 : List (List Int) := [[], [2], [2, 6], [1, 2, 3, 4, 5, 6, 7], [0, 9]]

theorem rdL_conf {F : Nat → Prop} {h : AHeap} {x : Conf} {o n e : AV} (h1 : Rd F h (dInts x.old) o) (h2 : Rd F h (dInts x.new) n) (h3 : Rd F h (dInts x.learners) e) : RdL F h x.c [o, n, e] := by
  simp only [Conf.c, RdL]; exact ⟨_, _, rfl, h1, _, _, rfl, h2, _, _, rfl, h3, rfl⟩
theorem works16_ok {P : Program} {f ft fa fn fs : FuncId} (hf : Is P f (c_glebelaw16_works ft fa fn fs)) (ht : ThreeP P ft) (ha : StepP P fa Conf.add) (hn : NextP P fn) (hs : SameConfOk P fs) : YesOk P f := by
  refine ⟨hf.2, fun h => ACalls.freeze (K := fun r h' => r = .bool true ∧ Ext nof h h') (fun_sound hf.1 (Nat.le_of_ble_eq_true rfl) ?_) (fun r _ ⟨e, hx⟩ => ⟨hx, r, by rw [e]; exact Frz.bool _, e⟩)⟩
  show vc P (c_glebelaw16_works ft fa fn fs).code ⟨[], [], h⟩ (atEnd (c_glebelaw16_works ft fa fn fs).res _)
  have rc : ∀ H (x : Conf), RdL All16 H x.c [aints x.old, aints x.new, aints x.learners] := fun h c => by rw [← Conf.v_eq]; exact rd_confv All16 h c
  have e1 : Conf.add ⟨[1, 2, 3], [], []⟩ 4 = (⟨[1, 2, 3], [], [4]⟩, 0) := by decide
  have e2 : Conf.next ⟨[1, 2, 3], [], [4]⟩ [1, 2] = (⟨[1, 2, 3], [], [4]⟩, false) := by decide
  have e3 : Conf.next ⟨[1, 2, 3], [], [4]⟩ [4] = (⟨[1, 2, 3], [1, 2, 3, 4], []⟩, true) := by
    have es : sorted [1, 2, 3, 4] = [1, 2, 3, 4] := List.mergeSort_of_pairwise (by decide)
    unfold Conf.next
    rw [if_neg (by decide), if_neg (by decide)]
    exact congrArg (fun z => ((⟨[1, 2, 3], z, []⟩ : Conf), true)) es
  have e4 : Conf.next ⟨[1, 2, 3], [1, 2, 3, 4], []⟩ [] = (⟨[1, 2, 3, 4], [], []⟩, true) := by decide
  have fw : ∀ {a b c : List Int}, a.length ≤ 4 ∧ b.length ≤ 4 ∧ c.length ≤ 4 → (⟨a, b, c⟩ : Conf).few (2^38) := fun h => ⟨Nat.le_trans h.1 (by decide), Nat.le_trans h.2.1 (by decide), Nat.le_trans h.2.2 (by decide)⟩
  have a1 := fun H => ha.2 All16 H ⟨[1, 2, 3], [], []⟩ _ 4 (rc H _) (fw (by decide))
  simp only [e1, Conf.v_eq] at a1
  simp only [c_glebelaw16_works, go_sem, reduceIte, Nat.reduceEqDiff, Nat.reduceAdd, Nat.reduceLeDiff, Nat.reducePow, Nat.reduceDiv, Nat.reduceMod, decide_true]
  refine use1 ht.1 (ht.2 _) ?_
  simp only [go_sem, reduceIte, Nat.reduceEqDiff, Nat.reduceAdd, Nat.reduceLeDiff, Nat.reducePow, Nat.reduceDiv, Nat.reduceMod, decide_true]
  refine use1 ha.1 (a1 _) ?_
  have a2 := fun H b hb => hn.2 All16 All16 H ⟨[1, 2, 3], [], [4]⟩ [1, 2] _ b (rc H _) hb (fw (by decide)) (by decide)
  have a3 := fun H b hb => hn.2 All16 All16 H ⟨[1, 2, 3], [], [4]⟩ [4] _ b (rc H _) hb (fw (by decide)) (by decide)
  have a4 := fun H b hb => hn.2 All16 All16 H ⟨[1, 2, 3], [1, 2, 3, 4], []⟩ [] _ b (rc H _) hb (fw (by decide)) (by decide)
  simp only [e2, e3, e4, Conf.v_eq] at a2 a3 a4
  simp only [go_sem, reduceIte, Nat.reduceEqDiff, Nat.reduceAdd, Nat.reduceLeDiff, Nat.reducePow, Nat.reduceDiv, Nat.reduceMod, decide_true, scalar_aints]
  refine use1 hn.1 (a2 _ _ (rd_lit (k := .i64) (xs := [1, 2]) (bx21 _ _ _) rfl)) ?_
  simp only [go_sem, reduceIte, Nat.reduceEqDiff, Nat.reduceAdd, Nat.reduceLeDiff, Nat.reducePow, Nat.reduceDiv, Nat.reduceMod, decide_true, scalar_aints]
  refine use1 hn.1 (a3 _ _ (rd_lit (k := .i64) (xs := [4]) (bx43 _ _ _ _ _) rfl)) ?_
  have X1 : Ext nof h (h ++ [some (ABlk.arr 3 [[aints [1, 2, 3], aints [], aints [4]]] false)] ++ [some (ABlk.arr 1 [[.int .i64 1], [.int .i64 2]] false)] ++ [some (ABlk.arr 3 [[aints [1, 2, 3], aints [], aints [4]]] false)] ++ [some (ABlk.arr 1 [[.int .i64 4]] false)]) := Ext.b4 _ _ _ _
  generalize h ++ [some (ABlk.arr 3 [[aints [1, 2, 3], aints [], aints [4]]] false)] ++ [some (ABlk.arr 1 [[.int .i64 1], [.int .i64 2]] false)] ++ [some (ABlk.arr 3 [[aints [1, 2, 3], aints [], aints [4]]] false)] ++ [some (ABlk.arr 1 [[.int .i64 4]] false)] = H1 at *
  simp only [go_sem, reduceIte, Nat.reduceEqDiff, Nat.reduceAdd, Nat.reduceLeDiff, Nat.reducePow, Nat.reduceDiv, Nat.reduceMod, decide_true, scalar_aints]
  refine use1 hn.1 (a4 _ _ (Own.rd (F := nof) _ (fun _ x => x.elim) _ (Own.nils 1))) ?_
  simp only [go_sem, reduceIte, Nat.reduceEqDiff, Nat.reduceAdd, Nat.reduceLeDiff, Nat.reducePow, Nat.reduceDiv, Nat.reduceMod, decide_true, scalar_aints]
  have X2 : Ext nof H1 (H1 ++ [some (ABlk.arr 3 [[aints [1, 2, 3], aints [1, 2, 3, 4], aints []]] false)] ++ [some (ABlk.arr 3 [[aints [1, 2, 3, 4], aints [], aints []]] false)] ++ [some (ABlk.arr 1 [[.int .i64 1], [.int .i64 2], [.int .i64 3]] false)] ++ [some (ABlk.arr 1 [[.int .i64 1], [.int .i64 2], [.int .i64 3], [.int .i64 4]] false)]) := Ext.b4 _ _ _ _
  have r1 := bx42 H1 (some (ABlk.arr 3 [[aints [1, 2, 3], aints [1, 2, 3, 4], aints []]] false)) (some (ABlk.arr 3 [[aints [1, 2, 3, 4], aints [], aints []]] false)) (some (ABlk.arr 1 [[.int .i64 1], [.int .i64 2], [.int .i64 3]] false)) (some (ABlk.arr 1 [[.int .i64 1], [.int .i64 2], [.int .i64 3], [.int .i64 4]] false))
  have r2 := bx43 H1 (some (ABlk.arr 3 [[aints [1, 2, 3], aints [1, 2, 3, 4], aints []]] false)) (some (ABlk.arr 3 [[aints [1, 2, 3, 4], aints [], aints []]] false)) (some (ABlk.arr 1 [[.int .i64 1], [.int .i64 2], [.int .i64 3]] false)) (some (ABlk.arr 1 [[.int .i64 1], [.int .i64 2], [.int .i64 3], [.int .i64 4]] false))
  have r0 := bx41 H1 (some (ABlk.arr 3 [[aints [1, 2, 3], aints [1, 2, 3, 4], aints []]] false)) (some (ABlk.arr 3 [[aints [1, 2, 3, 4], aints [], aints []]] false)) (some (ABlk.arr 1 [[.int .i64 1], [.int .i64 2], [.int .i64 3]] false)) (some (ABlk.arr 1 [[.int .i64 1], [.int .i64 2], [.int .i64 3], [.int .i64 4]] false))
  have X := X1.tr X2
  clear X1 X2
  generalize H1 ++ [some (ABlk.arr 3 [[aints [1, 2, 3], aints [1, 2, 3, 4], aints []]] false)] ++ [some (ABlk.arr 3 [[aints [1, 2, 3, 4], aints [], aints []]] false)] ++ [some (ABlk.arr 1 [[.int .i64 1], [.int .i64 2], [.int .i64 3]] false)] ++ [some (ABlk.arr 1 [[.int .i64 1], [.int .i64 2], [.int .i64 3], [.int .i64 4]] false)] = H2 at *
  have nl : ∀ H, Rd All16 H (dInts []) .nils := fun H => Own.rd (F := nof) _ (fun _ x => x.elim) _ (Own.nils 1)
  refine use1 hs.1 (hs.2 All16 All16 H2 ⟨[1, 2, 3], [1, 2, 3, 4], []⟩ ⟨[1, 2, 3], [1, 2, 3, 4], []⟩ _ _ (rc H2 _) (rdL_conf (rd_lit (k := .i64) (xs := [1, 2, 3]) r1 rfl) (rd_lit (k := .i64) (xs := [1, 2, 3, 4]) r2 rfl) (nl _)) ⟨by simp, by simp, by simp⟩) ?_
  simp only [go_sem, reduceIte, Nat.reduceEqDiff, Nat.reduceAdd, Nat.reduceLeDiff, Nat.reducePow, Nat.reduceDiv, Nat.reduceMod, decide_true, decide_true, r0]
  have r3 := bx10 H2 (some (ABlk.arr 1 [[.int .i64 1], [.int .i64 2], [.int .i64 3], [.int .i64 4]] false))
  refine use1 hs.1 (hs.2 All16 All16 _ ⟨[1, 2, 3, 4], [], []⟩ ⟨[1, 2, 3, 4], [], []⟩ _ _ (rc _ _) (rdL_conf (rd_lit (k := .i64) (xs := [1, 2, 3, 4]) r3 rfl) (nl _) (nl _)) ⟨by simp, by simp, by simp⟩) ?_
  simp only [go_sem, reduceIte, Nat.reduceEqDiff, Nat.reduceAdd, Nat.reduceLeDiff, Nat.reducePow, Nat.reduceDiv, Nat.reduceMod, decide_true, decide_true]
  exact X.tr (Ext.b1 _)

def lit16 (n : Nat) : AHeap := [some (.arr 1 [[.int .i64 3]] false), some (.arr 1 [[.int .i64 1]] false), some (.arr 1 [[.int .i64 2]] false), some (.arr 1 [[.int .i64 1], [.int .i64 2], [.int .i64 3]] false), some (.arr 1 [[.int .i64 1], [.int .i64 2]] false), some (.arr 1 [[.int .i64 1], [.int .i64 2]] false),
  some (.arr 1 [[.int .i64 3]] false), some (.arr 1 [[.int .i64 4]] false), some (.arr 1 [[.int .i64 2], [.int .i64 1]] false), some (.arr 1 [[.int .i64 1], [.int .i64 2], [.int .i64 3], [.int .i64 4], [.int .i64 5], [.int .i64 6], [.int .i64 7]] false), some (.arr 1 [[.int .i64 1], [.int .i64 5]] false), some (.arr 1 [[.int .i64 2], [.int .i64 6]] false),
  some (.arr 3 [[.nils, .nils, .nils], [aints [1, 2, 3], aints [], aints []], [.ref n 1 0 1 (some 1), .nils, .nils], [.ref (n + 1) 1 0 1 (some 1), .nils, .ref (n + 2) 1 0 1 (some 1)], [.ref (n + 3) 1 0 3 (some 3), .ref (n + 4) 1 0 2 (some 2), .nils], [.ref (n + 5) 1 0 2 (some 2), .ref (n + 6) 1 0 1 (some 1), .ref (n + 7) 1 0 1 (some 1)],
    [.ref (n + 8) 1 0 2 (some 2), .nils, .nils], [.ref (n + 9) 1 0 7 (some 7), .nils, .nils], [.ref (n + 10) 1 0 2 (some 2), .nils, .ref (n + 11) 1 0 2 (some 2)]] false),
  some (.arr 1 (nodes16.map fun x => [AV.int .i64 x]) false), some (.arr 1 [[.int .i64 2]] false), some (.arr 1 [[.int .i64 2], [.int .i64 6]] false), some (.arr 1 [[.int .i64 1], [.int .i64 2], [.int .i64 3], [.int .i64 4], [.int .i64 5], [.int .i64 6], [.int .i64 7]] false), some (.arr 1 [[.int .i64 0], [.int .i64 9]] false),
  some (.arr 1 [[.nils], [.ref (n + 14) 1 0 1 (some 1)], [.ref (n + 15) 1 0 2 (some 2)], [.ref (n + 16) 1 0 7 (some 7)], [.ref (n + 17) 1 0 2 (some 2)]] false)]
theorem lit16_at (h : AHeap) (i : Nat) {b : Option (Option ABlk)} (e : (lit16 h.length)[i]? = b) : (h ++ lit16 h.length)[h.length + i]? = b := by
  rw [List.getElem?_append_right (by omega), show h.length + i - h.length = i by omega, e]
theorem vc_heap16 {P : Program} {c : AC} {L R : Env} {h h' : AHeap} {K : AX → St → Prop} (e : h = h') (k : vc P c ⟨L, R, h'⟩ K) : vc P c ⟨L, R, h⟩ K := e ▸ k
theorem nils16 (h : AHeap) : Rd All16 h (dInts []) .nils := Own.rd (F := nof) _ (fun _ x => x.elim) _ (Own.nils 1)
structure Kn16 (h : AHeap) (a b c : AV) : Prop where
  cs : Rd All16 h (.sl 3 (confs16.map Conf.c)) a
  ns : Rd All16 h (dInts nodes16) b
  fs : Rd All16 h (dIR16 fars16) c
theorem Kn16.up {h h' : AHeap} {a b c : AV} (k : Kn16 h a b c) (hx : Ext nof h h') : Kn16 h' a b c := ⟨k.cs.up hx, k.ns.up hx, k.fs.up hx⟩
theorem kn16_lit (h : AHeap) : Kn16 (h ++ lit16 h.length) (.ref (h.length + 12) 3 0 9 (some 9)) (.ref (h.length + 13) 1 0 12 (some 12)) (.ref (h.length + 18) 1 0 5 (some 5)) := by
  have nl := nils16 (h ++ lit16 h.length)
  have rl : ∀ (i : Nat) (xs : List Int) (len : Nat), xs.length = len → (lit16 h.length)[i]? = some (some (.arr 1 (xs.map fun n => [AV.int .i64 n]) false)) → Rd All16 (h ++ lit16 h.length) (dInts xs) (.ref (h.length + i) 1 0 len (some len)) := fun i xs len e1 e2 => rd_lit (k := .i64) (lit16_at h i e2) e1
  have cs : RdLL All16 (h ++ lit16 h.length) (confs16.map Conf.c) [[.nils, .nils, .nils], [aints [1, 2, 3], aints [], aints []], [.ref h.length 1 0 1 (some 1), .nils, .nils], [.ref (h.length + 1) 1 0 1 (some 1), .nils, .ref (h.length + 2) 1 0 1 (some 1)], [.ref (h.length + 3) 1 0 3 (some 3), .ref (h.length + 4) 1 0 2 (some 2), .nils], [.ref (h.length + 5) 1 0 2 (some 2), .ref (h.length + 6) 1 0 1 (some 1), .ref (h.length + 7) 1 0 1 (some 1)],
    [.ref (h.length + 8) 1 0 2 (some 2), .nils, .nils], [.ref (h.length + 9) 1 0 7 (some 7), .nils, .nils], [.ref (h.length + 10) 1 0 2 (some 2), .nils, .ref (h.length + 11) 1 0 2 (some 2)]] :=
    ⟨_, _, rfl, rdL_conf nl nl nl, _, _, rfl, rdL_conf (rd_aints _ _ _) (rd_aints _ _ _) (rd_aints _ _ _), _, _, rfl, rdL_conf (rl 0 [3] 1 rfl rfl) nl nl, _, _, rfl, rdL_conf (rl 1 [1] 1 rfl rfl) nl (rl 2 [2] 1 rfl rfl), _, _, rfl, rdL_conf (rl 3 [1, 2, 3] 3 rfl rfl) (rl 4 [1, 2] 2 rfl rfl) nl, _, _, rfl, rdL_conf (rl 5 [1, 2] 2 rfl rfl) (rl 6 [3] 1 rfl rfl) (rl 7 [4] 1 rfl rfl),
      _, _, rfl, rdL_conf (rl 8 [2, 1] 2 rfl rfl) nl nl, _, _, rfl, rdL_conf (rl 9 [1, 2, 3, 4, 5, 6, 7] 7 rfl rfl) nl nl, _, _, rfl, rdL_conf (rl 10 [1, 5] 2 rfl rfl) nl (rl 11 [2, 6] 2 rfl rfl), rfl⟩
  have fs : RdLL All16 (h ++ lit16 h.length) (fars16.map fun b => [dInts b]) [[.nils], [.ref (h.length + 14) 1 0 1 (some 1)], [.ref (h.length + 15) 1 0 2 (some 2)], [.ref (h.length + 16) 1 0 7 (some 7)], [.ref (h.length + 17) 1 0 2 (some 2)]] :=
    ⟨_, _, rfl, ⟨_, _, rfl, nl, rfl⟩, _, _, rfl, ⟨_, _, rfl, rl 14 [2] 1 rfl rfl, rfl⟩, _, _, rfl, ⟨_, _, rfl, rl 15 [2, 6] 2 rfl rfl, rfl⟩, _, _, rfl, ⟨_, _, rfl, rl 16 [1, 2, 3, 4, 5, 6, 7] 7 rfl rfl, rfl⟩, _, _, rfl, ⟨_, _, rfl, rl 17 [0, 9] 2 rfl rfl, rfl⟩, rfl⟩
  exact ⟨rd_row16 (lit16_at h 12 rfl) rfl cs, rl 13 nodes16 12 rfl rfl, rd_row16 (lit16_at h 18 rfl) rfl fs⟩
theorem Kn16.conf {h : AHeap} {a b c : AV} (k : Kn16 h a b c) {i : Nat} (hi : i < 9) : ∃ p o n e x, aindex 3 a (.int .i64 i) = some p ∧ pcells h p = some [o, n, e] ∧ confs16[i]? = some x ∧ RdL All16 h x.c [o, n, e] ∧ o.scalar = true ∧ n.scalar = true ∧ e.scalar = true := by
  obtain ⟨p, cs, h1, h2, h3⟩ := Rd.index k.cs .i64 (i := (i : Int)) (d := (confs16[i]'hi).c) (by omega) (by rw [show ((i : Int)).toNat = i by omega, List.getElem?_map, List.getElem?_eq_getElem hi]; rfl)
  obtain ⟨o, n, e, rfl, z1, z2, z3⟩ := rd_conf h3
  exact ⟨p, o, n, e, _, h1, h2, List.getElem?_eq_getElem hi, h3, z1.scalar, z2.scalar, z3.scalar⟩
theorem Kn16.node {h : AHeap} {a b c : AV} (k : Kn16 h a b c) {i : Nat} (hi : i < 12) : ∃ p n, aindex 1 b (.int .i64 i) = some p ∧ pcells h p = some [.int .i64 n] := by
  obtain ⟨p, cs, h1, h2, h3⟩ := Rd.index k.ns .i64 (i := (i : Int)) (d := [.int .i64 (nodes16[i]'hi)]) (by omega) (by rw [show ((i : Int)).toNat = i by omega, List.getElem?_map, List.getElem?_eq_getElem hi]; rfl)
  obtain ⟨_, _, rfl, z, rfl⟩ := h3
  simp only [Rd] at z
  subst z
  exact ⟨p, _, h1, h2⟩
theorem Kn16.far {h : AHeap} {a b c : AV} (k : Kn16 h a b c) {i : Nat} (hi : i < 5) : ∃ p v l, aindex 1 c (.int .i64 i) = some p ∧ pcells h p = some [v] ∧ Rd All16 h (dInts l) v := by
  obtain ⟨p, cs, h1, h2, h3⟩ := Rd.index k.fs .i64 (i := (i : Int)) (d := [dInts (fars16[i]'hi)]) (by omega) (by rw [show ((i : Int)).toNat = i by omega, List.getElem?_map, List.getElem?_eq_getElem hi]; rfl)
  obtain ⟨v, _, rfl, z, rfl⟩ := h3
  exact ⟨p, v, _, h1, h2, z⟩

theorem known16_ok {P : Program} {f ft fs fa fc fo fw : FuncId} (hf : Is P f (c_glebelaw16_ConfKnown ft fs fa fc fo fw)) (ht : ThreeP P ft) (hs : Steps16P P fs) (ha : Safe16P P fa) (hc : Comes16P P fc) (ho : Of16P P fo) (hw : YesOk P fw) (h : AHeap) :
    ACalls P f [] h fun r _ => r = .bool true := by
  refine fun_sound hf.1 (Nat.le_of_ble_eq_true rfl) ?_
  show vc P (c_glebelaw16_ConfKnown ft fs fa fc fo fw).code ⟨[], [], h⟩ (atEnd (c_glebelaw16_ConfKnown ft fs fa fc fo fw).res _)
  simp only [c_glebelaw16_ConfKnown, go_sem, reduceIte, Nat.reduceEqDiff, Nat.reduceAdd, Nat.reduceLeDiff, Nat.reducePow, Nat.reduceDiv, Nat.reduceMod, decide_true]
  refine use1 ht.1 (ht.2 _) ?_
  simp only [go_sem, reduceIte, Nat.reduceEqDiff, Nat.reduceAdd, Nat.reduceLeDiff, Nat.reducePow, Nat.reduceDiv, Nat.reduceMod, decide_true, scalar_aints]
  refine vc_heap16 (h' := h ++ lit16 h.length) (by simp [lit16, nodes16, Nat.add_assoc]) ?_
  have kn := kn16_lit h
  rw [show h.length + 1 + 1 + 1 + 1 + 1 + 1 + 1 + 1 + 1 + 1 + 1 + 1 = h.length + 12 from rfl]
  have la1 : alen (.ref (h.length + 12) 3 0 9 (some 9)) = some (.int .i64 9) := rfl
  have la2 : alen (.ref (h.length + 13) 1 0 12 (some 12)) = some (.int .i64 12) := rfl
  have la3 : alen (.ref (h.length + 18) 1 0 5 (some 5)) = some (.int .i64 5) := rfl
  change vc P _ ⟨ins 4 (.int .i64 0) (ins 3 (.ref (h.length + 18) 1 0 5 (some 5)) (ins 2 (.ref (h.length + 13) 1 0 12 (some 12)) (ins 1 (.ref (h.length + 12) 3 0 9 (some 9)) (ins 0 (.bool false) [])))), [], _⟩ _
  generalize AV.ref (h.length + 12) 3 0 9 (some 9) = a at *
  generalize AV.ref (h.length + 13) 1 0 12 (some 12) = b at *
  generalize AV.ref (h.length + 18) 1 0 5 (some 5) = c at *
  generalize h ++ lit16 h.length = H at *
  obtain ⟨I, hI⟩ : ∃ I : Nat → Env → AHeap → Prop, ∀ m L h', I m L h' ↔ ∃ i : Nat, lk 1 L = a ∧ lk 2 L = b ∧ lk 3 L = c ∧ lk 4 L = .int .i64 i ∧ Kn16 h' a b c ∧ i ≤ 9 ∧ m = 9 - i := ⟨_, fun _ _ _ => Iff.rfl⟩
  refine vc_loop I 9 ((hI _ _ _).2 ⟨0, by simp [lk_ins, lk_cons], by simp [lk_ins, lk_cons], by simp [lk_ins, lk_cons], by simp [lk_ins, lk_cons], kn, by omega, by omega⟩) ?_
  clear kn
  intro m L H1 hh
  obtain ⟨i, k1, k2, k3, k4, kn, hi, rfl⟩ := (hI _ _ _).1 hh
  simp only [c_glebelaw16_ConfKnown_l2, go_sem, reduceIte, Nat.reduceEqDiff, Nat.reduceAdd, Nat.reduceLeDiff, Nat.reducePow, Nat.reduceDiv, Nat.reduceMod, decide_true, k1, k4, la1]
  refine wCond_split (fun ci => ?_) (fun ci => ?_)
  rotate_left
  · simp only [go_sem, reduceIte, Nat.reduceEqDiff, Nat.reduceAdd, Nat.reduceLeDiff, Nat.reducePow, Nat.reduceDiv, Nat.reduceMod, decide_true]
    refine use1 hw.1 (hw.2 _) ?_
    simp only [go_sem, reduceIte, Nat.reduceEqDiff, Nat.reduceAdd, Nat.reduceLeDiff, Nat.reducePow, Nat.reduceDiv, Nat.reduceMod, decide_true]
  simp at ci
  have ci : i < 9 := by omega
  have ewi : IntKind.i64.wrap ((i : Int) + 1) = ((i + 1 : Nat) : Int) := by rw [wrap_i64 (by omega)]; omega
  simp only [go_sem, reduceIte, Nat.reduceEqDiff, Nat.reduceAdd, Nat.reduceLeDiff, Nat.reducePow, Nat.reduceDiv, Nat.reduceMod, decide_true, k1, k2, k3, k4]
  obtain ⟨J, hJ⟩ : ∃ J : Nat → Env → AHeap → Prop, ∀ m L h', J m L h' ↔ ∃ k : Nat, lk 1 L = a ∧ lk 2 L = b ∧ lk 3 L = c ∧ lk 4 L = .int .i64 i ∧ lk 5 L = .int .i64 k ∧ Kn16 h' a b c ∧ k ≤ 12 ∧ m = 12 - k := ⟨_, fun _ _ _ => Iff.rfl⟩
  refine vc_loop J 12 ((hJ _ _ _).2 ⟨0, by simp [lk_ins, k1], by simp [lk_ins, k2], by simp [lk_ins, k3], by simp [lk_ins, k4], by simp [lk_ins], kn, by omega, by omega⟩) ?_
  clear k1 k2 k3 k4 kn
  intro m L H2 hh
  obtain ⟨k, k1, k2, k3, k4, k5, kn, hk12, rfl⟩ := (hJ _ _ _).1 hh
  simp only [c_glebelaw16_ConfKnown_l1, go_sem, reduceIte, Nat.reduceEqDiff, Nat.reduceAdd, Nat.reduceLeDiff, Nat.reducePow, Nat.reduceDiv, Nat.reduceMod, decide_true, k2, k5, la2]
  refine wCond_split (fun ck => ?_) (fun ck => ?_)
  · simp at ck
    have ck : k < 12 := by omega
    have ewk : IntKind.i64.wrap ((k : Int) + 1) = ((k + 1 : Nat) : Int) := by rw [wrap_i64 (by omega)]; omega
    simp only [go_sem, reduceIte, Nat.reduceEqDiff, Nat.reduceAdd, Nat.reduceLeDiff, Nat.reducePow, Nat.reduceDiv, Nat.reduceMod, decide_true, k1, k2, k3, k4, k5]
    obtain ⟨K, hK⟩ : ∃ K : Nat → Env → AHeap → Prop, ∀ m L h', K m L h' ↔ ∃ w : Nat, lk 1 L = a ∧ lk 2 L = b ∧ lk 3 L = c ∧ lk 4 L = .int .i64 i ∧ lk 5 L = .int .i64 k ∧ lk 6 L = .int .i64 w ∧ Kn16 h' a b c ∧ w ≤ 5 ∧ m = 5 - w := ⟨_, fun _ _ _ => Iff.rfl⟩
    refine vc_loop K 5 ((hK _ _ _).2 ⟨0, by simp [lk_ins, k1], by simp [lk_ins, k2], by simp [lk_ins, k3], by simp [lk_ins, k4], by simp [lk_ins, k5], by simp [lk_ins], kn, by omega, by omega⟩) ?_
    clear k1 k2 k3 k4 k5 kn
    intro m L H3 hh
    obtain ⟨w, k1, k2, k3, k4, k5, k6, kn, hw5, rfl⟩ := (hK _ _ _).1 hh
    obtain ⟨p, o, n, e, x, q1, q2, q3, q4, s1, s2, s3⟩ := kn.conf ci
    obtain ⟨p2, nd, r1, r2⟩ := kn.node ck
    have lp : ∀ h', Ext nof H3 h' → aload h' true 3 p = some (.agg [o, n, e]) := fun h' hx => by rw [aload_p (pup q2 hx)]; rfl
    have lp2 : ∀ h', Ext nof H3 h' → aload h' false 1 p2 = some (.int .i64 nd) := fun h' hx => by rw [aload_p (pup r2 hx)]; rfl
    have lp0 := lp _ (Ext.refl _ _)
    have lp20 := lp2 _ (Ext.refl _ _)
    have nr1 := notRes_of0 q2
    have nr2 := notRes_of0 r2
    simp only [c_glebelaw16_ConfKnown_l0, go_sem, reduceIte, Nat.reduceEqDiff, Nat.reduceAdd, Nat.reduceLeDiff, Nat.reducePow, Nat.reduceDiv, Nat.reduceMod, decide_true, k3, k6, la3]
    refine wCond_split (fun cw => ?_) (fun cw => ?_)
    · simp at cw
      have cw : w < 5 := by omega
      obtain ⟨p3, fv, far, t1, t2, t3⟩ := kn.far cw
      have sf := t3.scalar
      have lp3 : ∀ h', Ext nof H3 h' → aload h' false 1 p3 = some fv := fun h' hx => by rw [aload_p (pup t2 hx)]; simp [takeCells, sf]
      have lp30 := lp3 _ (Ext.refl _ _)
      have lpx := fun x y => lp _ (Ext.b2 x y)
      have lp2x := fun x y => lp2 _ (Ext.b2 x y)
      have lp3x := fun x y => lp3 _ (Ext.b2 x y)
      have nr3 := notRes_of0 t2
      have eww : IntKind.i64.wrap ((w : Int) + 1) = ((w + 1 : Nat) : Int) := by rw [wrap_i64 (by omega)]; omega
      simp only [go_sem, reduceIte, Nat.reduceEqDiff, Nat.reduceAdd, Nat.reduceLeDiff, Nat.reducePow, Nat.reduceDiv, Nat.reduceMod, decide_true, k1, k2, k3, k4, k5, k6, q1, r1, t1, lpx, lp2x, lp3x, nr1, nr2, nr3, s1, s2, s3, sf, loose_cons]
      refine use1 hs.1 (law_gen (hs.2 x nd far) (AsL.agg (RdL.up q4 (Ext.b2 _ _)) (AsL.int _ _ (AsL.d (t3.up (Ext.b2 _ _)) AsL.nil)))) ?_
      simp only [go_sem, reduceIte, Nat.reduceEqDiff, Nat.reduceAdd, Nat.reduceLeDiff, Nat.reducePow, Nat.reduceDiv, Nat.reduceMod, decide_true, k1, k2, k3, k4, k5, k6, q1, r1, t1, lpx, lp2x, lp3x, nr1, nr2, nr3, s1, s2, s3, sf, loose_cons, Bool.not_true]
      refine use1 ha.1 (law_gen (ha.2 x k nd far [1, 2, 3, 5] [1, 2, 4, 6, 3]) (AsL.agg (RdL.up q4 (Ext.b2 _ _)) (AsL.int _ _ (AsL.int _ _ (AsL.d (t3.up (Ext.b2 _ _)) (AsL.d (rd_lit (k := .i64) (xs := [1, 2, 3, 5]) (bx20 H3 _ _) rfl) (AsL.d (rd_lit (k := .i64) (xs := [1, 2, 4, 6, 3]) (bx21 H3 _ _) rfl) AsL.nil))))))) ?_
      have kn5 := kn.up (Ext.b2 (h := H3) (some (ABlk.arr 1 [[.int .i64 1], [.int .i64 2], [.int .i64 3], [.int .i64 5]] false)) (some (ABlk.arr 1 [[.int .i64 1], [.int .i64 2], [.int .i64 4], [.int .i64 6], [.int .i64 3]] false)))
      simp only [go_sem, reduceIte, Nat.reduceEqDiff, Nat.reduceAdd, Nat.reduceLeDiff, Nat.reducePow, Nat.reduceDiv, Nat.reduceMod, decide_true, k1, k2, k3, k4, k5, k6, q1, r1, t1, lpx, lp2x, lp3x, nr1, nr2, nr3, s1, s2, s3, sf, loose_cons, Bool.not_true, eww]
      exact ⟨by simp, _, by omega, (hK _ _ _).2 ⟨w + 1, by simp [lk_ins, k1], by simp [lk_ins, k2], by simp [lk_ins, k3], by simp [lk_ins, k4], by simp [lk_ins, k5], by simp [lk_ins], kn5, by omega, rfl⟩⟩
    · simp at cw
      simp only [go_sem, reduceIte, Nat.reduceEqDiff, Nat.reduceAdd, Nat.reduceLeDiff, Nat.reducePow, Nat.reduceDiv, Nat.reduceMod, decide_true, k1, k2, k3, k4, k5, k6, q1, r1, lp0, lp20, nr1, nr2, s1, s2, s3, loose_cons]
      refine use1 hc.1 (law_gen (hc.2 x nd) (AsL.agg q4 (AsL.int _ _ AsL.nil))) ?_
      simp only [go_sem, reduceIte, Nat.reduceEqDiff, Nat.reduceAdd, Nat.reduceLeDiff, Nat.reducePow, Nat.reduceDiv, Nat.reduceMod, decide_true, k1, k2, k3, k4, k5, k6, q1, r1, lp0, lp20, nr1, nr2, s1, s2, s3, loose_cons, ewk]
      exact ⟨_, by omega, (hJ _ _ _).2 ⟨k + 1, by simp [lk_ins, k1], by simp [lk_ins, k2], by simp [lk_ins, k3], by simp [lk_ins, k4], by simp [lk_ins], kn, by omega, rfl⟩⟩
  · obtain ⟨p, o, n, e, x, q1, q2, q3, q4, s1, s2, s3⟩ := kn.conf ci
    have lp : ∀ h', Ext nof H2 h' → aload h' true 3 p = some (.agg [o, n, e]) := fun h' hx => by rw [aload_p (pup q2 hx)]; rfl
    have lp0 := lp _ (Ext.refl _ _)
    have sr : ∀ n len cap, (AV.ref n 1 0 len cap).scalar = true := fun _ _ _ => rfl
    simp only [go_sem, reduceIte, Nat.reduceEqDiff, Nat.reduceAdd, Nat.reduceLeDiff, Nat.reducePow, Nat.reduceDiv, Nat.reduceMod, decide_true, k1, k2, k3, k4, q1, lp0, s1, s2, s3]
    have X3 : Ext nof H2 (H2 ++ [some (ABlk.arr 1 [[.int .u8 9]] false)] ++ [some (ABlk.arr 3 [[.int .i64 0, .int .i64 2, .ref H2.length 1 0 1 (some 1)], [.int .i64 0, .int .i64 1, .nils]] false)] ++ [some (ABlk.arr 10 [[.int .i64 0, .int .i64 0, .int .i64 0, .int .i64 i, .int .i64 0, .ref (H2.length + 1) 3 0 2 (some 2), o, n, e, .nils]] false)]) := Ext.b3 _ _ _
    have b0 := bx30 H2 (some (ABlk.arr 1 [[.int .u8 9]] false)) (some (ABlk.arr 3 [[.int .i64 0, .int .i64 2, .ref H2.length 1 0 1 (some 1)], [.int .i64 0, .int .i64 1, .nils]] false)) (some (ABlk.arr 10 [[.int .i64 0, .int .i64 0, .int .i64 0, .int .i64 i, .int .i64 0, .ref (H2.length + 1) 3 0 2 (some 2), o, n, e, .nils]] false))
    have b1 := bx31 H2 (some (ABlk.arr 1 [[.int .u8 9]] false)) (some (ABlk.arr 3 [[.int .i64 0, .int .i64 2, .ref H2.length 1 0 1 (some 1)], [.int .i64 0, .int .i64 1, .nils]] false)) (some (ABlk.arr 10 [[.int .i64 0, .int .i64 0, .int .i64 0, .int .i64 i, .int .i64 0, .ref (H2.length + 1) 3 0 2 (some 2), o, n, e, .nils]] false))
    have kn3 := kn.up X3
    have q43 := RdL.up q4 X3
    have lp3 := lp _ X3
    generalize H2 ++ [some (ABlk.arr 1 [[.int .u8 9]] false)] ++ [some (ABlk.arr 3 [[.int .i64 0, .int .i64 2, .ref H2.length 1 0 1 (some 1)], [.int .i64 0, .int .i64 1, .nils]] false)] ++ [some (ABlk.arr 10 [[.int .i64 0, .int .i64 0, .int .i64 0, .int .i64 i, .int .i64 0, .ref (H2.length + 1) 3 0 2 (some 2), o, n, e, .nils]] false)] = H4 at *
    have nl := nils16 H4
    have nb : Rd All16 H4 (dBytes []) .nils := Own.rd (F := nof) _ (fun _ x => x.elim) _ (Own.nils 1)
    have ne : Rd All16 H4 (dEntries []) .nils := Own.rd (F := nof) _ (fun _ x => x.elim) _ (Own.nils 3)
    have re : Rd All16 H4 (dEntries [⟨0, 2, [9]⟩, ⟨0, 1, []⟩]) (.ref (H2.length + 1) 3 0 2 (some 2)) := rd_row16 b1 rfl ⟨_, _, rfl, ⟨_, _, rfl, rfl, _, _, rfl, rfl, _, _, rfl, rd_lit (k := .u8) (xs := [9]) b0 rfl, rfl⟩, _, _, rfl, ⟨_, _, rfl, rfl, _, _, rfl, rfl, _, _, rfl, nb, rfl⟩, rfl⟩
    obtain ⟨o', n', e', ez, z1, z2, z3⟩ := rd_conf q43
    obtain ⟨rfl, rfl, rfl⟩ : o = o' ∧ n = n' ∧ e = e' := by simpa using ez
    refine use1 ho.1 (law_gen (ho.2 ⟨0, 0, 0, ⟨i, 0, [⟨0, 2, [9]⟩, ⟨0, 1, []⟩]⟩, x, []⟩ ?_) (AsL.agg (F := All16) ⟨_, _, rfl, rfl, _, _, rfl, rfl, _, _, rfl, rfl, _, _, rfl, rfl, _, _, rfl, rfl, _, _, rfl, re, _, _, rfl, z1, _, _, rfl, z2, _, _, rfl, z3, _, _, rfl, nb, rfl⟩ AsL.nil)) ?_
    · intro y hy
      simp at hy
      rcases hy with rfl | rfl
      · intro v hv; simp at hv; omega
      · exact fun v hv => by cases hv
    simp only [go_sem, reduceIte, Nat.reduceEqDiff, Nat.reduceAdd, Nat.reduceLeDiff, Nat.reducePow, Nat.reduceDiv, Nat.reduceMod, decide_true, k1, k2, k3, k4, q1, lp3, s1, s2, s3, Bool.not_true]
    refine use1 ho.1 (law_gen (ho.2 ⟨0, 0, 0, ⟨0, 0, []⟩, x, []⟩ (fun y hy => by simp at hy)) (AsL.agg (F := All16) ⟨_, _, rfl, rfl, _, _, rfl, rfl, _, _, rfl, rfl, _, _, rfl, rfl, _, _, rfl, rfl, _, _, rfl, ne, _, _, rfl, z1, _, _, rfl, z2, _, _, rfl, z3, _, _, rfl, nb, rfl⟩ AsL.nil)) ?_
    simp only [go_sem, reduceIte, Nat.reduceEqDiff, Nat.reduceAdd, Nat.reduceLeDiff, Nat.reducePow, Nat.reduceDiv, Nat.reduceMod, decide_true, k1, k2, k3, k4, Bool.not_true, ewi]
    exact ⟨_, by omega, (hI _ _ _).2 ⟨i + 1, by simp [lk_ins, k1], by simp [lk_ins, k2], by simp [lk_ins, k3], by simp [lk_ins], kn3, by omega, rfl⟩⟩

end Glb
