/-
  A library of its own: its parts, one behind the other.
-/
import Derived.Test.YthbhbgnngmfpiaaGlbSecA
import Derived.Test.YthbhbgnngmfpiaaGlbTurA
import Derived.Test.YthbhbgnngmfpiaaGlbCgleberef04
import Derived.Test.YthbhbgnngmfpiaaGlbImgB
set_option linter.unusedSimpArgs false
set_option linter.unusedVariables false
/-
  Layer 4: the document's lists.
-/
namespace Glb
open Go
set_option maxRecDepth 10000
set_option maxHeartbeats 4000000

def Sec.c (s : Sec) : List D := [.int .i64 s.no, dBytes s.b, .bool s.torn]
def dSecs (l : List Sec) : D := .sl 3 (l.map Sec.c)
def asecs (l : List Sec) : AV := (dSecs l).av
def Sec.v (s : Sec) : List AV := D.avL s.c
theorem Sec.v_eq (s : Sec) : s.v = [.int .i64 s.no, abytes s.b, .bool s.torn] := by simp only [Sec.v, Sec.c, D.avL, D.av]; rfl
theorem rd_asecs (F : Nat → Prop) (h : AHeap) (l : List Sec) : Rd F h (dSecs l) (asecs l) := rd_av _ _ _
theorem len_asecs (l : List Sec) : alen (asecs l) = some (.int .i64 l.length) := by simpa using (rd_asecs nof [] l).len
theorem scalar_asecs (l : List Sec) : (asecs l).scalar = true := av_scalar _
theorem cells_asecs (l : List Sec) : (asecs l).cells? = some [asecs l] := cells_of (av_scalar _)
attribute [go_sem] len_asecs scalar_asecs cells_asecs

/-- arguments that are also these -/
theorem ACalls.sub {P : Program} {f : FuncId} {avs avs' : List AV} {h : AHeap} {K : AV → AHeap → Prop} (hc : ACalls P f avs' h K) (ha : ∀ G w vs, VL G w avs vs → VL G w avs' vs) : ACalls P f avs h K :=
  fun G w vs g hv => hc G w vs g (ha G w vs hv)
def Sub (a a' : AV) : Prop := ∀ G w v, V G w a v → V G w a' v
theorem Sub.refl (a : AV) : Sub a a := fun _ _ _ h => h
theorem Sub.nils (sz : Nat) : Sub .nils (.vals 0 false sz []) := fun _ _ _ h => by cases h; exact .valsNil _ _ _
def SubL : List AV → List AV → Prop
  | [], l => l = []
  | a :: r, l => ∃ b q, l = b :: q ∧ Sub a b ∧ SubL r q
theorem SubL.get : ∀ {l l' : List AV}, SubL l l' → l'.length = l.length ∧ ∀ (j : Nat) (b : AV), l'[j]? = some b → ∃ a, l[j]? = some a ∧ Sub a b := by
  intro l
  induction l with
  | nil => intro l' hh; simp only [SubL] at hh; subst hh; exact ⟨rfl, fun j a h => by simp at h⟩
  | cons a r ih =>
    intro l' hh
    simp only [SubL] at hh
    obtain ⟨b, q, rfl, h1, h2⟩ := hh
    obtain ⟨e, f⟩ := ih h2
    refine ⟨by simp [e], fun j c hj => ?_⟩
    cases j with
    | zero => simp at hj; subst hj; exact ⟨a, rfl, h1⟩
    | succ j => simpa using f j c (by simpa using hj)
theorem SubL.vl {l l' : List AV} (hs : SubL l l') : ∀ G w vs, VL G w l vs → VL G w l' vs := by
  intro G w vs hv
  obtain ⟨e, f⟩ := hs.get
  refine ⟨by rw [e]; exact hv.1, fun j b v hb hv' => ?_⟩
  obtain ⟨a, h1, h2⟩ := f j b hb
  exact h2 G w v (hv.2 j a v h1 hv')
theorem Sub.agg {l l' : List AV} (hs : SubL l l') : Sub (.agg l) (.agg l') := by
  intro G w v hv
  cases hv with
  | agg _ vs hl hV =>
    obtain ⟨e, f⟩ := hs.get
    refine .agg _ _ (by rw [e]; exact hl) fun j b v hb hv' => ?_
    obtain ⟨a, h1, h2⟩ := f j b hb
    exact h2 G w v (hV j a v h1 hv')

/-- a list's cell -/
def SecsV (l : List Sec) (a : AV) : Prop := a = asecs l ∨ (a = .nils ∧ l = [])
theorem SecsV.sub {l : List Sec} {a : AV} (h : SecsV l a) : Sub a (asecs l) := by
  rcases h with rfl | ⟨rfl, rfl⟩
  · exact Sub.refl _
  · exact Sub.nils 3
theorem SecsV.len {l : List Sec} {a : AV} (h : SecsV l a) : alen a = some (.int .i64 l.length) := by
  rcases h with rfl | ⟨rfl, rfl⟩
  · exact len_asecs _
  · rfl
theorem SecsV.at {l : List Sec} {a : AV} (h : SecsV l a) {i : Nat} (hi : i < l.length) : ∃ p, aindex 3 a (.int .i64 i) = some p ∧ ∀ h, pcells h p = some l[i].v := by
  rcases h with rfl | ⟨rfl, rfl⟩
  · exact index_av 3 Sec.c l .i64 hi
  · simp at hi
def SecV (s : Sec) (S : List AV) : Prop := S = s.v ∨ (s.b = [] ∧ S = [.int .i64 s.no, .nils, .bool s.torn])
theorem SecV.sub {s : Sec} {S : List AV} (h : SecV s S) : Sub (.agg S) (.agg s.v) := by
  rcases h with rfl | ⟨e, rfl⟩
  · exact Sub.refl _
  · rw [Sec.v_eq, e]
    exact Sub.agg ⟨_, _, rfl, Sub.refl _, _, _, rfl, Sub.nils 1, _, _, rfl, Sub.refl _, rfl⟩

def PutSOk (P : Program) (f : FuncId) : Prop := isFn P f = true ∧ ∀ (h : AHeap) (l : List Sec) (s : Sec) (L : AV) (S : List AV), SecsV l L → SecV s S → rises l → l.length ≤ 2^30 →
  ACalls P f [L, .agg S] h fun r h' => r = asecs (sput l s) ∧ h' = h
def sidx : List Sec → Int → Int
  | [], _ => -1
  | x :: r, k => if x.no = k then 0 else if sidx r k = -1 then -1 else sidx r k + 1
def FindSOk (P : Program) (f : FuncId) : Prop := isFn P f = true ∧ ∀ (h : AHeap) (l : List Sec) (k : Int) (L : AV), SecsV l L → l.length ≤ 2^30 →
  ACalls P f [L, .int .i64 k] h fun r h' => (∃ n : Int, r = .int .i64 n ∧ ((n = -1 ∧ sfind l k = none) ∨ ∃ (i : Nat) (hi : i < l.length), n = i ∧ sfind l k = some l[i])) ∧ h' = h

theorem sput_length (l : List Sec) (s : Sec) : (sput l s).length ≤ l.length + 1 := by
  induction l with
  | nil => simp [sput]
  | cons x r ih => simp only [sput]; split; · simpa using ih
                   split <;> simp

theorem sfind_at {l : List Sec} {k : Int} {i : Nat} (hn : ∀ j (hj : j < l.length), j < i → l[j].no ≠ k) (hi : i < l.length) (c : l[i].no = k) : sfind l k = some l[i] := by
  induction l generalizing i with
  | nil => simp at hi
  | cons x r ih =>
    simp only [sfind]
    cases i with
    | zero => simp at c; rw [if_pos c]; rfl
    | succ i =>
      have h0 := hn 0 (by simp) (by omega)
      simp only [List.getElem_cons_zero] at h0
      rw [if_neg h0]
      simp only [List.getElem_cons_succ] at c ⊢
      exact ih (fun j hj hji => by have := hn (j + 1) (by simpa using hj) (by omega); simpa using this) (by simpa using hi) c

theorem find_ok {P : Program} {f : FuncId} (hf : Is P f c_gleberef04_find) : FindSOk P f := by
  refine ⟨hf.2, fun h l k L hL hl => ACalls.freeze (K := fun r h' => (∃ n : Int, r = .int .i64 n ∧ ((n = -1 ∧ sfind l k = none) ∨ ∃ (i : Nat) (hi : i < l.length), n = i ∧ sfind l k = some l[i])) ∧ Ext nof h h') (fun_sound hf.1 (Nat.le_of_ble_eq_true rfl) ?_)
    (fun r _ ⟨⟨n, e, hn⟩, hx⟩ => ⟨hx, r, by rw [e]; exact Frz.int _ _, n, e, hn⟩)⟩
  show vc P c_gleberef04_find.code ⟨[(0, L), (1, .int .i64 k)], [], h⟩ (atEnd c_gleberef04_find.res _)
  simp only [c_gleberef04_find, go_sem, reduceIte, Nat.reduceEqDiff, Nat.reduceAdd, Nat.reduceLeDiff, Nat.reducePow, Nat.reduceDiv, Nat.reduceMod, decide_true]
  obtain ⟨I, hI⟩ : ∃ I : Nat → Env → AHeap → Prop, ∀ m E h', I m E h' ↔ ∃ (i : Nat), lk 0 E = L ∧ lk 1 E = .int .i64 k ∧ lk 5 E = .int .i64 i ∧ h' = h ∧ (∀ j (hj : j < l.length), j < i → l[j].no ≠ k) ∧ i ≤ l.length ∧ m = l.length - i := ⟨_, fun _ _ _ => Iff.rfl⟩
  refine vc_loop I l.length ((hI _ _ _).2 ⟨0, by simp [lk_ins, lk_cons], by simp [lk_ins, lk_cons], by simp [lk_ins], rfl, fun j _ hj => by omega, by omega, by omega⟩) ?_
  intro m E h2 hh
  obtain ⟨i, k0, k1, k5, rfl, hn, hi, rfl⟩ := (hI _ _ _).1 hh
  have la := hL.len
  simp only [c_gleberef04_find_l0, go_sem, reduceIte, Nat.reduceEqDiff, Nat.reduceAdd, Nat.reduceLeDiff, Nat.reducePow, Nat.reduceDiv, Nat.reduceMod, decide_true, k0, k1, k5, la]
  refine wCond_split (fun ci => ?_) (fun ci => ?_)
  · simp at ci
    obtain ⟨p, hp1, hp2⟩ := hL.at ci
    have ld : aload h2 false 1 (poff 0 p) = some (.int .i64 l[i].no) := by rw [aload_off (hp2 h2), Sec.v_eq]; rfl
    have ew : IntKind.i64.wrap (↑i + 1) = (i : Int) + 1 := wrap_i64 (by omega)
    by_cases c : l[i].no = k
    · simp only [go_sem, reduceIte, Nat.reduceEqDiff, Nat.reduceAdd, Nat.reduceLeDiff, Nat.reducePow, Nat.reduceDiv, Nat.reduceMod, decide_true, k0, k1, k5, hp1, afield_p (hp2 h2), ld, decide_eq_true c]
      refine ⟨⟨_, rfl, .inr ⟨i, ci, rfl, ?_⟩⟩, Ext.refl _ _⟩
      exact sfind_at hn ci c
    · simp only [go_sem, reduceIte, Nat.reduceEqDiff, Nat.reduceAdd, Nat.reduceLeDiff, Nat.reducePow, Nat.reduceDiv, Nat.reduceMod, decide_true, k0, k1, k5, hp1, afield_p (hp2 h2), ld, decide_eq_false c, ew]
      refine ⟨_, by omega, (hI _ _ _).2 ⟨i + 1, by simp [lk_ins, k0], by simp [lk_ins, k1], by simp [lk_ins], rfl, fun j hj hji => ?_, ci, rfl⟩⟩
      by_cases e : j = i
      · subst e; exact c
      · exact hn j hj (by omega)
  · simp at ci
    obtain rfl : i = l.length := by omega
    simp only [go_sem, reduceIte, Nat.reduceEqDiff, Nat.reduceAdd, Nat.reduceLeDiff, Nat.reducePow, Nat.reduceDiv, Nat.reduceMod, decide_true]
    refine ⟨⟨_, rfl, .inl ⟨rfl, ?_⟩⟩, Ext.refl _ _⟩
    rw [sfind_none]
    intro s hs
    obtain ⟨j, hj, rfl⟩ := List.getElem_of_mem hs
    exact hn j hj hj

theorem sput_lt {l : List Sec} {s : Sec} {i : Nat} (hi : i < l.length) (c : l[i].no < s.no) : sput (l.drop i) s = l[i] :: sput (l.drop (i + 1)) s := by
  rw [List.drop_eq_getElem_cons hi, sput, if_pos c]
theorem sput_ge {l : List Sec} {s : Sec} {i : Nat} (hi : i < l.length) (c : ¬ l[i].no < s.no) : sput (l.drop i) s = s :: (if l[i].no = s.no then l.drop (i + 1) else l.drop i) := by
  rw [List.drop_eq_getElem_cons hi, sput, if_neg c]
  split <;> rfl
theorem rises_at {l : List Sec} (h : rises l) {i j : Nat} (hij : i < j) (hj : j < l.length) : (l[i]'(by omega)).no < l[j].no := by
  unfold rises at h
  exact List.pairwise_iff_getElem.1 h i j (by omega) hj hij

theorem app_sec {lo : Nat} {h2 : AHeap} {o : AV} {out : List Sec} (hO : OwnO lo h2 3 o (D.avLL (out.map Sec.c))) (hlo : lo ≤ h2.length) (x : Sec) (hb : out.length ≤ 2^31) :
    ∃ o2 h3, aappend (h2 ++ [some (.arr 3 [x.v] false)]) 3 40 o (.ref h2.length 3 0 1 (some 1)) = some (o2, h3) ∧ OwnO lo h3 3 o2 (D.avLL ((out ++ [x]).map Sec.c)) ∧ (∀ m, m < lo → h3[m]? = h2[m]?) ∧ h2.length ≤ h3.length := by
  obtain ⟨o2, h3, s1, s2, s3⟩ := acc_app (bytes := 40) (h := h2 ++ [some (.arr 3 [x.v] false)]) (ys := [x.v]) hO (Ext.b1 _) hlo (by simp [avLL_length]; omega)
  refine ⟨o2, h3, ?_, ?_, fun m hm => ?_, ?_⟩
  · rw [aappend_of (aelems_new h2 3 [x.v] false (some 1) (len := 1) rfl)]; exact s1
  · have : D.avLL ((out ++ [x]).map Sec.c) = D.avLL (out.map Sec.c) ++ [x.v] := by rw [avLL_map, avLL_map]; simp only [List.map_append, List.map_cons, List.map_nil]; rfl
    rw [this]; exact s2
  · rw [s3.2 m (by simp; omega) (by omega)]
    exact List.getElem?_append_left (by omega)
  · have := s3.1; simp at this; omega
theorem Ext.lows {h h' h2 : AHeap} (e : Ext nof h h2) (hs : ∀ m, m < h.length → h'[m]? = h2[m]?) (hl : h2.length ≤ h'.length) : Ext nof h h' := ⟨Nat.le_trans e.1 hl, fun m hm _ => (hs m hm).trans (e.2 m hm (fun x => x))⟩

theorem put_ok {P : Program} {f : FuncId} (hf : Is P f c_gleberef04_put) : PutSOk P f := by
  refine ⟨hf.2, fun h l s L S hL hS hr hl => ?_⟩
  refine ACalls.sub (avs' := [asecs l, .agg s.v]) ?_ (SubL.vl ⟨_, _, rfl, hL.sub, _, _, rfl, hS.sub, rfl⟩)
  clear hL hS L S
  refine ACalls.freeze (K := fun r h' => OwnO (h.length + 1) h' 3 r (D.avLL ((sput l s).map Sec.c)) ∧ Ext nof h h') (fun_sound hf.1 (Nat.le_of_ble_eq_true rfl) ?_) (fun _ _ hk => ⟨hk.2, _, Frz.d (OwnO.fz hk.1 (Nat.le_succ _)), rfl⟩)
  show vc P c_gleberef04_put.code ⟨[(0, asecs l), (1, .agg s.v)], [], h⟩ (atEnd c_gleberef04_put.res _)
  have sv : s.v.all AV.scalar = true := avL_scalars _
  have sl : s.v.length = 3 := rfl
  have sl1 : (AV.agg s.v).cells? = some s.v := rfl
  simp only [c_gleberef04_put, go_sem, reduceIte, Nat.reduceEqDiff, Nat.reduceAdd, Nat.reduceLeDiff, Nat.reducePow, Nat.reduceDiv, Nat.reduceMod, decide_true, sv, sl]
  have B := bx10 h (some (.arr 3 [s.v] false))
  have X := Ext.b1 (h := h) (some (.arr 3 [s.v] false))
  have hL1 : (h ++ [some (ABlk.arr 3 [s.v] false)]).length = h.length + 1 := by simp
  generalize h ++ [some (ABlk.arr 3 [s.v] false)] = H at *
  obtain ⟨n0, hn0⟩ : ∃ n, h.length = n := ⟨_, rfl⟩
  rw [hn0] at B hL1 ⊢
  obtain ⟨I, hI⟩ : ∃ I : Nat → Env → AHeap → Prop, ∀ m E h', I m E h' ↔ ∃ (i : Nat) (laid : Bool) (o : AV) (out : List Sec), lk 0 E = asecs l ∧ lk 3 E = .ptr n0 3 0 0 ∧ lk 5 E = o ∧ lk 6 E = .bool laid ∧ lk 7 E = .int .i64 i ∧
      h'[n0]? = some (some (.arr 3 [s.v] false)) ∧ OwnO (n0 + 1) h' 3 o (D.avLL (out.map Sec.c)) ∧ Ext nof h h' ∧ n0 + 1 ≤ h'.length ∧ (laid = false → out ++ sput (l.drop i) s = sput l s) ∧ (laid = true → out ++ l.drop i = sput l s ∧ ∀ j (hj : j < l.length), i ≤ j → s.no < l[j].no) ∧ i ≤ l.length ∧ m = l.length - i := ⟨_, fun _ _ _ => Iff.rfl⟩
  refine vc_loop I l.length ((hI _ _ _).2 ⟨0, false, .nils, [], by simp [lk_ins, lk_cons], by simp [lk_ins, lk_cons], by simp [lk_ins, lk_cons], by simp [lk_ins], by simp [lk_ins], B, .inl ⟨rfl, by simp [D.avLL]⟩, X, by omega, fun _ => rfl, fun x => (by cases x), by omega, by omega⟩) ?_
  clear B X hL1
  intro m E h2 hh
  obtain ⟨i, laid, o, out, k0, k3, k5, k6, k7, B, hO, hE, hlen, q1, q2, hi, rfl⟩ := (hI _ _ _).1 hh
  simp only [c_gleberef04_put_l0, go_sem, reduceIte, Nat.reduceEqDiff, Nat.reduceAdd, Nat.reduceLeDiff, Nat.reducePow, Nat.reduceDiv, Nat.reduceMod, decide_true, k0, k3, k5, k6, k7]
  refine wCond_split (fun ci => ?_) (fun ci => ?_)
  · simp at ci
    obtain ⟨p, hp1, hp2⟩ := index_av 3 Sec.c l .i64 (i := i) ci
    change aindex 3 (asecs l) _ = some p at hp1
    change ∀ h, pcells h p = some l[i].v at hp2
    have ld : ∀ h, aload h false 1 (poff 0 p) = some (.int .i64 l[i].no) := fun h => by rw [aload_off (hp2 h), Sec.v_eq]; rfl
    have ld3 : ∀ h, aload h true 3 p = some (.agg l[i].v) := fun h => by rw [aload_p (hp2 h), take_agg, if_pos (by rw [Sec.v_eq]; simp), List.take_of_length_le (by rw [Sec.v_eq]; simp)]
    have ew : IntKind.i64.wrap (↑i + 1) = (i : Int) + 1 := wrap_i64 (by omega)
    have sn : ∀ h : AHeap, h[n0]? = some (some (.arr 3 [s.v] false)) → aload h false 1 (.ptr n0 3 0 0) = some (.int .i64 s.no) := fun h hb => by
      rw [aload_p (cs := s.v) (by simp [pcells, hb]), Sec.v_eq]; rfl
    have sn3 : ∀ h : AHeap, h[n0]? = some (some (.arr 3 [s.v] false)) → aload h true 3 (.ptr n0 3 0 0) = some (.agg s.v) := fun h hb => by
      rw [aload_p (cs := s.v) (by simp [pcells, hb]), take_agg, if_pos (by rw [Sec.v_eq]; simp), List.take_of_length_le (by rw [Sec.v_eq]; simp)]
    have xv : l[i].v.all AV.scalar = true := avL_scalars _
    have xl : l[i].v.length = 3 := rfl
    have e0 : poff 0 (.ptr n0 3 0 0) = .ptr n0 3 0 0 := rfl
    have ob : out.length ≤ l.length + 1 := by
      have := sput_length l s
      cases laid with
      | false => have := congrArg List.length (q1 rfl); simp at this; omega
      | true => have := congrArg List.length (q2 rfl).1; simp at this; omega
    cases laid with
    | true =>
      have q := (q2 rfl)
      have hne : ¬ l[i].no = s.no := by have := q.2 i ci (Nat.le_refl _); omega
      obtain ⟨o2, h3, a1, a2, a3, a4⟩ := app_sec hO hlen l[i] (by omega)
      simp only [go_sem, reduceIte, Nat.reduceEqDiff, Nat.reduceAdd, Nat.reduceLeDiff, Nat.reducePow, Nat.reduceDiv, Nat.reduceMod, decide_true, k0, k3, k5, k6, k7, hp1, afield_p (hp2 h2), ld, ld3, sn h2 B, decide_eq_false hne, xv, xl, a1, ew]
      refine ⟨_, by omega, (hI _ _ _).2 ⟨i + 1, true, o2, out ++ [l[i]], by simp [lk_ins, k0], by simp [lk_ins, k3], by simp [lk_ins], by simp [lk_ins, k6], by simp [lk_ins], by rw [a3 _ (by omega)]; exact B, a2, hE.lows (fun m hm => a3 m (by omega)) a4, by omega, fun x => (by cases x), fun _ => ⟨?_, fun j hj hij => q.2 j hj (by omega)⟩, ci, rfl⟩⟩
      rw [← q.1, List.drop_eq_getElem_cons ci]; simp
    | false =>
      have q := q1 rfl
      by_cases c : l[i].no < s.no
      · have c' : ¬ s.no ≤ l[i].no := by omega
        have hne : ¬ l[i].no = s.no := by omega
        obtain ⟨o2, h3, a1, a2, a3, a4⟩ := app_sec hO hlen l[i] (by omega)
        simp only [go_sem, reduceIte, Nat.reduceEqDiff, Nat.reduceAdd, Nat.reduceLeDiff, Nat.reducePow, Nat.reduceDiv, Nat.reduceMod, decide_true, k0, k3, k5, k6, k7, hp1, afield_p (hp2 h2), ld, ld3, sn h2 B, decide_eq_false hne, decide_eq_false c', xv, xl, a1, ew]
        refine ⟨_, by omega, (hI _ _ _).2 ⟨i + 1, false, o2, out ++ [l[i]], by simp [lk_ins, k0], by simp [lk_ins, k3], by simp [lk_ins], by simp [lk_ins, k6], by simp [lk_ins], by rw [a3 _ (by omega)]; exact B, a2, hE.lows (fun m hm => a3 m (by omega)) a4, by omega, fun _ => ?_, fun x => (by cases x), ci, rfl⟩⟩
        rw [← q, sput_lt ci c]; simp
      · have c' : s.no ≤ l[i].no := by omega
        rw [sput_ge ci c] at q
        obtain ⟨o2, h3, a1, a2, a3, a4⟩ := app_sec hO hlen s (by omega)
        have B3 : h3[n0]? = some (some (.arr 3 [s.v] false)) := by rw [a3 _ (by omega)]; exact B
        by_cases ce : l[i].no = s.no
        · rw [if_pos ce] at q
          simp only [go_sem, reduceIte, Nat.reduceEqDiff, Nat.reduceAdd, Nat.reduceLeDiff, Nat.reducePow, Nat.reduceDiv, Nat.reduceMod, decide_true, k0, k3, k5, k6, k7, hp1, afield_p (hp2 h2), ld, ld3, sn h2 B, sn3 h2 B, sv, sl, sn h3 B3, decide_eq_true ce, decide_eq_true c', a1, ew]
          refine ⟨_, by omega, (hI _ _ _).2 ⟨i + 1, true, o2, out ++ [s], by simp [lk_ins, k0], by simp [lk_ins, k3], by simp [lk_ins], by simp [lk_ins, k6], by simp [lk_ins], B3, a2, hE.lows (fun m hm => a3 m (by omega)) a4, by omega, fun x => (by cases x), fun _ => ⟨?_, fun j hj hij => ?_⟩, ci, rfl⟩⟩
          · rw [← q]; simp
          · have := rises_at hr (i := i) (j := j) (by omega) hj; omega
        · rw [if_neg ce] at q
          obtain ⟨o4, h5, b1, b2, b3, b4⟩ := app_sec a2 (by omega) l[i] (by simp; omega)
          simp only [go_sem, reduceIte, Nat.reduceEqDiff, Nat.reduceAdd, Nat.reduceLeDiff, Nat.reducePow, Nat.reduceDiv, Nat.reduceMod, decide_true, k0, k3, k5, k6, k7, hp1, afield_p (hp2 h2), ld, ld3, sn h2 B, sn3 h2 B, sv, sl, sn h3 B3, decide_eq_false ce, decide_eq_true c', a1, xv, xl, b1, ew]
          refine ⟨_, by omega, (hI _ _ _).2 ⟨i + 1, true, o4, out ++ [s] ++ [l[i]], by simp [lk_ins, k0], by simp [lk_ins, k3], by simp [lk_ins], by simp [lk_ins, k6], by simp [lk_ins], by rw [b3 _ (by omega)]; exact B3, b2, hE.lows (fun m hm => by rw [b3 m (by omega), a3 m (by omega)]) (by omega), by omega, fun x => (by cases x), fun _ => ⟨?_, fun j hj hij => ?_⟩, ci, rfl⟩⟩
          · rw [← q, List.drop_eq_getElem_cons ci]; simp
          · have := rises_at hr (i := i) (j := j) (by omega) hj; omega
  · simp at ci
    obtain rfl : i = l.length := by omega
    rw [List.drop_length] at q1 q2
    cases laid with
    | true =>
      have q2 := (q2 rfl).1
      rw [List.append_nil] at q2
      rw [q2] at hO
      simp only [go_sem, reduceIte, Nat.reduceEqDiff, Nat.reduceAdd, Nat.reduceLeDiff, Nat.reducePow, Nat.reduceDiv, Nat.reduceMod, decide_true, k5, k6]
      exact ⟨hO, hE⟩
    | false =>
      have q1 := q1 rfl
      simp only [sput] at q1
      obtain ⟨o2, h3, a1, a2, a3, a4⟩ := app_sec hO hlen s (by have := sput_length l s; have := congrArg List.length q1; simp at this; omega)
      rw [q1] at a2
      have sn3 : aload h2 true 3 (.ptr n0 3 0 0) = some (.agg s.v) := by
        rw [aload_p (cs := s.v) (by simp [pcells, B]), take_agg, if_pos (by rw [Sec.v_eq]; simp), List.take_of_length_le (by rw [Sec.v_eq]; simp)]
      simp only [go_sem, reduceIte, Nat.reduceEqDiff, Nat.reduceAdd, Nat.reduceLeDiff, Nat.reducePow, Nat.reduceDiv, Nat.reduceMod, decide_true, k3, k5, k6, sn3, sv, sl, a1]
      exact ⟨a2, hE.lows (fun m hm => a3 m (by omega)) a4⟩

end Glb

/-
  Layer 4: the document's disk.
-/
namespace Glb
open Go
set_option maxRecDepth 10000
set_option maxHeartbeats 4000000

structure RefAt (h : AHeap) (q : Nat) (x : Dk) : Prop where
  ex : ∃ L C, h[q]? = some (some (.arr 5 [[.int .i64 x.n, .int .i64 x.left, .bool x.off, L, C]] false)) ∧ SecsV x.lasts L ∧ SecsV x.cache C
  ok : x.ok
theorem RefAt.lt {h q x} (a : RefAt h q x) : q < h.length := by obtain ⟨L, C, hb, _⟩ := a.ex; exact (List.getElem?_eq_some_iff.1 hb).1
theorem RefAt.up {h h' : AHeap} {q x} (a : RefAt h q x) (e : h'[q]? = h[q]?) : RefAt h' q x := by obtain ⟨⟨L, C, hb, h1⟩, h2⟩ := a; exact ⟨⟨L, C, e.trans hb, h1⟩, h2⟩

def XNewOk (P : Program) (f : FuncId) : Prop := isFn P f = true ∧ ∀ (h : AHeap) (n : Int),
  ACalls P f [.int .i64 n] h fun r h' => (1 ≤ n ∧ n ≤ 16384 → r = .tup [.ptr h.length 5 0 0, .int .i64 0] ∧ RefAt h' h.length (.new n) ∧ h'.length = h.length + 1) ∧
    (¬ (1 ≤ n ∧ n ≤ 16384) → r = .tup [.raw (.pointer none), .int .i64 3]) ∧ Ext nof h h'
def DoneOk (P : Program) (f : FuncId) : Prop := isFn P f = true ∧ ∀ (h : AHeap) (q : Nat) (x : Dk), RefAt h q x →
  ACalls P f [.ptr q 5 0 0] h fun r h' => r = .bool x.spend.1 ∧ RefAt h' q x.spend.2 ∧ Ext (only q) h h' ∧ h'.length = h.length
def XArmOk (P : Program) (f : FuncId) : Prop := isFn P f = true ∧ ∀ (h : AHeap) (q : Nat) (x : Dk) (n : Int), RefAt h q x → n ≤ 9223372036854775807 →
  ACalls P f [.ptr q 5 0 0, .int .i64 n] h fun _ h' => RefAt h' q (x.arm n) ∧ Ext (only q) h h' ∧ h'.length = h.length
def XWriteOk (P : Program) (f : FuncId) : Prop := isFn P f = true ∧ ∀ (G : Nat → Prop) (h : AHeap) (q : Nat) (x : Dk) (i : Int) (l : List Int) (a : AV), RefAt h q x → Rd G h (dBytes l) a → ¬ G q → l.length ≤ 2^40 →
  ACalls P f [.ptr q 5 0 0, .int .i64 i, a] h fun r h' => r = .int .i64 (x.write i l).2 ∧ RefAt h' q (x.write i l).1 ∧ Ext (only q) h h' ∧ h'.length = h.length
def XFlushOk (P : Program) (f : FuncId) : Prop := isFn P f = true ∧ ∀ (h : AHeap) (q : Nat) (x : Dk), RefAt h q x →
  ACalls P f [.ptr q 5 0 0] h fun r h' => r = .int .i64 x.flush.2 ∧ RefAt h' q x.flush.1 ∧ Ext (only q) h h' ∧ h'.length = h.length
def XCrashOk (P : Program) (f : FuncId) : Prop := isFn P f = true ∧ ∀ (G : Nat → Prop) (h : AHeap) (q : Nat) (x : Dk) (how : List Int) (a : AV), RefAt h q x → Rd G h (dInts how) a → ¬ G q → how.length ≤ 2^40 →
  ACalls P f [.ptr q 5 0 0, a] h fun _ h' => RefAt h' q (x.crash how) ∧ Ext (only q) h h' ∧ h'.length = h.length
def XReadOk (P : Program) (f : FuncId) : Prop := isFn P f = true ∧ ∀ (h : AHeap) (q : Nat) (x : Dk) (i : Int), RefAt h q x →
  ACalls P f [.ptr q 5 0 0, .int .i64 i] h fun r h' => (∃ a, r = .tup [a, .int .i64 (x.read i).2] ∧ (∀ h, Rd nof h (dBytes (x.read i).1) a)) ∧ h' = h
def XDirtyOk (P : Program) (f : FuncId) : Prop := isFn P f = true ∧ ∀ (h : AHeap) (q : Nat) (x : Dk), RefAt h q x →
  ACalls P f [.ptr q 5 0 0] h fun r h' => r = aints x.dirty ∧ h' = h

theorem xnew_ok {P : Program} {f : FuncId} (hf : Is P f c_gleberef04_New) : XNewOk P f := by
  refine ⟨hf.2, fun h n => fun_sound hf.1 (Nat.le_of_ble_eq_true rfl) ?_⟩
  show vc P c_gleberef04_New.code ⟨[(0, .int .i64 n)], [], h⟩ (atEnd c_gleberef04_New.res _)
  by_cases c1 : n < 1
  · simp only [c_gleberef04_New, go_sem, reduceIte, Nat.reduceEqDiff, Nat.reduceAdd, Nat.reduceLeDiff, Nat.reducePow, Nat.reduceDiv, Nat.reduceMod, decide_true, decide_eq_true c1]
    exact ⟨fun x => by omega, fun _ => trivial, Ext.refl _ _⟩
  · by_cases c2 : 16384 < n
    · simp only [c_gleberef04_New, go_sem, reduceIte, Nat.reduceEqDiff, Nat.reduceAdd, Nat.reduceLeDiff, Nat.reducePow, Nat.reduceDiv, Nat.reduceMod, decide_true, decide_eq_false c1, decide_eq_true c2]
      exact ⟨fun x => by omega, fun _ => trivial, Ext.refl _ _⟩
    · simp only [c_gleberef04_New, go_sem, reduceIte, Nat.reduceEqDiff, Nat.reduceAdd, Nat.reduceLeDiff, Nat.reducePow, Nat.reduceDiv, Nat.reduceMod, decide_true, decide_eq_false c1, decide_eq_false c2]
      exact ⟨fun x => ⟨⟨.nils, .nils, bx10 _ _, .inr ⟨rfl, rfl⟩, .inr ⟨rfl, rfl⟩⟩, Dk.new_ok x⟩, fun x => by omega, Ext.b1 _⟩

/-- the row written over -/
theorem RefAt.set {h : AHeap} {q : Nat} (lt : q < h.length) {x : Dk} {L C : AV} (h1 : SecsV x.lasts L) (h2 : SecsV x.cache C) (h3 : x.ok) :
    RefAt (h.set q (some (.arr 5 [[.int .i64 x.n, .int .i64 x.left, .bool x.off, L, C]] false))) q x ∧ Ext (only q) h (h.set q (some (.arr 5 [[.int .i64 x.n, .int .i64 x.left, .bool x.off, L, C]] false))) ∧
      (h.set q (some (.arr 5 [[.int .i64 x.n, .int .i64 x.left, .bool x.off, L, C]] false))).length = h.length :=
  ⟨⟨⟨L, C, List.getElem?_set_self lt, h1, h2⟩, h3⟩, Ext.set _ (fun _ => rfl), List.length_set⟩

theorem done_ok {P : Program} {f : FuncId} (hf : Is P f c_gleberef04_Disk_Done) : DoneOk P f := by
  refine ⟨hf.2, fun h q x ha => fun_sound hf.1 (Nat.le_of_ble_eq_true rfl) ?_⟩
  show vc P c_gleberef04_Disk_Done.code ⟨[(0, .ptr q 5 0 0)], [], h⟩ (atEnd c_gleberef04_Disk_Done.res _)
  have lt := ha.lt
  have ha' := ha
  obtain ⟨⟨L, C, B, hL, hC⟩, ok⟩ := ha'
  have ks := Dk.spend_ok ok
  unfold Dk.spend at ks ⊢
  by_cases c2 : x.left = 0
  · simp only [c_gleberef04_Disk_Done, go_sem, reduceIte, Nat.reduceEqDiff, Nat.reduceAdd, Nat.reduceLeDiff, Nat.reducePow, Nat.reduceDiv, Nat.reduceMod, decide_true, B, decide_eq_true c2, lt]
    rw [if_pos c2] at ks ⊢
    exact ⟨rfl, RefAt.set lt (x := { x with off := true }) hL hC ks⟩
  · rw [if_neg c2] at ks ⊢
    by_cases c1 : 0 < x.left
    · have ew : IntKind.i64.wrap (x.left - 1) = x.left - 1 := wrap_i64 (by have := ok.left; omega)
      rw [if_pos c1] at ks ⊢
      simp only [c_gleberef04_Disk_Done, go_sem, reduceIte, Nat.reduceEqDiff, Nat.reduceAdd, Nat.reduceLeDiff, Nat.reducePow, Nat.reduceDiv, Nat.reduceMod, decide_true, B, decide_eq_false c2, decide_eq_true c1, lt, ew]
      exact RefAt.set lt (x := { x with left := x.left - 1 }) hL hC ks
    · rw [if_neg c1] at ks ⊢
      simp only [c_gleberef04_Disk_Done, go_sem, reduceIte, Nat.reduceEqDiff, Nat.reduceAdd, Nat.reduceLeDiff, Nat.reducePow, Nat.reduceDiv, Nat.reduceMod, decide_true, B, decide_eq_false c2, decide_eq_false c1]
      exact ⟨ha, Ext.refl _ _⟩

theorem xarm_ok {P : Program} {f : FuncId} (hf : Is P f c_gleberef04_Disk_Arm) : XArmOk P f := by
  refine ⟨hf.2, fun h q x n ha hn => fun_sound hf.1 (Nat.le_of_ble_eq_true rfl) ?_⟩
  show vc P c_gleberef04_Disk_Arm.code ⟨[(0, .ptr q 5 0 0), (1, .int .i64 n)], [], h⟩ (atEnd c_gleberef04_Disk_Arm.res _)
  have lt := ha.lt
  obtain ⟨⟨L, C, B, hL, hC⟩, ok⟩ := ha
  have ks := Dk.arm_ok ok hn
  unfold Dk.arm at ks ⊢
  by_cases c : n < 0
  · simp only [if_pos c] at ks ⊢
    simp only [c_gleberef04_Disk_Arm, go_sem, reduceIte, Nat.reduceEqDiff, Nat.reduceAdd, Nat.reduceLeDiff, Nat.reducePow, Nat.reduceDiv, Nat.reduceMod, decide_true, B, lt, decide_eq_true c]
    have := RefAt.set lt (x := { x with left := -1 }) hL hC ks
    simpa using this
  · simp only [if_neg c] at ks ⊢
    simp only [c_gleberef04_Disk_Arm, go_sem, reduceIte, Nat.reduceEqDiff, Nat.reduceAdd, Nat.reduceLeDiff, Nat.reducePow, Nat.reduceDiv, Nat.reduceMod, decide_true, B, lt, decide_eq_false c]
    exact RefAt.set lt (x := { x with left := n }) hL hC ks

theorem xwrite_ok {P : Program} {f g1 g2 g3 : FuncId} (hf : Is P f (c_gleberef04_Disk_Write g1 g2 g3)) (h1 : DoneOk P g1) (h2 : CopyOk P g2 .u8) (h3 : PutSOk P g3) : XWriteOk P f := by
  refine ⟨hf.2, fun G h q x i b v ha hb hG hl => fun_sound hf.1 (Nat.le_of_ble_eq_true rfl) ?_⟩
  show vc P (c_gleberef04_Disk_Write g1 g2 g3).code ⟨[(0, .ptr q 5 0 0), (1, .int .i64 i), (2, v)], [], h⟩ (atEnd (c_gleberef04_Disk_Write g1 g2 g3).res _)
  have hwk := Dk.write_ok ha.ok i b
  have lt := ha.lt
  have ha' := ha
  obtain ⟨⟨L, C, B, hL, hC⟩, ok⟩ := ha'
  have el := hb.bytes_len
  unfold Dk.write at hwk ⊢
  cases eo : x.off with
  | true =>
    rw [if_pos rfl]
    simp only [c_gleberef04_Disk_Write, go_sem, reduceIte, Nat.reduceEqDiff, Nat.reduceAdd, Nat.reduceLeDiff, Nat.reducePow, Nat.reduceDiv, Nat.reduceMod, decide_true, B, eo]
    exact ⟨ha, Ext.refl _ _⟩
  | false =>
    rw [eo] at hwk
    rw [if_neg (by simp)] at hwk ⊢
    by_cases c0 : i < 0
    · rw [if_pos (.inl c0)]
      simp only [c_gleberef04_Disk_Write, go_sem, reduceIte, Nat.reduceEqDiff, Nat.reduceAdd, Nat.reduceLeDiff, Nat.reducePow, Nat.reduceDiv, Nat.reduceMod, decide_true, B, eo, decide_eq_true c0]
      exact ⟨ha, Ext.refl _ _⟩
    · by_cases c1 : x.n ≤ i
      · rw [if_pos (.inr c1)]
        simp only [c_gleberef04_Disk_Write, go_sem, reduceIte, Nat.reduceEqDiff, Nat.reduceAdd, Nat.reduceLeDiff, Nat.reducePow, Nat.reduceDiv, Nat.reduceMod, decide_true, B, eo, decide_eq_false c0, decide_eq_true c1]
        exact ⟨ha, Ext.refl _ _⟩
      · rw [if_neg (by omega)] at hwk ⊢
        by_cases c2 : 64 < (b.length : Int)
        · rw [if_pos (by omega)]
          simp only [c_gleberef04_Disk_Write, go_sem, reduceIte, Nat.reduceEqDiff, Nat.reduceAdd, Nat.reduceLeDiff, Nat.reducePow, Nat.reduceDiv, Nat.reduceMod, decide_true, B, eo, decide_eq_false c0, decide_eq_false c1, decide_eq_true c2, el]
          exact ⟨ha, Ext.refl _ _⟩
        · rw [if_neg (by omega)] at hwk ⊢
          simp only [c_gleberef04_Disk_Write, go_sem, reduceIte, Nat.reduceEqDiff, Nat.reduceAdd, Nat.reduceLeDiff, Nat.reducePow, Nat.reduceDiv, Nat.reduceMod, decide_true, B, eo, decide_eq_false c0, decide_eq_false c1, decide_eq_false c2, el]
          refine wCall_use ⟨h1.1, h1.2 h q x ha⟩ ?_
          rintro _ H ⟨rfl, ha1, x1, l1⟩
          cases es : x.spend.1 with
          | false =>
            rw [if_neg (by simp)]
            simp only [go_sem, reduceIte, Nat.reduceEqDiff, Nat.reduceAdd, Nat.reduceLeDiff, Nat.reducePow, Nat.reduceDiv, Nat.reduceMod, decide_true, es, Bool.not_false]
            exact ⟨ha1, x1, l1⟩
          | true =>
            rw [es, if_pos rfl] at hwk
            rw [if_pos rfl]
            simp only [go_sem, reduceIte, Nat.reduceEqDiff, Nat.reduceAdd, Nat.reduceLeDiff, Nat.reducePow, Nat.reduceDiv, Nat.reduceMod, decide_true, es, Bool.not_true]
            have lt' := ha1.lt
            obtain ⟨⟨L', C', B', hL', hC'⟩, ok'⟩ := ha1
            have hb' := Rd.mono (fun _ x => x) (x1.keepOff (F' := G) fun m _ hm e => hG (e ▸ hm)) _ _ hb
            simp only [go_sem, reduceIte, Nat.reduceEqDiff, Nat.reduceAdd, Nat.reduceLeDiff, Nat.reducePow, Nat.reduceDiv, Nat.reduceMod, decide_true, B']
            refine use1 h2.1 (h2.gb hb' hl) ?_
            simp only [go_sem, reduceIte, Nat.reduceEqDiff, Nat.reduceAdd, Nat.reduceLeDiff, Nat.reducePow, Nat.reduceDiv, Nat.reduceMod, decide_true, B']
            rw [Dk.spend_cache] at hC'
            refine use1 h3.1 (h3.2 H x.cache ⟨i, b, false⟩ C' _ hC' (.inl (Sec.v_eq ⟨i, b, false⟩).symm) ok.cache.1 ?_) ?_
            · have := ok.n; have := rises_len ok.cache.1 (a := 0) (b := x.n) fun s hs => ⟨(ok.cache.2 s hs).1, (ok.cache.2 s hs).2.1⟩; omega
            simp only [go_sem, reduceIte, Nat.reduceEqDiff, Nat.reduceAdd, Nat.reduceLeDiff, Nat.reducePow, Nat.reduceDiv, Nat.reduceMod, decide_true, B', lt']
            have := RefAt.set lt' (x := { x.spend.2 with cache := sput x.cache ⟨i, b, false⟩ }) hL' (.inl rfl) hwk
            exact ⟨this.1, x1.trans this.2.1 (fun _ _ x => x) (fun _ _ x => x), this.2.2.trans l1⟩

theorem Dk.ok.clen {x : Dk} (h : x.ok) : x.cache.length ≤ 16384 := by
  have := h.n; have := rises_len h.cache.1 (a := 0) (b := x.n) fun s hs => ⟨(h.cache.2 s hs).1, (h.cache.2 s hs).2.1⟩; omega
theorem Dk.ok.llen {x : Dk} (h : x.ok) : x.lasts.length ≤ 16384 := by
  have := h.n; have := rises_len h.lasts.1 (a := 0) (b := x.n) fun s hs => ⟨(h.lasts.2 s hs).1, (h.lasts.2 s hs).2.1⟩; omega
theorem SecsV.ld {l : List Sec} {i : Nat} (hi : i < l.length) {p : AV} (hp : ∀ h, pcells h p = some l[i].v) (h : AHeap) : aload h true 3 p = some (.agg l[i].v) := by
  rw [aload_p (hp h), take_agg, if_pos (by rw [Sec.v_eq]; simp), List.take_of_length_le (by rw [Sec.v_eq]; simp)]

theorem xflush_ok {P : Program} {f g1 g2 : FuncId} (hf : Is P f (c_gleberef04_Disk_Flush g1 g2)) (h1 : DoneOk P g1) (h2 : PutSOk P g2) : XFlushOk P f := by
  refine ⟨hf.2, fun h q x ha => fun_sound hf.1 (Nat.le_of_ble_eq_true rfl) ?_⟩
  show vc P (c_gleberef04_Disk_Flush g1 g2).code ⟨[(0, .ptr q 5 0 0)], [], h⟩ (atEnd (c_gleberef04_Disk_Flush g1 g2).res _)
  have hwk := Dk.flush_ok ha.ok
  have lt := ha.lt
  have ha' := ha
  obtain ⟨⟨L, C, B, hL, hC⟩, ok⟩ := ha'
  unfold Dk.flush at hwk ⊢
  cases eo : x.off with
  | true =>
    rw [if_pos rfl]
    simp only [c_gleberef04_Disk_Flush, go_sem, reduceIte, Nat.reduceEqDiff, Nat.reduceAdd, Nat.reduceLeDiff, Nat.reducePow, Nat.reduceDiv, Nat.reduceMod, decide_true, B, eo]
    exact ⟨ha, Ext.refl _ _⟩
  | false =>
    rw [eo] at hwk
    rw [if_neg (by simp)] at hwk ⊢
    simp only [c_gleberef04_Disk_Flush, go_sem, reduceIte, Nat.reduceEqDiff, Nat.reduceAdd, Nat.reduceLeDiff, Nat.reducePow, Nat.reduceDiv, Nat.reduceMod, decide_true, B, eo]
    refine wCall_use ⟨h1.1, h1.2 h q x ha⟩ ?_
    rintro _ H ⟨rfl, ha1, x1, l1⟩
    cases es : x.spend.1 with
    | false =>
      rw [if_neg (by simp)]
      simp only [go_sem, reduceIte, Nat.reduceEqDiff, Nat.reduceAdd, Nat.reduceLeDiff, Nat.reducePow, Nat.reduceDiv, Nat.reduceMod, decide_true, es, Bool.not_false]
      exact ⟨ha1, x1, l1⟩
    | true =>
      rw [es, if_pos rfl] at hwk
      rw [if_pos rfl]
      simp only [go_sem, reduceIte, Nat.reduceEqDiff, Nat.reduceAdd, Nat.reduceLeDiff, Nat.reducePow, Nat.reduceDiv, Nat.reduceMod, decide_true, es, Bool.not_true]
      have cl := ok.clen
      obtain ⟨I, hI⟩ : ∃ I : Nat → Env → AHeap → Prop, ∀ m E h', I m E h' ↔ ∃ (i : Nat) (l : List Sec), lk 0 E = .ptr q 5 0 0 ∧ lk 3 E = .int .i64 i ∧
        RefAt h' q { x.spend.2 with lasts := l } ∧ Ext (only q) h h' ∧ h'.length = h.length ∧ (x.cache.drop i).foldl sput l = x.cache.foldl sput x.lasts ∧ i ≤ x.cache.length ∧ m = x.cache.length - i := ⟨_, fun _ _ _ => Iff.rfl⟩
      refine vc_loop I x.cache.length ((hI _ _ _).2 ⟨0, x.lasts, by simp [lk_ins, lk_cons], by simp [lk_ins], ?_, x1, l1, rfl, by omega, by omega⟩) ?_
      · rw [← Dk.spend_lasts x]; exact ha1
      intro m E H2 hh
      obtain ⟨i, ls, k0, k3, ha2, x2, l2, ef, hi, rfl⟩ := (hI _ _ _).1 hh
      have ha2' := ha2
      obtain ⟨⟨L2, C2, B2, hL2, hC2⟩, ok2⟩ := ha2'
      have lt2 := ha2.lt
      change SecsV x.spend.2.cache C2 at hC2
      rw [Dk.spend_cache] at hC2
      have lc := hC2.len
      simp only [c_gleberef04_Disk_Flush_l0, go_sem, reduceIte, Nat.reduceEqDiff, Nat.reduceAdd, Nat.reduceLeDiff, Nat.reducePow, Nat.reduceDiv, Nat.reduceMod, decide_true, k0, k3, B2, lc]
      refine wCond_split (fun ci => ?_) (fun ci => ?_)
      · simp at ci
        obtain ⟨p, hp1, hp2⟩ := hC2.at ci
        have ld3 := SecsV.ld ci hp2
        have ew : IntKind.i64.wrap (↑i + 1) = (i : Int) + 1 := wrap_i64 (by omega)
        have hs : x.cache[i] ∈ x.cache := List.getElem_mem ci
        have hsr := ok.cache.2 _ hs
        have hl2 : rises ls ∧ ∀ s ∈ ls, 0 ≤ s.no ∧ s.no < x.spend.2.n ∧ s.b.length ≤ 64 := ok2.lasts
        simp only [go_sem, reduceIte, Nat.reduceEqDiff, Nat.reduceAdd, Nat.reduceLeDiff, Nat.reducePow, Nat.reduceDiv, Nat.reduceMod, decide_true, k0, k3, B2, hp1, ld3]
        refine use1 h2.1 (h2.2 H2 ls x.cache[i] L2 _ hL2 (.inl rfl) hl2.1 (Nat.le_trans ok2.llen (by decide))) ?_
        have okn := Dk.ok.mk (d := { x.spend.2 with lasts := sput ls x.cache[i] }) ok2.n ok2.left (lasts_put hl2 (by rw [Dk.spend_n]; exact ⟨hsr.1, hsr.2.1, hsr.2.2.1⟩)) ok2.cache
        have nw := RefAt.set lt2 (x := { x.spend.2 with lasts := sput ls x.cache[i] }) (L := asecs (sput ls x.cache[i])) (C := C2) (.inl rfl) (by simp only [Dk.spend_cache]; exact hC2) okn
        simp only [go_sem, reduceIte, Nat.reduceEqDiff, Nat.reduceAdd, Nat.reduceLeDiff, Nat.reducePow, Nat.reduceDiv, Nat.reduceMod, decide_true, k0, k3, B2, hp1, ld3, lt2, ew]
        refine ⟨_, by omega, (hI _ _ _).2 ⟨i + 1, sput ls x.cache[i], by simp [lk_ins, k0], by simp [lk_ins], nw.1, x2.trans nw.2.1 (fun _ _ x => x) (fun _ _ x => x), nw.2.2.trans l2, ?_, by omega, rfl⟩⟩
        rw [← fold_at ci]; exact ef
      · simp at ci
        have ci : i = x.cache.length := by omega
        subst ci
        rw [List.drop_length, List.foldl_nil] at ef
        subst ef
        simp only [go_sem, reduceIte, Nat.reduceEqDiff, Nat.reduceAdd, Nat.reduceLeDiff, Nat.reducePow, Nat.reduceDiv, Nat.reduceMod, decide_true, k0, B2, lt2]
        have nw := RefAt.set lt2 (x := { x.spend.2 with lasts := x.cache.foldl sput x.lasts, cache := [] }) (L := L2) (C := .nils) hL2 (.inr ⟨rfl, rfl⟩) hwk
        exact ⟨nw.1, x2.trans nw.2.1 (fun _ _ x => x) (fun _ _ x => x), nw.2.2.trans l2⟩

theorem xread_ok {P : Program} {f g1 g2 : FuncId} (hf : Is P f (c_gleberef04_Disk_Read g1 g2)) (h1 : FindSOk P g1) (h2 : CopyOk P g2 .u8) : XReadOk P f := by
  refine ⟨hf.2, fun h q x i ha => ACalls.freeze (K := fun r h' => (∃ a, r = .tup [a, .int .i64 (x.read i).2] ∧ (a = abytes (x.read i).1 ∨ (a = .nils ∧ (x.read i).1 = []))) ∧ Ext nof h h') (fun_sound hf.1 (Nat.le_of_ble_eq_true rfl) ?_)
    (fun r _ ⟨⟨a, e, hn⟩, hx⟩ => ⟨hx, r, ?_, a, e, ?_⟩)⟩
  rotate_left
  · subst e
    refine Frz.upto ?_
    rcases hn with rfl | ⟨rfl, -⟩
    · simp only [AV.upto, AV.uptoL, abytes, upto_av, Bool.and_self]
    · rfl
  · intro h
    rcases hn with rfl | ⟨rfl, e2⟩
    · exact rd_abytes _ _ _
    · rw [e2]; simp only [dBytes, Rd]; exact ⟨[], .inl ⟨rfl, rfl⟩, by simp only [List.map_nil, RdLL]⟩
  show vc P (c_gleberef04_Disk_Read g1 g2).code ⟨[(0, .ptr q 5 0 0), (1, .int .i64 i)], [], h⟩ (atEnd (c_gleberef04_Disk_Read g1 g2).res _)
  have lt := ha.lt
  obtain ⟨⟨L, C, B, hL, hC⟩, ok⟩ := ha
  unfold Dk.read
  by_cases c0 : i < 0
  · rw [if_pos (.inl c0)]
    simp only [c_gleberef04_Disk_Read, go_sem, reduceIte, Nat.reduceEqDiff, Nat.reduceAdd, Nat.reduceLeDiff, Nat.reducePow, Nat.reduceDiv, Nat.reduceMod, decide_true, B, decide_eq_true c0]
    exact ⟨⟨_, rfl, .inr rfl⟩, Ext.refl _ _⟩
  · by_cases c1 : x.n ≤ i
    · rw [if_pos (.inr c1)]
      simp only [c_gleberef04_Disk_Read, go_sem, reduceIte, Nat.reduceEqDiff, Nat.reduceAdd, Nat.reduceLeDiff, Nat.reducePow, Nat.reduceDiv, Nat.reduceMod, decide_true, B, decide_eq_false c0, decide_eq_true c1]
      exact ⟨⟨_, rfl, .inr rfl⟩, Ext.refl _ _⟩
    · rw [if_neg (by omega)]
      have cl := ok.clen
      have ll := ok.llen
      simp only [c_gleberef04_Disk_Read, go_sem, reduceIte, Nat.reduceEqDiff, Nat.reduceAdd, Nat.reduceLeDiff, Nat.reducePow, Nat.reduceDiv, Nat.reduceMod, decide_true, B, decide_eq_false c0, decide_eq_false c1]
      refine wCall_use ⟨h1.1, h1.2 h x.cache i C hC (by omega)⟩ ?_
      rintro _ _ ⟨⟨n, rfl, hn⟩, rfl⟩
      rcases hn with ⟨rfl, e1⟩ | ⟨k, hk, rfl, e1⟩
      · rw [e1]
        simp only
        simp only [go_sem, reduceIte, Nat.reduceEqDiff, Nat.reduceAdd, Nat.reduceLeDiff, Nat.reducePow, Nat.reduceDiv, Nat.reduceMod, decide_true, B, show decide ((0:Int) ≤ -1) = false from rfl]
        refine wCall_use ⟨h1.1, h1.2 _ x.lasts i L hL (by omega)⟩ ?_
        rintro _ _ ⟨⟨n, rfl, hn⟩, rfl⟩
        rcases hn with ⟨rfl, e2⟩ | ⟨k, hk, rfl, e2⟩
        · rw [e2]
          simp only [go_sem, reduceIte, Nat.reduceEqDiff, Nat.reduceAdd, Nat.reduceLeDiff, Nat.reducePow, Nat.reduceDiv, Nat.reduceMod, decide_true, B, show decide ((-1:Int) < 0) = true from rfl]
          exact ⟨⟨_, rfl, .inr ⟨rfl, rfl⟩⟩, Ext.refl _ _⟩
        · rw [e2]
          have c3 : ¬ ((k : Int) < 0) := by omega
          obtain ⟨p, hp1, hp2⟩ := hL.at hk
          have l2 : ∀ h, aload h false 1 (poff 2 p) = some (.bool x.lasts[k].torn) := fun h => by rw [aload_off (hp2 h), Sec.v_eq]; rfl
          have l1 : ∀ h, aload h false 1 (poff 1 p) = some (abytes x.lasts[k].b) := fun h => by rw [aload_off (hp2 h), Sec.v_eq]; rfl
          have hb : x.lasts[k].b.length ≤ 64 := (ok.lasts.2 _ (List.getElem_mem hk)).2.2
          cases et : x.lasts[k].torn with
          | true =>
            simp only [readL, et, if_true]
            simp only [go_sem, reduceIte, Nat.reduceEqDiff, Nat.reduceAdd, Nat.reduceLeDiff, Nat.reducePow, Nat.reduceDiv, Nat.reduceMod, decide_true, B, decide_eq_false c3, hp1, afield_p (hp2 []), l2, et]
            exact ⟨⟨_, rfl, .inr rfl⟩, Ext.refl _ _⟩
          | false =>
            have er : readL (some x.lasts[k]) = (x.lasts[k].b, 0) := by simp only [readL, et]; rfl
            rw [er]
            simp only [go_sem, reduceIte, Nat.reduceEqDiff, Nat.reduceAdd, Nat.reduceLeDiff, Nat.reducePow, Nat.reduceDiv, Nat.reduceMod, decide_true, B, decide_eq_false c3, hp1, afield_p (hp2 []), l2, l1, et]
            refine use1 h2.1 (h2.gb (rd_abytes nof _ x.lasts[k].b) (by omega)) ?_
            simp only [go_sem, reduceIte, Nat.reduceEqDiff, Nat.reduceAdd, Nat.reduceLeDiff, Nat.reducePow, Nat.reduceDiv, Nat.reduceMod, decide_true]
            exact ⟨⟨_, rfl, .inl rfl⟩, Ext.refl _ _⟩
      · rw [e1]
        have c3 : (0 : Int) ≤ (k : Int) := by omega
        obtain ⟨p, hp1, hp2⟩ := hC.at hk
        have l1 : ∀ h, aload h false 1 (poff 1 p) = some (abytes x.cache[k].b) := fun h => by rw [aload_off (hp2 h), Sec.v_eq]; rfl
        have hb : x.cache[k].b.length ≤ 64 := (ok.cache.2 _ (List.getElem_mem hk)).2.2.1
        simp only [go_sem, reduceIte, Nat.reduceEqDiff, Nat.reduceAdd, Nat.reduceLeDiff, Nat.reducePow, Nat.reduceDiv, Nat.reduceMod, decide_true, B, decide_eq_true c3, hp1, afield_p (hp2 []), l1]
        refine use1 h2.1 (h2.gb (rd_abytes nof _ x.cache[k].b) (by omega)) ?_
        simp only [go_sem, reduceIte, Nat.reduceEqDiff, Nat.reduceAdd, Nat.reduceLeDiff, Nat.reducePow, Nat.reduceDiv, Nat.reduceMod, decide_true]
        exact ⟨⟨_, rfl, .inl rfl⟩, Ext.refl _ _⟩

theorem xdirty_ok {P : Program} {f : FuncId} (hf : Is P f c_gleberef04_Disk_Dirty) : XDirtyOk P f := by
  refine ⟨hf.2, fun h q x ha => ACalls.freeze (K := fun r h' => OwnO h.length h' 1 r (D.avLL (x.dirty.map fun n => [.int .i64 n])) ∧ Ext nof h h') (fun_sound hf.1 (Nat.le_of_ble_eq_true rfl) ?_) (fun _ _ hk => ⟨hk.2, _, Frz.d (OwnO.fz hk.1 (Nat.le_refl _)), rfl⟩)⟩
  show vc P c_gleberef04_Disk_Dirty.code ⟨[(0, .ptr q 5 0 0)], [], h⟩ (atEnd c_gleberef04_Disk_Dirty.res _)
  have lt := ha.lt
  obtain ⟨⟨L, C, B, hL, hC⟩, ok⟩ := ha
  have cl := ok.clen
  have lc := hC.len
  simp only [c_gleberef04_Disk_Dirty, go_sem, reduceIte, Nat.reduceEqDiff, Nat.reduceAdd, Nat.reduceLeDiff, Nat.reducePow, Nat.reduceDiv, Nat.reduceMod, decide_true]
  obtain ⟨I, hI⟩ : ∃ I : Nat → Env → AHeap → Prop, ∀ m E h', I m E h' ↔ ∃ (i : Nat) (o : AV), lk 0 E = .ptr q 5 0 0 ∧ lk 3 E = o ∧ lk 4 E = .int .i64 i ∧ OwnO h.length h' 1 o (D.avLL ((x.dirty.take i).map fun n => [.int .i64 n])) ∧ Ext nof h h' ∧ i ≤ x.cache.length ∧ m = x.cache.length - i := ⟨_, fun _ _ _ => Iff.rfl⟩
  refine vc_loop I x.cache.length ((hI _ _ _).2 ⟨0, .nils, by simp [lk_ins, lk_cons], by simp [lk_ins, lk_cons], by simp [lk_ins], .inl ⟨rfl, by simp [D.avLL]⟩, Ext.refl _ _, by omega, by omega⟩) ?_
  intro m E h2 hh
  obtain ⟨i, o, k0, k3, k4, hO, hE, hi, rfl⟩ := (hI _ _ _).1 hh
  have B2 := hE.get B
  simp only [c_gleberef04_Disk_Dirty_l0, go_sem, reduceIte, Nat.reduceEqDiff, Nat.reduceAdd, Nat.reduceLeDiff, Nat.reducePow, Nat.reduceDiv, Nat.reduceMod, decide_true, k0, k3, k4, B2, lc]
  have dl : x.dirty.length = x.cache.length := by simp [Dk.dirty]
  refine wCond_split (fun ci => ?_) (fun ci => ?_)
  · simp at ci
    obtain ⟨p, hp1, hp2⟩ := hC.at ci
    have l0 : ∀ h, aload h false 1 (poff 0 p) = some (.int .i64 x.cache[i].no) := fun h => by rw [aload_off (hp2 h), Sec.v_eq]; rfl
    have ew : IntKind.i64.wrap (↑i + 1) = (i : Int) + 1 := wrap_i64 (by omega)
    have tk : D.avLL ((x.dirty.take (i + 1)).map fun n => [.int .i64 n]) = D.avLL ((x.dirty.take i).map fun n => [.int .i64 n]) ++ [[.int .i64 x.cache[i].no]] := by
      have e1 : x.dirty.take (i + 1) = x.dirty.take i ++ [x.cache[i].no] := by
        rw [List.take_succ_eq_append_getElem (by omega)]; simp [Dk.dirty]
      rw [e1, avLL_map, avLL_map]; simp only [List.map_append, List.map_cons, List.map_nil, D.avL, D.av]
    obtain ⟨o2, h3, s1, s2, s3⟩ := acc_app (bytes := 8) (h := h2 ++ [some (.arr 1 [[.int .i64 x.cache[i].no]] false)]) (ys := [[.int .i64 x.cache[i].no]]) hO (Ext.b1 _) hE.1 (by simp [avLL_length]; omega)
    have s1' := s1
    rw [← aappend_of (aelems_new h2 1 [[.int .i64 x.cache[i].no]] false (some 1) (len := 1) rfl)] at s1'
    simp only [go_sem, reduceIte, Nat.reduceEqDiff, Nat.reduceAdd, Nat.reduceLeDiff, Nat.reducePow, Nat.reduceDiv, Nat.reduceMod, decide_true, k0, k3, k4, B2, hp1, afield_p (hp2 []), l0, s1', ew]
    exact ⟨_, by omega, (hI _ _ _).2 ⟨i + 1, o2, by simp [lk_ins, k0], by simp [lk_ins], by simp [lk_ins], by rw [tk]; exact s2, (hE.tr (Ext.b1 _)).then s3 (fun m hm hm' => by omega), ci, rfl⟩⟩
  · simp at ci
    obtain rfl : i = x.cache.length := by omega
    rw [← dl, List.take_length] at hO
    simp only [go_sem, reduceIte, Nat.reduceEqDiff, Nat.reduceAdd, Nat.reduceLeDiff, Nat.reducePow, Nat.reduceDiv, Nat.reduceMod, decide_true, k3]
    exact ⟨hO, hE⟩

theorem xcrash_ok {P : Program} {f g2 : FuncId} (hf : Is P f (c_gleberef04_Disk_Crash g2)) (h2 : PutSOk P g2) : XCrashOk P f := by
  refine ⟨hf.2, fun G h q x how v ha hv hG hl => fun_sound hf.1 (Nat.le_of_ble_eq_true rfl) ?_⟩
  show vc P (c_gleberef04_Disk_Crash g2).code ⟨[(0, .ptr q 5 0 0), (1, v)], [], h⟩ (atEnd (c_gleberef04_Disk_Crash g2).res _)
  have hwk := Dk.crash_ok ha.ok how
  have ok := ha.ok
  have cl := ok.clen
  simp only [c_gleberef04_Disk_Crash, go_sem, reduceIte, Nat.reduceEqDiff, Nat.reduceAdd, Nat.reduceLeDiff, Nat.reducePow, Nat.reduceDiv, Nat.reduceMod, decide_true]
  obtain ⟨I, hI⟩ : ∃ I : Nat → Env → AHeap → Prop, ∀ m E h', I m E h' ↔ ∃ (i : Nat) (l : List Sec), lk 0 E = .ptr q 5 0 0 ∧ lk 1 E = v ∧ lk 4 E = .int .i64 i ∧
    RefAt h' q { x with lasts := l } ∧ Ext (only q) h h' ∧ h'.length = h.length ∧ crashed (x.cache.drop i) (how.drop i) l = crashed x.cache how x.lasts ∧ i ≤ x.cache.length ∧ m = x.cache.length - i := ⟨_, fun _ _ _ => Iff.rfl⟩
  refine vc_loop I x.cache.length ((hI _ _ _).2 ⟨0, x.lasts, by simp [lk_ins, lk_cons], by simp [lk_ins, lk_cons], by simp [lk_ins], ha, Ext.refl _ _, rfl, rfl, by omega, by omega⟩) ?_
  intro m E H2 hh
  obtain ⟨i, ls, k0, k1, k4, ha2, x2, l2, ef, hi, rfl⟩ := (hI _ _ _).1 hh
  have ha2' := ha2
  obtain ⟨⟨L2, C2, B2, hL2, hC2⟩, ok2⟩ := ha2'
  have lt2 := ha2.lt
  change SecsV x.cache C2 at hC2
  have lc := hC2.len
  have hv2 := Rd.mono (fun _ x => x) (x2.keepOff (F' := G) fun m _ hm e => hG (e ▸ hm)) _ _ hv
  have lv := hv2.ints_len
  simp only [c_gleberef04_Disk_Crash_l0, go_sem, reduceIte, Nat.reduceEqDiff, Nat.reduceAdd, Nat.reduceLeDiff, Nat.reducePow, Nat.reduceDiv, Nat.reduceMod, decide_true, k0, k1, k4, B2, lc]
  refine wCond_split (fun ci => ?_) (fun ci => ?_)
  · simp at ci
    obtain ⟨p, hp1, hp2⟩ := hC2.at ci
    have ld3 := SecsV.ld ci hp2
    have l0 : ∀ h, aload h false 1 (poff 0 p) = some (.int .i64 x.cache[i].no) := fun h => by rw [aload_off (hp2 h), Sec.v_eq]; rfl
    have ew : IntKind.i64.wrap (↑i + 1) = (i : Int) + 1 := wrap_i64 (by omega)
    have hs : x.cache[i] ∈ x.cache := List.getElem_mem ci
    have hsr := ok.cache.2 _ hs
    have hl2 : rises ls ∧ ∀ s ∈ ls, 0 ≤ s.no ∧ s.no < x.n ∧ s.b.length ≤ 64 := ok2.lasts
    have ca := crashed_at (l := ls) (how := how) ci
    have put : ∀ s : Sec, 0 ≤ s.no ∧ s.no < x.n ∧ s.b.length ≤ 64 → RefAt (H2.set q (some (.arr 5 [[.int .i64 x.n, .int .i64 x.left, .bool x.off, asecs (sput ls s), C2]] false))) q { x with lasts := sput ls s } ∧
        Ext (only q) h (H2.set q (some (.arr 5 [[.int .i64 x.n, .int .i64 x.left, .bool x.off, asecs (sput ls s), C2]] false))) ∧ (H2.set q (some (.arr 5 [[.int .i64 x.n, .int .i64 x.left, .bool x.off, asecs (sput ls s), C2]] false))).length = h.length := fun s hs => by
      have nw := RefAt.set lt2 (x := { x with lasts := sput ls s }) (L := asecs (sput ls s)) (C := C2) (.inl rfl) hC2 (Dk.ok.mk ok2.n ok2.left (lasts_put hl2 hs) ok2.cache)
      exact ⟨nw.1, x2.trans nw.2.1 (fun _ _ x => x) (fun _ _ x => x), nw.2.2.trans l2⟩
    by_cases c1 : i < how.length
    · have c1' : (i : Int) < (how.length : Int) := by omega
      obtain ⟨av, z1, z2⟩ := hv2.int_at c1
      have eh : how[i]? = some how[i] := List.getElem?_eq_getElem c1
      rw [eh] at ca
      generalize ht : how[i] = t at *
      simp only [cstep] at ca
      by_cases c2 : t = 0
      · have c3 : ¬ t = 1 := by omega
        rw [if_pos c2] at ca
        simp only [go_sem, reduceIte, Nat.reduceEqDiff, Nat.reduceAdd, Nat.reduceLeDiff, Nat.reducePow, Nat.reduceDiv, Nat.reduceMod, decide_true, k0, k1, k4, lv, decide_eq_true c1', z1, z2, decide_eq_true c2, decide_eq_false c3, ew]
        exact ⟨_, by omega, (hI _ _ _).2 ⟨i + 1, ls, by simp [lk_ins, k0], by simp [lk_ins, k1], by simp [lk_ins], ha2, x2, l2, by rw [← ca]; exact ef, by omega, rfl⟩⟩
      · rw [if_neg c2] at ca
        by_cases c3 : t = 1
        · rw [if_pos c3] at ca
          simp only [go_sem, reduceIte, Nat.reduceEqDiff, Nat.reduceAdd, Nat.reduceLeDiff, Nat.reducePow, Nat.reduceDiv, Nat.reduceMod, decide_true, k0, k1, k4, lv, decide_eq_true c1', z1, z2, decide_eq_true c3, B2, hp1, ld3]
          refine use1 h2.1 (h2.2 H2 ls x.cache[i] L2 _ hL2 (.inl rfl) hl2.1 (Nat.le_trans ok2.llen (by decide))) ?_
          have nw := put x.cache[i] ⟨hsr.1, hsr.2.1, hsr.2.2.1⟩
          have hv3 := Rd.mono (fun _ x => x) (nw.2.1.keepOff (F' := G) fun m _ hm e => hG (e ▸ hm)) _ _ hv
          have lv3 := hv3.ints_len
          obtain ⟨av3, z5, z6⟩ := hv3.int_at c1
          obtain rfl : av3 = av := by rw [z1] at z5; exact (Option.some.inj z5).symm
          rw [ht] at z6
          simp only [go_sem, reduceIte, Nat.reduceEqDiff, Nat.reduceAdd, Nat.reduceLeDiff, Nat.reducePow, Nat.reduceDiv, Nat.reduceMod, decide_true, k0, k1, k4, B2, hp1, ld3, lt2, lv3, z1, z6, decide_eq_true c1', decide_eq_false c2, decide_eq_true c3, ew]
          exact ⟨_, by omega, (hI _ _ _).2 ⟨i + 1, _, by simp [lk_ins, k0], by simp [lk_ins, k1], by simp [lk_ins], nw.1, nw.2.1, nw.2.2, by rw [← ca]; exact ef, by omega, rfl⟩⟩
        · rw [if_neg c3] at ca
          simp only [go_sem, reduceIte, Nat.reduceEqDiff, Nat.reduceAdd, Nat.reduceLeDiff, Nat.reducePow, Nat.reduceDiv, Nat.reduceMod, decide_true, k0, k1, k4, lv, decide_eq_true c1', z1, z2, decide_eq_false c2, decide_eq_false c3, B2, hp1, l0, afield_p (hp2 [])]
          refine use1 h2.1 (h2.2 H2 ls ⟨x.cache[i].no, [], true⟩ L2 _ hL2 (.inr ⟨rfl, rfl⟩) hl2.1 (Nat.le_trans ok2.llen (by decide))) ?_
          have nw := put ⟨x.cache[i].no, [], true⟩ ⟨hsr.1, hsr.2.1, by simp⟩
          simp only [go_sem, reduceIte, Nat.reduceEqDiff, Nat.reduceAdd, Nat.reduceLeDiff, Nat.reducePow, Nat.reduceDiv, Nat.reduceMod, decide_true, k0, k1, k4, B2, hp1, l0, afield_p (hp2 []), lt2, ew]
          exact ⟨_, by omega, (hI _ _ _).2 ⟨i + 1, _, by simp [lk_ins, k0], by simp [lk_ins, k1], by simp [lk_ins], nw.1, nw.2.1, nw.2.2, by rw [← ca]; exact ef, by omega, rfl⟩⟩
    · have c1' : ¬ (i : Int) < (how.length : Int) := by omega
      rw [List.getElem?_eq_none (by omega)] at ca
      simp only [cstep] at ca
      simp only [go_sem, reduceIte, Nat.reduceEqDiff, Nat.reduceAdd, Nat.reduceLeDiff, Nat.reducePow, Nat.reduceDiv, Nat.reduceMod, decide_true, k0, k1, k4, lv, decide_eq_false c1', ew]
      exact ⟨_, by omega, (hI _ _ _).2 ⟨i + 1, ls, by simp [lk_ins, k0], by simp [lk_ins, k1], by simp [lk_ins], ha2, x2, l2, by rw [← ca]; exact ef, by omega, rfl⟩⟩
  · simp at ci
    have ci : i = x.cache.length := by omega
    subst ci
    rw [List.drop_length, crashed] at ef
    subst ef
    have e1 : ∀ (a b : Option ABlk), (H2.set q a).set q b = H2.set q b := fun a b => List.set_set ..
    have ll : ∀ a : Option ABlk, (H2.set q a).length = H2.length := fun a => List.length_set
    simp only [go_sem, reduceIte, Nat.reduceEqDiff, Nat.reduceAdd, Nat.reduceLeDiff, Nat.reducePow, Nat.reduceDiv, Nat.reduceMod, decide_true, k0, B2, lt2, ll, e1]
    have nw := RefAt.set lt2 (x := x.crash how) (L := L2) (C := .nils) hL2 (.inr ⟨rfl, rfl⟩) hwk
    exact ⟨nw.1, x2.trans nw.2.1 (fun _ _ x => x) (fun _ _ x => x), l2⟩

end Glb
