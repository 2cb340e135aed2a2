/-
  A library of its own: its parts, one behind the other.
-/
import Derived.Test.YtdeiamnhnfmilaaGreatGlbLibC
import Derived.ChangeArms
import Derived.WideKeyArgs
import Derived.Below
set_option linter.unusedSimpArgs false
set_option linter.unusedVariables false
namespace Glb
open Go
inductive D where
 | int (k : IntKind) (n : Int)
 | bool (b : Bool)
 | str (s : ByteArray)
 | sl (sz : Nat) (es : List (List D))
def capLe (cap : Option Nat) (len : Nat) : Prop := ∀ c, cap = some c -> len <= c
def Els (F : Nat -> Prop) (h : AHeap) (sz : Nat) (av : AV) (es : List (List AV)) : Prop :=
 (av = .nils /\ es = []) \/ (∃ t c, av = .vals t c sz es) \/
  ∃ n off len cap row g, av = .ref n sz off len cap /\ F n /\ h[n]? = some (some (.arr sz row g)) /\ off + len <= row.length /\ capLe cap len /\ es = (row.drop off).take len
mutual
def Rd (F : Nat -> Prop) (h : AHeap) : D -> AV -> Prop
 | .int k n, av => av = .int k n
 | .bool b, av => av = .bool b
 | .str s, av => av = .str s
 | .sl sz ds, av => ∃ es, Els F h sz av es /\ RdLL F h ds es
def RdL (F : Nat -> Prop) (h : AHeap) : List D -> List AV -> Prop
 | [], l => l = []
 | d :: ds, l => ∃ a r, l = a :: r /\ Rd F h d a /\ RdL F h ds r
def RdLL (F : Nat -> Prop) (h : AHeap) : List (List D) -> List (List AV) -> Prop
 | [], l => l = []
 | e :: ds, l => ∃ a r, l = a :: r /\ RdL F h e a /\ RdLL F h ds r
end
mutual
def Own : D -> (Nat -> Prop) -> AHeap -> AV -> Prop
 | .int k n, _, _, av => av = .int k n
 | .bool b, _, _, av => av = .bool b
 | .str s, _, _, av => av = .str s
 | .sl sz ds, F, h, av => (av = .nils /\ ds = []) \/ (∃ t c, av = .vals t c sz [] /\ ds = []) \/
   ∃ n off cap row g, av = .ref n sz off ds.length cap /\ F n /\ h[n]? = some (some (.arr sz row g)) /\ off + ds.length <= row.length /\ capLe cap ds.length /\
    OwnLL ds (fun m => F m /\ m ≠ n) h ((row.drop off).take ds.length)
def OwnL : List D -> (Nat -> Prop) -> AHeap -> List AV -> Prop
 | [], _, _, l => l = []
 | d :: ds, F, h, l => ∃ a r, l = a :: r /\ Own d F h a /\ OwnL ds F h r
def OwnLL : List (List D) -> (Nat -> Prop) -> AHeap -> List (List AV) -> Prop
 | [], _, _, l => l = []
 | e :: ds, F, h, l => ∃ a r, l = a :: r /\ OwnL e F h a /\ OwnLL ds F h r
end
theorem RdLL_length {F h} : ∀ {ds : List (List D)} {es : List (List AV)}, RdLL F h ds es -> es.length = ds.length := by
 intro ds
 induction ds with
 | nil => intro es h; simp only [RdLL] at h; subst h; rfl
 | cons e ds ih => intro es h; simp only [RdLL] at h; obtain ⟨a, r, rfl, _, h⟩ := h; simp [ih h]
theorem RdLL_get {F h} : ∀ {ds : List (List D)} {es : List (List AV)}, RdLL F h ds es -> ∀ (i : Nat) (d : List D), ds[i]? = some d -> ∃ e, es[i]? = some e /\ RdL F h d e := by
 intro ds
 induction ds with
 | nil => intro es h i d hd; simp at hd
 | cons e ds ih =>
  intro es h i d hd
  simp only [RdLL] at h
  obtain ⟨a, r, rfl, h1, h2⟩ := h
  cases i with
  | zero => simp at hd; subst hd; exact ⟨a, rfl, h1⟩
  | succ i => obtain ⟨e', h3, h4⟩ := ih h2 i d (by simpa using hd); exact ⟨e', by simpa using h3, h4⟩
theorem RdLL_mk {F h} : ∀ {ds : List (List D)} {es : List (List AV)}, es.length = ds.length -> (∀ (i : Nat) (d : List D) (e : List AV), ds[i]? = some d -> es[i]? = some e -> RdL F h d e) -> RdLL F h ds es := by
 intro ds
 induction ds with
 | nil => intro es hl _; simp only [RdLL]; exact List.eq_nil_of_length_eq_zero (by simpa using hl)
 | cons d ds ih =>
  intro es hl hh
  cases es with
  | nil => simp at hl
  | cons e es =>
   simp only [RdLL]
   exact ⟨e, es, rfl, hh 0 d e rfl rfl, ih (by simpa using hl) fun i d' e' h1 h2 => hh (i + 1) d' e' (by simpa using h1) (by simpa using h2)⟩
theorem RdLL_take {F h} {ds : List (List D)} {es : List (List AV)} (hh : RdLL F h ds es) (k : Nat) : RdLL F h (ds.take k) (es.take k) := by
 refine RdLL_mk (by simp [RdLL_length hh]) fun i d e h1 h2 => ?_
 rw [List.getElem?_take] at h1 h2
 split at h1
 ·rename_i hi
  rw [if_pos hi] at h2
  obtain ⟨e', h3, h4⟩ := RdLL_get hh i d h1
  rw [h2] at h3; cases h3; exact h4
 ·cases h1
theorem RdLL_drop {F h} {ds : List (List D)} {es : List (List AV)} (hh : RdLL F h ds es) (k : Nat) : RdLL F h (ds.drop k) (es.drop k) := by
 refine RdLL_mk (by simp [RdLL_length hh]) fun i d e h1 h2 => ?_
 rw [List.getElem?_drop] at h1 h2
 obtain ⟨e', h3, h4⟩ := RdLL_get hh _ d h1
 rw [h2] at h3; cases h3; exact h4
theorem OwnLL_length {F h} : ∀ {ds : List (List D)} {es : List (List AV)}, OwnLL ds F h es -> es.length = ds.length := by
 intro ds
 induction ds with
 | nil => intro es h; simp only [OwnLL] at h; subst h; rfl
 | cons e ds ih => intro es h; simp only [OwnLL] at h; obtain ⟨a, r, rfl, _, h⟩ := h; simp [ih h]
theorem OwnLL_get {F h} : ∀ {ds : List (List D)} {es : List (List AV)}, OwnLL ds F h es -> ∀ (i : Nat) (d : List D), ds[i]? = some d -> ∃ e, es[i]? = some e /\ OwnL d F h e := by
 intro ds
 induction ds with
 | nil => intro es h i d hd; simp at hd
 | cons e ds ih =>
  intro es h i d hd
  simp only [OwnLL] at h
  obtain ⟨a, r, rfl, h1, h2⟩ := h
  cases i with
  | zero => simp at hd; subst hd; exact ⟨a, rfl, h1⟩
  | succ i => obtain ⟨e', h3, h4⟩ := ih h2 i d (by simpa using hd); exact ⟨e', by simpa using h3, h4⟩
theorem OwnLL_mk {F h} : ∀ {ds : List (List D)} {es : List (List AV)}, es.length = ds.length -> (∀ (i : Nat) (d : List D) (e : List AV), ds[i]? = some d -> es[i]? = some e -> OwnL d F h e) -> OwnLL ds F h es := by
 intro ds
 induction ds with
 | nil => intro es hl _; simp only [OwnLL]; exact List.eq_nil_of_length_eq_zero (by simpa using hl)
 | cons d ds ih =>
  intro es hl hh
  cases es with
  | nil => simp at hl
  | cons e es =>
   simp only [OwnLL]
   exact ⟨e, es, rfl, hh 0 d e rfl rfl, ih (by simpa using hl) fun i d' e' h1 h2 => hh (i + 1) d' e' (by simpa using h1) (by simpa using h2)⟩
theorem OwnLL_app {F h} : ∀ {ds ds' : List (List D)} {es es' : List (List AV)}, OwnLL ds F h es -> OwnLL ds' F h es' -> OwnLL (ds ++ ds') F h (es ++ es') := by
 intro ds
 induction ds with
 | nil => intro ds' es es' h1 h2; simp only [OwnLL] at h1; subst h1; exact h2
 | cons d ds ih => intro ds' es es' h1 h2; simp only [OwnLL] at h1; obtain ⟨a, r, rfl, h3, h4⟩ := h1; exact ⟨a, r ++ es', rfl, h3, ih h4 h2⟩
theorem OwnLL_take {F h} {ds : List (List D)} {es : List (List AV)} (hh : OwnLL ds F h es) (k : Nat) : OwnLL (ds.take k) F h (es.take k) := by
 refine OwnLL_mk (by simp [OwnLL_length hh]) fun i d e h1 h2 => ?_
 rw [List.getElem?_take] at h1 h2
 split at h1
 ·rename_i hi
  rw [if_pos hi] at h2
  obtain ⟨e', h3, h4⟩ := OwnLL_get hh i d h1
  rw [h2] at h3; cases h3; exact h4
 ·cases h1
theorem OwnLL_drop {F h} {ds : List (List D)} {es : List (List AV)} (hh : OwnLL ds F h es) (k : Nat) : OwnLL (ds.drop k) F h (es.drop k) := by
 refine OwnLL_mk (by simp [OwnLL_length hh]) fun i d e h1 h2 => ?_
 rw [List.getElem?_drop] at h1 h2
 obtain ⟨e', h3, h4⟩ := OwnLL_get hh _ d h1
 rw [h2] at h3; cases h3; exact h4
def Keep (F : Nat -> Prop) (h h' : AHeap) : Prop := ∀ m, F m -> ∀ x, h[m]? = some x -> h'[m]? = some x
theorem Ext.keep {h h' : AHeap} (F : Nat -> Prop) (a : Ext nof h h') : Keep F h h' := fun _ _ _ hx => a.get hx
theorem Els.mono {F F' h h' sz av es} (hF : ∀ m, F m -> F' m) (hk : Keep F h h') (hh : Els F h sz av es) : Els F' h' sz av es := by
 rcases hh with hh | hh | ⟨n, off, len, cap, row, g, h1, h2, h3, h4, h5⟩
 ·exact .inl hh
 ·exact .inr (.inl hh)
 ·exact .inr (.inr ⟨n, off, len, cap, row, g, h1, hF n h2, hk n h2 _ h3, h4, h5⟩)
mutual
theorem Rd.mono {F F' : Nat -> Prop} {h h' : AHeap} (hF : ∀ m, F m -> F' m) (hk : Keep F h h') : ∀ (d : D) (av : AV), Rd F h d av -> Rd F' h' d av
 | .int _ _, _, hh => hh
 | .bool _, _, hh => hh
 | .str _, _, hh => hh
 | .sl _ ds, _, hh => by
  simp only [Rd] at hh ⊢
  obtain ⟨es, h1, h2⟩ := hh
  exact ⟨es, h1.mono hF hk, RdLL.mono hF hk ds es h2⟩
theorem RdL.mono {F F' : Nat -> Prop} {h h' : AHeap} (hF : ∀ m, F m -> F' m) (hk : Keep F h h') : ∀ (ds : List D) (l : List AV), RdL F h ds l -> RdL F' h' ds l
 | [], _, hh => hh
 | d :: ds, _, hh => by
  simp only [RdL] at hh ⊢
  obtain ⟨a, r, h1, h2, h3⟩ := hh
  exact ⟨a, r, h1, Rd.mono hF hk d a h2, RdL.mono hF hk ds r h3⟩
theorem RdLL.mono {F F' : Nat -> Prop} {h h' : AHeap} (hF : ∀ m, F m -> F' m) (hk : Keep F h h') : ∀ (ds : List (List D)) (l : List (List AV)), RdLL F h ds l -> RdLL F' h' ds l
 | [], _, hh => hh
 | d :: ds, _, hh => by
  simp only [RdLL] at hh ⊢
  obtain ⟨a, r, h1, h2, h3⟩ := hh
  exact ⟨a, r, h1, RdL.mono hF hk d a h2, RdLL.mono hF hk ds r h3⟩
end
mutual
theorem Own.mono : ∀ (d : D) {F F' : Nat -> Prop} {h h' : AHeap} (_ : ∀ m, F m -> F' m) (_ : Keep F h h') (av : AV), Own d F h av -> Own d F' h' av
 | .int _ _, _, _, _, _, _, _, _, hh => hh
 | .bool _, _, _, _, _, _, _, _, hh => hh
 | .str _, _, _, _, _, _, _, _, hh => hh
 | .sl _ ds, F, F', h, h', hF, hk, _, hh => by
  simp only [Own] at hh ⊢
  rcases hh with hh | hh | ⟨n, off, cap, row, g, h1, h2, h3, h4, hc, h5⟩
  ·exact .inl hh
  ·exact .inr (.inl hh)
  ·exact .inr (.inr ⟨n, off, cap, row, g, h1, hF n h2, hk n h2 _ h3, h4, hc, OwnLL.mono ds (fun m hm => ⟨hF m hm.1, hm.2⟩) (fun m hm => hk m hm.1) _ h5⟩)
theorem OwnL.mono : ∀ (ds : List D) {F F' : Nat -> Prop} {h h' : AHeap} (_ : ∀ m, F m -> F' m) (_ : Keep F h h') (l : List AV), OwnL ds F h l -> OwnL ds F' h' l
 | [], _, _, _, _, _, _, _, hh => hh
 | d :: ds, _, _, _, _, hF, hk, _, hh => by
  simp only [OwnL] at hh ⊢
  obtain ⟨a, r, h1, h2, h3⟩ := hh
  exact ⟨a, r, h1, Own.mono d hF hk a h2, OwnL.mono ds hF hk r h3⟩
theorem OwnLL.mono : ∀ (ds : List (List D)) {F F' : Nat -> Prop} {h h' : AHeap} (_ : ∀ m, F m -> F' m) (_ : Keep F h h') (l : List (List AV)), OwnLL ds F h l -> OwnLL ds F' h' l
 | [], _, _, _, _, _, _, _, hh => hh
 | d :: ds, _, _, _, _, hF, hk, _, hh => by
  simp only [OwnLL] at hh ⊢
  obtain ⟨a, r, h1, h2, h3⟩ := hh
  exact ⟨a, r, h1, OwnL.mono d hF hk a h2, OwnLL.mono ds hF hk r h3⟩
end
mutual
theorem Own.rd : ∀ (d : D) {F F' : Nat -> Prop} {h : AHeap} (_ : ∀ m, F m -> F' m) (av : AV), Own d F h av -> Rd F' h d av
 | .int _ _, _, _, _, _, _, hh => hh
 | .bool _, _, _, _, _, _, hh => hh
 | .str _, _, _, _, _, _, hh => hh
 | .sl sz ds, F, F', h, hF, _, hh => by
  simp only [Own, Rd] at hh ⊢
  rcases hh with ⟨rfl, rfl⟩ | ⟨t, c, rfl, rfl⟩ | ⟨n, off, cap, row, g, h1, h2, h3, h4, hc, h5⟩
  ·exact ⟨[], .inl ⟨rfl, rfl⟩, rfl⟩
  ·exact ⟨[], .inr (.inl ⟨t, c, rfl⟩), rfl⟩
  ·exact ⟨_, .inr (.inr ⟨n, off, _, cap, row, g, h1, hF n h2, h3, h4, hc, rfl⟩), OwnLL.rd ds (fun m hm => hF m hm.1) _ h5⟩
theorem OwnL.rd : ∀ (ds : List D) {F F' : Nat -> Prop} {h : AHeap} (_ : ∀ m, F m -> F' m) (l : List AV), OwnL ds F h l -> RdL F' h ds l
 | [], _, _, _, _, _, hh => hh
 | d :: ds, _, _, _, hF, _, hh => by
  simp only [OwnL, RdL] at hh ⊢
  obtain ⟨a, r, h1, h2, h3⟩ := hh
  exact ⟨a, r, h1, Own.rd d hF a h2, OwnL.rd ds hF r h3⟩
theorem OwnLL.rd : ∀ (ds : List (List D)) {F F' : Nat -> Prop} {h : AHeap} (_ : ∀ m, F m -> F' m) (l : List (List AV)), OwnLL ds F h l -> RdLL F' h ds l
 | [], _, _, _, _, _, hh => hh
 | d :: ds, _, _, _, hF, _, hh => by
  simp only [OwnLL, RdLL] at hh ⊢
  obtain ⟨a, r, h1, h2, h3⟩ := hh
  exact ⟨a, r, h1, OwnL.rd d hF a h2, OwnLL.rd ds hF r h3⟩
end
theorem Keep.lt (F : Nat -> Prop) (h : AHeap) : ∀ m, F m -> ∀ x, h[m]? = some x -> h[m]? = some x := fun _ _ _ hx => hx
mutual
theorem Own.lt : ∀ (d : D) {F : Nat -> Prop} {h : AHeap} (av : AV), Own d F h av -> Own d (fun m => F m /\ m < h.length) h av
 | .int _ _, _, _, _, hh => hh
 | .bool _, _, _, _, hh => hh
 | .str _, _, _, _, hh => hh
 | .sl sz ds, F, h, _, hh => by
  simp only [Own] at hh ⊢
  rcases hh with hh | hh | ⟨n, off, cap, row, g, h1, h2, h3, h4, hc, h5⟩
  ·exact .inl hh
  ·exact .inr (.inl hh)
  ·exact .inr (.inr ⟨n, off, cap, row, g, h1, ⟨h2, (List.getElem?_eq_some_iff.1 h3).1⟩, h3, h4, hc,
    OwnLL.mono ds (fun m hm => ⟨⟨hm.1.1, hm.2⟩, hm.1.2⟩) (fun _ _ _ hx => hx) _ (OwnLL.lt ds _ h5)⟩)
theorem OwnL.lt : ∀ (ds : List D) {F : Nat -> Prop} {h : AHeap} (l : List AV), OwnL ds F h l -> OwnL ds (fun m => F m /\ m < h.length) h l
 | [], _, _, _, hh => hh
 | d :: ds, _, _, _, hh => by
  simp only [OwnL] at hh ⊢
  obtain ⟨a, r, h1, h2, h3⟩ := hh
  exact ⟨a, r, h1, Own.lt d a h2, OwnL.lt ds r h3⟩
theorem OwnLL.lt : ∀ (ds : List (List D)) {F : Nat -> Prop} {h : AHeap} (l : List (List AV)), OwnLL ds F h l -> OwnLL ds (fun m => F m /\ m < h.length) h l
 | [], _, _, _, hh => hh
 | d :: ds, _, _, _, hh => by
  simp only [OwnLL] at hh ⊢
  obtain ⟨a, r, h1, h2, h3⟩ := hh
  exact ⟨a, r, h1, OwnL.lt d a h2, OwnLL.lt ds r h3⟩
end
def pcells (h : AHeap) : AV -> Option (List AV)
 | .ptr m sz i o => match h[m]? with
  | some (some (.arr sz' es _)) => if sz = sz' then (es[i]?).map (·.drop o) else none
  | _ => none
 | .vptr _ cs => some cs
 | _ => none
def poff (o : Nat) : AV -> AV
 | .ptr m sz i o' => .ptr m sz i (o' + o)
 | .vptr t cs => .vptr t (cs.drop o)
 | v => v
theorem aload_p {h p cs} (hp : pcells h p = some cs) (agg : Bool) (n : Nat) : aload h agg n p = takeCells agg n cs := by
 unfold pcells at hp
 split at hp
 ·rename_i m sz i o
  simp only [aload]
  split at hp
  ·rename_i sz' es g hm
   simp only [hm]
   split at hp
   ·rename_i e
    rw [if_pos e]
    cases he : es[i]? with
    | none => simp [he] at hp
    | some e' => simp [he] at hp; subst hp; rfl
   ·cases hp
  ·cases hp
 ·cases hp; rfl
 ·cases hp
theorem afield_p {h p cs} (hp : pcells h p = some cs) (o : Nat) : afield o p = some (poff o p) := by
 unfold pcells at hp
 split at hp
 ·rfl
 ·rfl
 ·cases hp
theorem pcells_off {h p cs} (hp : pcells h p = some cs) (o : Nat) : pcells h (poff o p) = some (cs.drop o) := by
 unfold pcells at hp
 split at hp
 ·rename_i m sz i o'
  simp only [poff, pcells]
  split at hp
  ·rename_i sz' es g hm
   (try simp only [hm])
   split at hp
   ·rename_i e
    (try rw [if_pos e])
    cases he : es[i]? with
    | none => simp [he] at hp
    | some e' => simp [he] at hp; subst hp; simp [List.drop_drop]
   ·cases hp
  ·cases hp
 ·cases hp; rfl
 ·cases hp
theorem aload_off {h p cs} (hp : pcells h p = some cs) (o : Nat) (agg : Bool) (n : Nat) : aload h agg n (poff o p) = takeCells agg n (cs.drop o) := aload_p (pcells_off hp o) agg n
theorem pcells_keep {F : Nat -> Prop} {h h' : AHeap} (hk : Keep F h h') {m sz i o cs} (hm : F m) (hp : pcells h (.ptr m sz i o) = some cs) : pcells h' (.ptr m sz i o) = some cs := by
 simp only [pcells] at hp ⊢
 split at hp
 ·rename_i sz' es g hx; rw [hk m hm _ hx]; exact hp
 ·cases hp
theorem Els.len {F h sz av es} (hh : Els F h sz av es) : alen av = some (.int .i64 es.length) := by
 rcases hh with ⟨rfl, rfl⟩ | ⟨t, c, rfl⟩ | ⟨n, off, len, cap, row, g, rfl, _, _, h4, _, rfl⟩
 ·rfl
 ·rfl
 ·simp only [alen, List.length_take, List.length_drop]; congr 2; omega
theorem Els.elems {F h sz av es} (hh : Els F h sz av es) : aelems h sz av = some es := by
 rcases hh with ⟨rfl, rfl⟩ | ⟨t, c, rfl⟩ | ⟨n, off, len, cap, row, g, rfl, _, h3, h4, _, rfl⟩
 ·rfl
 ·simp [aelems]
 ·simp [aelems, h3, h4]
theorem Els.index {F h sz av es} (hh : Els F h sz av es) (k : IntKind) {i : Int} {e : List AV} (h0 : 0 <= i) (he : es[i.toNat]? = some e) :
  ∃ p, aindex sz av (.int k i) = some p /\ pcells h p = some e := by
 rcases hh with ⟨rfl, rfl⟩ | ⟨t, c, rfl⟩ | ⟨n, off, len, cap, row, g, rfl, _, h3, h4, _, rfl⟩
 ·simp at he
 ·exact ⟨.vptr t e, by simp [aindex, h0, he], rfl⟩
 ·have hlt := (List.getElem?_eq_some_iff.1 he).1
  simp only [List.length_take, List.length_drop] at hlt
  rw [List.getElem?_take_of_lt (by omega), List.getElem?_drop] at he
  refine ⟨.ptr n sz (off + i.toNat) 0, ?_, ?_⟩
  ·simp only [aindex]; rw [if_pos ⟨trivial, h0, by omega⟩]
  ·simp [pcells, h3, he]
theorem Els.slice {F h sz av es} (hh : Els F h sz av es) {lo hi mx : Option Int} (h0 : 0 <= lo.getD 0) (h1 : lo.getD 0 <= hi.getD es.length) (h2 : hi.getD es.length <= (es.length : Int))
  (h3 : hi.getD es.length <= mx.getD (hi.getD es.length)) (h4 : mx.getD (hi.getD es.length) <= (es.length : Int)) (h5 : mx.isSome -> hi.isSome) :
  ∃ av', aslice sz av lo hi mx = some av' /\ Els F h sz av' ((es.take (hi.getD es.length).toNat).drop (lo.getD 0).toNat) := by
 rcases hh with ⟨rfl, rfl⟩ | ⟨t, c, rfl⟩ | ⟨n, off, len, cap, row, g, rfl, hF, hm, hle, hcap, rfl⟩
 ·simp only [List.length_nil, Int.natCast_zero] at h1 h2 h3 h4
  have e0 : lo.getD 0 = 0 := by omega
  have e1 : hi.getD 0 = 0 := by omega
  have e2 : mx.getD 0 = 0 := by cases mx with
   | none => rfl
   | some m => simp at h3 h4 ⊢; omega
  exact ⟨.nils, by simp [aslice, e0, e1, e2], .inl ⟨rfl, by simp⟩⟩
 ·refine ⟨.vals t (sliceClip mx (hi.getD es.length) es.length c) sz ((es.take (hi.getD es.length).toNat).drop (lo.getD 0).toNat), ?_, .inr (.inl ⟨t, _, rfl⟩)⟩
  simp only [aslice]
  rw [if_pos ⟨trivial, h0, h1, h2, h3, h4⟩]
 ·have hl : ((row.drop off).take len).length = len := by simp; omega
  rw [hl] at h1 h2 h3 h4 ⊢
  simp only [aslice]
  have hcl : (len : Int) <= ((cap.getD len : Nat) : Int) := by
   cases cap with
   | none => simp
   | some c => have := hcap c rfl; simp; omega
  generalize lo.getD 0 = l at *
  have hms : mx.isSome -> sliceCap mx l.toNat cap = some ((mx.getD (hi.getD (len : Int))).toNat - l.toNat) := by
   intro hm; cases mx with
   | none => simp at hm
   | some m => rfl
  have hmn : mx = none -> sliceCap mx l.toNat cap = cap.map (· - l.toNat) := by rintro rfl; rfl
  generalize hi.getD (len : Int) = hh at *
  have hcl' : capLe (sliceCap mx l.toNat cap) (hh.toNat - l.toNat) := by
   intro c hc
   cases hmx : mx with
   | none => rw [hmn hmx] at hc; cases cap with
    | none => simp at hc
    | some q => have := hcap q rfl; simp at hc; omega
   | some m => rw [hms (by simp [hmx])] at hc; simp at hc; omega
  rw [if_pos ⟨trivial, h0, h1, .inl h2, h3, by omega⟩]
  by_cases e0 : l = 0
  ·rw [if_pos e0]
   subst e0
   refine ⟨_, rfl, .inr (.inr ⟨n, off, _, _, row, g, rfl, hF, hm, by omega, by simpa using hcl', ?_⟩)⟩
   rw [Int.toNat_zero, List.drop_zero, List.take_take, Nat.min_eq_left (by omega)]
  ·rw [if_neg e0]
   by_cases e1 : l < hh
   ·rw [if_pos e1]
    refine ⟨_, rfl, .inr (.inr ⟨n, off + l.toNat, _, _, row, g, rfl, hF, hm, by omega, hcl', ?_⟩)⟩
    rw [List.take_take, List.drop_take, List.drop_drop]
    congr 1; omega
   ·rw [if_neg e1]
    refine ⟨_, rfl, .inr (.inl ⟨0, false, ?_⟩)⟩
    have : (((row.drop off).take len).take hh.toNat).drop l.toNat = [] := by
     apply List.eq_nil_of_length_eq_zero; simp; omega
    rw [this]
theorem Rd.len {F h sz ds av} (hh : Rd F h (.sl sz ds) av) : alen av = some (.int .i64 ds.length) := by
 simp only [Rd] at hh
 obtain ⟨es, h1, h2⟩ := hh
 rw [h1.len, RdLL_length h2]
theorem Rd.index {F h sz ds av} (hh : Rd F h (.sl sz ds) av) (k : IntKind) {i : Int} {d : List D} (h0 : 0 <= i) (hd : ds[i.toNat]? = some d) :
  ∃ p cs, aindex sz av (.int k i) = some p /\ pcells h p = some cs /\ RdL F h d cs := by
 simp only [Rd] at hh
 obtain ⟨es, h1, h2⟩ := hh
 obtain ⟨e, he, hr⟩ := RdLL_get h2 _ _ hd
 obtain ⟨p, h3, h4⟩ := h1.index k h0 he
 exact ⟨p, e, h3, h4, hr⟩
theorem Rd.slice {F h sz ds av} (hh : Rd F h (.sl sz ds) av) {lo hi mx : Option Int} (h0 : 0 <= lo.getD 0) (h1 : lo.getD 0 <= hi.getD ds.length) (h2 : hi.getD ds.length <= (ds.length : Int))
  (h3 : hi.getD ds.length <= mx.getD (hi.getD ds.length)) (h4 : mx.getD (hi.getD ds.length) <= (ds.length : Int)) (h5 : mx.isSome -> hi.isSome) :
  ∃ av', aslice sz av lo hi mx = some av' /\ Rd F h (.sl sz ((ds.take (hi.getD ds.length).toNat).drop (lo.getD 0).toNat)) av' := by
 simp only [Rd] at hh ⊢
 obtain ⟨es, e1, e2⟩ := hh
 have hl := RdLL_length e2
 obtain ⟨av', e3, e4⟩ := e1.slice (lo := lo) (hi := hi) (mx := mx) h0 (by rw [hl]; exact h1) (by rw [hl]; exact h2) (by rw [hl]; exact h3) (by rw [hl]; exact h4) h5
 rw [hl] at e4
 exact ⟨av', e3, _, e4, RdLL_drop (RdLL_take e2 _) _⟩
theorem Rd.elems {F h sz ds av} (hh : Rd F h (.sl sz ds) av) : ∃ es, aelems h sz av = some es /\ RdLL F h ds es := by
 simp only [Rd] at hh
 obtain ⟨es, h1, h2⟩ := hh
 exact ⟨es, h1.elems, h2⟩
theorem Rd.nils {F h} (sz : Nat) : Rd F h (.sl sz []) .nils := by
 simp only [Rd, RdLL]; exact ⟨[], .inl ⟨rfl, rfl⟩, rfl⟩
theorem Own.nils {F h} (sz : Nat) : Own (.sl sz []) F h .nils := by
 simp only [Own]; exact .inl ⟨trivial, trivial⟩
theorem Own.elems {sz ds F h a} (hh : Own (.sl sz ds) F h a) : ∃ ys, aelems h sz a = some ys /\ OwnLL ds F h ys := by
 simp only [Own] at hh
 rcases hh with ⟨rfl, rfl⟩ | ⟨t, c, rfl, rfl⟩ | ⟨n, off, cap, row, g, rfl, h2, h3, h4, hc, h5⟩
 ·exact ⟨[], rfl, rfl⟩
 ·exact ⟨[], by simp [aelems], rfl⟩
 ·exact ⟨_, by simp [aelems, h3, h4], OwnLL.mono ds (fun m hm => hm.1) (fun _ _ _ x => x) _ h5⟩
def canApp (h : AHeap) : AV -> Prop
 | .nils => True
 | .ref n sz off len cap => ∃ row g, h[n]? = some (some (.arr sz row g)) /\ (cap = none -> off = 0) /\ ∀ c, cap = some c -> off + c <= row.length
 | .vals _ clip _ _ => clip = true
 | _ => False
theorem canApp.keep {F : Nat -> Prop} {h h' av d} (hc : canApp h av) (ho : Own d F h av) (hk : Keep F h h') : canApp h' av := by
 unfold canApp at hc ⊢
 split
 ·trivial
 ·rename_i n sz off len cap
  obtain ⟨row, g, h1, h2⟩ := hc
  refine ⟨row, g, hk n ?_ _ h1, h2⟩
  cases d with
  | sl sz' ds =>
   simp only [Own] at ho
   rcases ho with ⟨e, _⟩ | ⟨t, c, e, _⟩ | ⟨n', off', cap', row', g', e, hF, _⟩
   ·cases e
   ·cases e
   ·cases e; exact hF
  | int k n => simp only [Own] at ho; cases ho
  | bool b => simp only [Own] at ho; cases ho
  | str s => simp only [Own] at ho; cases ho
 ·exact hc
 ·simp_all
theorem own_app {lo sz bytes : Nat} {ds es : List (List D)} {h0 h : AHeap} {av : AV} {ys : List (List AV)} (ho : Own (.sl sz ds) (fun m => lo <= m) h0 av) (hc : canApp h0 av)
  (hx : Ext nof h0 h) (hy : OwnLL es (fun m => h0.length <= m) h ys) (hlo : lo <= h0.length) (hb : (ds.length + es.length) * bytes <= 2 ^ 46) :
  ∃ av' h', aappendY h sz bytes av ys = some (av', h') /\ Own (.sl sz (ds ++ es)) (fun m => lo <= m) h' av' /\ canApp h' av' /\ Ext (fun m => lo <= m) h h' := by
 have hyl := OwnLL_length hy
 have new : ∀ (hh : AHeap) (es' : List (List AV)), Keep (fun m => lo <= m /\ m ≠ hh.length) hh (hh ++ [some (.arr sz es' true)]) := fun hh es' m hm x hx => by
  rw [List.getElem?_append_left (List.getElem?_eq_some_iff.1 hx).1]; exact hx
 have fresh : ∀ (hh : AHeap) (dd : List (List D)) (es' : List (List AV)), lo <= hh.length -> OwnLL dd (fun m => lo <= m) hh es' ->
   Own (.sl sz dd) (fun m => lo <= m) (append1 hh sz es').2 (append1 hh sz es').1 /\ canApp (append1 hh sz es').2 (append1 hh sz es').1 := by
  intro hh dd es' hl hd
  have hlen := OwnLL_length hd
  refine ⟨?_, ⟨es', true, by simp [append1], (fun _ => rfl), (fun c hc => by cases hc)⟩⟩
  simp only [Own, append1]
  refine .inr (.inr ⟨hh.length, 0, none, es', true, by rw [hlen], hl, by simp, by omega, (fun c hc => by cases hc), ?_⟩)
  have : (es'.drop 0).take dd.length = es' := by rw [List.drop_zero, List.take_of_length_le (by omega)]
  rw [this]
  refine OwnLL.mono dd (fun m hm => ⟨hm.1, by have := hm.2; omega⟩) ?_ _ (OwnLL.lt dd _ hd)
  intro m hm x hx
  rw [List.getElem?_append_left hm.2]; exact hx
 simp only [Own] at ho
 rcases ho with ⟨rfl, rfl⟩ | ⟨t, c, rfl, rfl⟩ | ⟨n, off, cap, row, g, rfl, hn, hrow, hle, hcl, hd⟩
 · -- nothing yet
  have hy' : OwnLL es (fun m => lo <= m) h ys := OwnLL.mono es (fun m hm => Nat.le_trans hlo hm) (fun _ _ _ x => x) _ hy
  obtain ⟨a, b⟩ := fresh h es ys (Nat.le_trans hlo hx.1) hy'
  refine ⟨_, _, ?_, by simpa using a, b, ?_⟩
  ·simp only [aappendY]; rw [if_pos (by rw [hyl]; simpa using hb)]
  ·exact Ext.app _ _ _
 ·have hc1 : c = true := hc
  subst hc1
  have hy' : OwnLL es (fun m => lo <= m) h ys := OwnLL.mono es (fun m hm => Nat.le_trans hlo hm) (fun _ _ _ x => x) _ hy
  simp only [aappendY]
  rw [if_pos ⟨trivial, by rw [hyl]; simpa using hb⟩]
  by_cases hy0 : ys.length = 0
  ·rw [if_pos hy0]
   have hes : es = [] := List.eq_nil_of_length_eq_zero (by omega)
   subst hes
   refine ⟨_, _, rfl, ?_, rfl, Ext.refl _ _⟩
   simp only [Own]
   exact .inr (.inl ⟨t, true, rfl, rfl⟩)
  ·rw [if_neg hy0, if_pos trivial]
   obtain ⟨a, b⟩ := fresh h es ys (Nat.le_trans hlo hx.1) hy'
   exact ⟨_, _, rfl, by simpa [append1] using a, b, Ext.app _ _ _⟩
 ·obtain ⟨row', g', hrow', hcn, hcs⟩ := hc
  rw [hrow] at hrow'
  obtain ⟨rfl, rfl⟩ : row = row' /\ g = g' := by simpa using hrow'
  have hnlt := (List.getElem?_eq_some_iff.1 hrow).1
  have hrow1 : h[n]? = some (some (.arr sz row g)) := hx.get hrow
  have hnlt1 := (List.getElem?_eq_some_iff.1 hrow1).1
  have hd1 : OwnLL ds (fun m => lo <= m /\ m ≠ n) h ((row.drop off).take ds.length) := OwnLL.mono ds (fun m hm => hm) (hx.keep _) _ hd
  have hy1 : OwnLL es (fun m => lo <= m /\ m ≠ n) h ys := OwnLL.mono es (fun m hm => ⟨Nat.le_trans hlo hm, by omega⟩) (fun _ _ _ x => x) _ hy
  have both : OwnLL (ds ++ es) (fun m => lo <= m) h ((row.drop off).take ds.length ++ ys) := OwnLL.mono _ (fun m hm => hm.1) (fun _ _ _ x => x) _ (OwnLL_app hd1 hy1)
  simp only [aappendY, hrow1]
  rw [if_pos ⟨trivial, trivial, hle, by rw [hyl]; exact hb⟩]
  cases cap with
  | none =>
   obtain rfl := hcn rfl
   simp only [if_true]
   have both' : OwnLL (ds ++ es) (fun m => lo <= m) (h.set n none) (row.take ds.length ++ ys) := by
    have := OwnLL_app hd1 hy1
    rw [List.drop_zero] at this
    exact OwnLL.mono _ (fun m hm => hm.1) (fun m hm x hx => by rw [List.getElem?_set_ne (fun e => hm.2 e.symm)]; exact hx) _ this
   obtain ⟨a, b⟩ := fresh (h.set n none) (ds ++ es) (row.take ds.length ++ ys) (by simp; omega) both'
   exact ⟨_, _, rfl, a, b, (Ext.set none (fun _ => hn)).trans (Ext.app (fun m => lo <= m) _ _) (fun _ _ x => x) (fun _ _ x => x)⟩
  | some c =>
   have hc1 := hcl c rfl
   have hc2 := hcs c rfl
   cases c with
   | zero =>
    have h0 : ds.length = 0 := by omega
    have hds : ds = [] := List.eq_nil_of_length_eq_zero h0
    subst hds
    simp only [List.length_nil, if_true]
    by_cases hy0 : ys.length = 0
    ·rw [if_pos hy0]
     have hes : es = [] := List.eq_nil_of_length_eq_zero (by omega)
     subst hes
     refine ⟨_, _, rfl, ?_, ⟨row, g, hrow1, (fun e => by cases e), (fun c hc => by cases hc; omega)⟩, Ext.refl _ _⟩
     simp only [Own]
     exact .inr (.inr ⟨n, off, some 0, row, g, rfl, hn, hrow1, by simpa using hle, (fun c hc => by cases hc; simp), by simp [OwnLL]⟩)
    ·rw [if_neg hy0]
     have hy2 : OwnLL es (fun m => lo <= m) h ys := OwnLL.mono es (fun m hm => hm.1) (fun _ _ _ x => x) _ hy1
     obtain ⟨a, b⟩ := fresh h es ys (by omega) hy2
     exact ⟨_, _, rfl, by simpa [append1] using a, b, Ext.app _ _ _⟩
   | succ c =>
    simp only
    by_cases hcap : c + 1 < ds.length + ys.length
    ·rw [if_pos hcap]
     obtain ⟨a, b⟩ := fresh h (ds ++ es) _ (by omega) both
     exact ⟨_, _, rfl, a, b, Ext.app _ _ _⟩
    ·rw [if_neg hcap, if_pos (by omega)]
     have hsl : (splice row (off + ds.length) ys).length = row.length := by simp [splice]; omega
     refine ⟨_, _, rfl, ?_, ⟨_, g, by rw [List.getElem?_set_self hnlt1], (fun e => by cases e), (fun c' hc' => by cases hc'; rw [hsl]; exact hc2)⟩, Ext.set _ (fun _ => hn)⟩
     simp only [Own]
     refine .inr (.inr ⟨n, off, some (c + 1), splice row (off + ds.length) ys, g, by rw [List.length_append, hyl], hn, by rw [List.getElem?_set_self hnlt1], by rw [hsl, List.length_append]; omega,
      (fun c' hc' => by cases hc'; rw [List.length_append]; omega), ?_⟩)
     have e : ((splice row (off + ds.length) ys).drop off).take (ds ++ es).length = (row.drop off).take ds.length ++ ys := by
      apply List.ext_getElem?
      intro i
      simp only [List.getElem?_take, List.getElem?_drop, List.length_append, splice, List.getElem?_append, List.length_take, List.length_append, List.length_drop]
      rw [show min (off + ds.length) row.length = off + ds.length by omega, show min ds.length (row.length - off) = ds.length by omega]
      by_cases h1 : i < ds.length
      ·rw [if_pos (by omega), if_pos (by omega), if_pos (by omega), if_pos (by omega), if_pos h1]
       simp [h1]
      ·by_cases h2 : i < ds.length + es.length
       ·rw [if_pos h2, if_pos (by omega), if_neg (by omega), if_neg h1]
        congr 1; omega
       ·rw [if_neg h2, if_neg h1, List.getElem?_eq_none (by omega)]
     rw [e]
     refine OwnLL.mono _ (fun m hm => hm) ?_ _ (OwnLL_app hd1 hy1)
     intro m hm x hx
     rw [List.getElem?_set_ne (fun e => hm.2 e.symm)]; exact hx
theorem own_clip {F : Nat -> Prop} {sz : Nat} {ds : List (List D)} {h : AHeap} {av : AV} (ho : Own (.sl sz ds) F h av) {k : Int} (h0 : 0 <= k) (hk : k <= ds.length) :
  ∃ av', aslice sz av none (some k) (some k) = some av' /\ Own (.sl sz (ds.take k.toNat)) F h av' /\ canApp h av' := by
 simp only [Own] at ho
 rcases ho with ⟨rfl, rfl⟩ | ⟨t, c, rfl, rfl⟩ | ⟨n, off, cap, row, g, rfl, hn, hrow, hle, hcl, hd⟩
 ·have : k = 0 := by simpa using (by simp at hk; omega : k = 0)
  subst this
  exact ⟨.nils, by simp [aslice], Own.nils sz, trivial⟩
 ·have : k = 0 := by simpa using (by simp at hk; omega : k = 0)
  subst this
  refine ⟨.vals t true sz [], by simp [aslice, sliceClip], ?_, rfl⟩
  simp only [Own]
  exact .inr (.inl ⟨t, true, rfl, by simp⟩)
 ·have hcl' : (ds.length : Int) <= ((cap.getD ds.length : Nat) : Int) := by
   cases cap with
   | none => simp
   | some c => have := hcl c rfl; simp; omega
  have hl : (ds.take k.toNat).length = k.toNat := by simp; omega
  refine ⟨.ref n sz off k.toNat (some k.toNat), ?_, ?_, ⟨row, g, hrow, (fun e => by cases e), (fun c hc => by cases hc; omega)⟩⟩
  ·simp only [aslice, Option.getD_none, Option.getD_some]
   rw [if_pos ⟨trivial, by omega, by omega, .inl (by omega), by omega, by omega⟩, if_pos trivial]
   simp [sliceCap]
  ·simp only [Own]
   refine .inr (.inr ⟨n, off, some k.toNat, row, g, by rw [hl], hn, hrow, by omega, (fun c hc => by cases hc; omega), ?_⟩)
   rw [hl]
   have := OwnLL_take hd k.toNat
   rw [List.take_take, Nat.min_eq_left (by omega)] at this
   exact this
def OwnO (lo : Nat) (h : AHeap) (sz : Nat) (av : AV) (es : List (List AV)) : Prop :=
 (av = .nils /\ es = []) \/ ∃ n off cap row g, av = .ref n sz off es.length cap /\ lo <= n /\ h[n]? = some (some (.arr sz row g)) /\ off + es.length <= row.length /\ capLe cap es.length /\
  (cap = none -> off = 0) /\ (∀ c, cap = some c -> off + c <= row.length) /\ (row.drop off).take es.length = es
theorem acc_app {lo sz bytes : Nat} {h0 h : AHeap} {av : AV} {es ys : List (List AV)} (ho : OwnO lo h0 sz av es) (hx : Ext nof h0 h) (hlo : lo <= h0.length)
  (hb : (es.length + ys.length) * bytes <= 2 ^ 46) : ∃ av' h', aappendY h sz bytes av ys = some (av', h') /\ OwnO lo h' sz av' (es ++ ys) /\ Ext (fun m => lo <= m) h h' := by
 have fresh : ∀ (hh : AHeap) (es' : List (List AV)), lo <= hh.length -> OwnO lo (append1 hh sz es').2 sz (append1 hh sz es').1 es' := by
  intro hh es' hl
  exact .inr ⟨hh.length, 0, none, es', true, rfl, hl, by simp [append1], by omega, (fun c hc => by cases hc), (fun _ => rfl), (fun c hc => by cases hc), by simp⟩
 rcases ho with ⟨rfl, rfl⟩ | ⟨n, off, cap, row, g, rfl, hn, hrow, hle, hcl, hcn, hcs, he⟩
 ·refine ⟨(append1 h sz ys).1, (append1 h sz ys).2, ?_, fresh h ys (Nat.le_trans hlo hx.1), Ext.app _ _ _⟩
  simp only [aappendY]; rw [if_pos (by simpa using hb)]
 ·have hnlt := (List.getElem?_eq_some_iff.1 hrow).1
  have hrow1 : h[n]? = some (some (.arr sz row g)) := hx.get hrow
  have hnlt1 := (List.getElem?_eq_some_iff.1 hrow1).1
  simp only [aappendY, hrow1]
  rw [if_pos ⟨trivial, trivial, hle, hb⟩]
  cases cap with
  | none =>
   obtain rfl := hcn rfl
   simp only [if_true]
   rw [List.drop_zero] at he
   refine ⟨_, _, rfl, ?_, (Ext.set none (fun _ => hn)).trans (Ext.app (fun m => lo <= m) _ _) (fun _ _ x => x) (fun _ _ x => x)⟩
   rw [he]
   exact fresh _ _ (by simp; omega)
  | some c =>
   have hc1 := hcl c rfl
   have hc2 := hcs c rfl
   cases c with
   | zero =>
    have hes : es = [] := List.eq_nil_of_length_eq_zero (by omega)
    subst hes
    simp only [List.length_nil, if_true]
    by_cases hy0 : ys.length = 0
    ·rw [if_pos hy0]
     have hys : ys = [] := List.eq_nil_of_length_eq_zero hy0
     subst hys
     exact ⟨_, _, rfl, .inr ⟨n, off, some 0, row, g, rfl, hn, hrow1, hle, hcl, hcn, hcs, he⟩, Ext.refl _ _⟩
    ·rw [if_neg hy0]
     exact ⟨(append1 h sz ys).1, (append1 h sz ys).2, rfl, fresh h ys (by omega), Ext.app _ _ _⟩
   | succ c =>
    simp only
    by_cases hcap : c + 1 < es.length + ys.length
    ·rw [if_pos hcap, he]
     exact ⟨_, _, rfl, fresh _ _ (by omega), Ext.app _ _ _⟩
    ·rw [if_neg hcap, if_pos (by omega)]
     have hsl : (splice row (off + es.length) ys).length = row.length := by simp [splice]; omega
     refine ⟨_, _, rfl, .inr ⟨n, off, some (c + 1), splice row (off + es.length) ys, g, by rw [List.length_append], hn, by rw [List.getElem?_set_self hnlt1], by rw [hsl, List.length_append]; omega,
      (fun c' hc' => by cases hc'; rw [List.length_append]; omega), (fun e => by cases e), (fun c' hc' => by cases hc'; rw [hsl]; exact hc2), ?_⟩, Ext.set _ (fun _ => hn)⟩
     apply List.ext_getElem?
     intro i
     have hei : ∀ i, i < es.length -> row[off + i]? = es[i]? := fun i hi => by
      have : es[i]? = ((row.drop off).take es.length)[i]? := by rw [he]
      rw [this, List.getElem?_take_of_lt hi, List.getElem?_drop]
     simp only [List.getElem?_take, List.getElem?_drop, List.length_append, splice, List.getElem?_append, List.length_take, List.length_append]
     rw [show min (off + es.length) row.length = off + es.length by omega]
     by_cases h1 : i < es.length
     ·rw [if_pos (by omega), if_pos (by omega), if_pos (by omega), if_pos (by omega), if_pos h1]
      exact hei i h1
     ·by_cases h2 : i < es.length + ys.length
      ·rw [if_pos h2, if_pos (by omega), if_neg (by omega), if_neg h1]
       congr 1; omega
      ·rw [if_neg h2, if_neg h1, List.getElem?_eq_none (by omega)]
mutual
theorem Rd.lt : ∀ (d : D) {F : Nat -> Prop} {h : AHeap} (av : AV), Rd F h d av -> Rd (fun m => F m /\ m < h.length) h d av
 | .int _ _, _, _, _, hh => hh
 | .bool _, _, _, _, hh => hh
 | .str _, _, _, _, hh => hh
 | .sl sz ds, F, h, _, hh => by
  simp only [Rd] at hh ⊢
  obtain ⟨es, h1, h2⟩ := hh
  refine ⟨es, ?_, RdLL.lt ds es h2⟩
  rcases h1 with h1 | h1 | ⟨n, off, len, cap, row, g, h1, h2, h3, h4⟩
  ·exact .inl h1
  ·exact .inr (.inl h1)
  ·exact .inr (.inr ⟨n, off, len, cap, row, g, h1, ⟨h2, (List.getElem?_eq_some_iff.1 h3).1⟩, h3, h4⟩)
theorem RdL.lt : ∀ (ds : List D) {F : Nat -> Prop} {h : AHeap} (l : List AV), RdL F h ds l -> RdL (fun m => F m /\ m < h.length) h ds l
 | [], _, _, _, hh => hh
 | d :: ds, _, _, _, hh => by
  simp only [RdL] at hh ⊢
  obtain ⟨a, r, h1, h2, h3⟩ := hh
  exact ⟨a, r, h1, Rd.lt d a h2, RdL.lt ds r h3⟩
theorem RdLL.lt : ∀ (ds : List (List D)) {F : Nat -> Prop} {h : AHeap} (l : List (List AV)), RdLL F h ds l -> RdLL (fun m => F m /\ m < h.length) h ds l
 | [], _, _, _, hh => hh
 | d :: ds, _, _, _, hh => by
  simp only [RdLL] at hh ⊢
  obtain ⟨a, r, h1, h2, h3⟩ := hh
  exact ⟨a, r, h1, RdL.lt d a h2, RdLL.lt ds r h3⟩
end
end Glb
namespace Glb
open Go
theorem rev_mov (g : Opd -> AV) (h : AHeap) (x : Opd) : rev g h (.mov x) = some (g x) := Eq.trans rfl rfl
theorem rev_load (g : Opd -> AV) (h : AHeap) (agg : Bool) (n : Nat) (x : Opd) : rev g h (.load agg n x) = aload h agg n (g x) := Eq.trans rfl rfl
theorem rev_bin (g : Opd -> AV) (h : AHeap) (op : BinOp) (x y : Opd) : rev g h (.bin op x y) = abin op (g x) (g y) := Eq.trans rfl rfl
theorem rev_len (g : Opd -> AV) (h : AHeap) (x : Opd) : rev g h (.len x) = alen (g x) := Eq.trans rfl rfl
theorem rev_off (g : Opd -> AV) (h : AHeap) (o : Nat) (x : Opd) : rev g h (.off o x) = afield o (g x) := Eq.trans rfl rfl
theorem rev_idx (g : Opd -> AV) (h : AHeap) (sz : Nat) (x i : Opd) : rev g h (.idx sz x i) = aindex sz (g x) (g i) := Eq.trans rfl rfl
def apick (c a b : AV) : Option AV := match c with
 | .bool t => some (if t then a else b)
 | _ => none
theorem rev_pick (g : Opd -> AV) (h : AHeap) (c a b : Opd) : rev g h (.pick c a b) = apick (g c) (g a) (g b) := Eq.trans rfl rfl
theorem apick_bool (t : Bool) (a b : AV) : apick (.bool t) a b = some (if t then a else b) := Eq.trans rfl rfl
def anot : AV -> Option AV
 | .bool b => some (.bool !b)
 | _ => none
theorem rev_not (g : Opd -> AV) (h : AHeap) (x : Opd) : rev g h (.not x) = anot (g x) := Eq.trans rfl rfl
theorem anot_bool (b : Bool) : anot (.bool b) = some (.bool !b) := Eq.trans rfl rfl
def aext (i : Nat) : AV -> Option AV
 | .tup cs => cs[i]?
 | _ => none
theorem rev_ext (g : Opd -> AV) (h : AHeap) (x : Opd) (i : Nat) : rev g h (.ext x i) = aext i (g x) := Eq.trans rfl rfl
theorem aext_tup (i : Nat) (cs : List AV) : aext i (.tup cs) = cs[i]? := Eq.trans rfl rfl
def abeq (op : BinOp) : AV -> AV -> Option AV
 | .bool a, .bool b => bbin op a b
 | _, _ => none
theorem rev_beq (g : Opd -> AV) (h : AHeap) (op : BinOp) (x y : Opd) : rev g h (.beq op x y) = abeq op (g x) (g y) := Eq.trans rfl rfl
theorem abeq_eql (a b : Bool) : abeq .eql (.bool a) (.bool b) = some (.bool (a == b)) := Eq.trans rfl rfl
theorem abeq_neq (a b : Bool) : abeq .neq (.bool a) (.bool b) = some (.bool (!(a == b))) := Eq.trans rfl rfl
def achk : AV -> Option AV
 | .ptr n sz i o => some (.ptr n sz i o)
 | .vptr t cs => some (.vptr t cs)
 | .iface t v => some (.iface t v)
 | .clo f fs cs => some (.clo f fs cs)
 | _ => none
theorem rev_chk (g : Opd -> AV) (h : AHeap) (x : Opd) : rev g h (.chk x) = achk (g x) := by
 simp only [rev]; generalize g x = v; cases v <;> rfl
def aconv (k : IntKind) : AV -> Option AV
 | .int _ n => some (.int k (k.wrap n))
 | _ => none
theorem rev_conv (g : Opd -> AV) (h : AHeap) (k : IntKind) (x : Opd) : rev g h (.conv k x) = aconv k (g x) := Eq.trans rfl rfl
theorem aconv_int (k k' : IntKind) (n : Int) : aconv k (.int k' n) = some (.int k (k.wrap n)) := Eq.trans rfl rfl
def aneg : AV -> Option AV
 | .int k n => some (.int k (k.wrap (0 - n)))
 | _ => none
theorem rev_neg (g : Opd -> AV) (h : AHeap) (x : Opd) : rev g h (.neg x) = aneg (g x) := Eq.trans rfl rfl
theorem aneg_int (k : IntKind) (n : Int) : aneg (.int k n) = some (.int k (k.wrap (0 - n))) := Eq.trans rfl rfl
def aslc (sz : Nat) (x : AV) : Option (Option Int) -> Option (Option Int) -> Option (Option Int) -> Option AV
 | some lo, some hi, some mx => aslice sz x lo hi mx
 | _, _, _ => none
theorem rev_slc (g : Opd -> AV) (h : AHeap) (sz : Nat) (x : Opd) (lo hi mx : Option Opd) : rev g h (.slc sz x lo hi mx) = aslc sz (g x) (optInt g lo) (optInt g hi) (optInt g mx) := by
 simp only [rev, aslc]; generalize optInt g lo = a; generalize optInt g hi = b; generalize optInt g mx = c; cases a <;> cases b <;> cases c <;> rfl
theorem aslc_some (sz : Nat) (x : AV) (lo hi mx : Option Int) : aslc sz x (some lo) (some hi) (some mx) = aslice sz x lo hi mx := Eq.trans rfl rfl
def optInt1 : AV -> Option (Option Int)
 | .int _ n => some (some n)
 | _ => none
theorem optInt_one (g : Opd -> AV) (x : Opd) : optInt g (some x) = optInt1 (g x) := by simp only [optInt, optInt1]; generalize g x = v; cases v <;> rfl
theorem optInt1_int (k : IntKind) (n : Int) : optInt1 (.int k n) = some (some n) := Eq.trans rfl rfl
theorem optInt_none (g : Opd -> AV) : optInt g none = some none := Eq.trans rfl rfl
theorem add64 (a b : Int) : abin .add (.int .i64 a) (.int .i64 b) = some (.int .i64 (IntKind.i64.wrap (a + b))) := Eq.trans rfl rfl
theorem sub64 (a b : Int) : abin .sub (.int .i64 a) (.int .i64 b) = some (.int .i64 (IntKind.i64.wrap (a - b))) := Eq.trans rfl rfl
theorem mul64 (a b : Int) : abin .mul (.int .i64 a) (.int .i64 b) = some (.int .i64 (IntKind.i64.wrap (a * b))) := Eq.trans rfl rfl
theorem cmp_lss (k : IntKind) (a b : Int) : abin .lss (.int k a) (.int k b) = some (.bool (decide (a < b))) := by simp [abin, ibin]
theorem cmp_leq (k : IntKind) (a b : Int) : abin .leq (.int k a) (.int k b) = some (.bool (decide (a <= b))) := by simp [abin, ibin]
theorem cmp_gtr (k : IntKind) (a b : Int) : abin .gtr (.int k a) (.int k b) = some (.bool (decide (b < a))) := by simp [abin, ibin]
theorem cmp_geq (k : IntKind) (a b : Int) : abin .geq (.int k a) (.int k b) = some (.bool (decide (b <= a))) := by simp [abin, ibin]
theorem cmp_eql (k : IntKind) (a b : Int) : abin .eql (.int k a) (.int k b) = some (.bool (decide (a = b))) := by simp [abin, ibin]; rfl
theorem cmp_neq (k : IntKind) (a b : Int) : abin .neq (.int k a) (.int k b) = some (.bool (!decide (a = b))) := by simp [abin, ibin, bne]; rfl
theorem wrap_i64 {x : Int} (h : -9223372036854775808 <= x /\ x <= 9223372036854775807) : IntKind.i64.wrap x = x := by
 simp only [IntKind.wrap, IntKind.bits, IntKind.signed]
 simp
 split <;> omega
theorem take_agg (n : Nat) (cs : List AV) : takeCells true n cs = if n <= cs.length then some (.agg (cs.take n)) else none := Eq.trans rfl rfl
theorem take_one (n : Nat) (c : AV) (cs : List AV) : takeCells false n (c :: cs) = some c := Eq.trans rfl rfl
theorem resVals_nil (st : St) : resVals st [] = some [] := Eq.trans rfl rfl
theorem resVals_tmp (st : St) (x : Opd) (r : List ARes) : resVals st (.tmp x :: r) = (resVals st r).map (st.get x :: ·) := Eq.trans rfl rfl
theorem oneOrTup_one (x : AV) : oneOrTup [x] = x := Eq.trans rfl rfl
theorem oneOrTup_nil : oneOrTup [] = .tup [] := Eq.trans rfl rfl
theorem oneOrTup_two (x y : AV) (l : List AV) : oneOrTup (x :: y :: l) = .tup (x :: y :: l) := Eq.trans rfl rfl
theorem cells_int (k : IntKind) (n : Int) : (AV.int k n).cells? = some [.int k n] := Eq.trans rfl rfl
theorem cells_bool (b : Bool) : (AV.bool b).cells? = some [.bool b] := Eq.trans rfl rfl
theorem cells_str (s : ByteArray) : (AV.str s).cells? = some [.str s] := Eq.trans rfl rfl
theorem cells_nils : AV.nils.cells? = some [.nils] := Eq.trans rfl rfl
theorem cells_agg (cs : List AV) : (AV.agg cs).cells? = some cs := Eq.trans rfl rfl
theorem cells_ref (n sz off len : Nat) (cap : Option Nat) : (AV.ref n sz off len cap).cells? = some [.ref n sz off len cap] := Eq.trans rfl rfl
theorem cells_vals (t : Nat) (c : Bool) (sz : Nat) (es : List (List AV)) : (AV.vals t c sz es).cells? = some [.vals t c sz es] := Eq.trans rfl rfl
theorem cells_ptr (n sz i o : Nat) : (AV.ptr n sz i o).cells? = some [.ptr n sz i o] := Eq.trans rfl rfl
theorem cells_of {a : AV} (h : a.scalar = true) : a.cells? = some [a] := by
 cases a <;> first | rfl | simp_all [AV.cells?, AV.scalar]
theorem scalar_int (k : IntKind) (n : Int) : (AV.int k n).scalar = true := Eq.trans rfl rfl
theorem scalar_bool (b : Bool) : (AV.bool b).scalar = true := Eq.trans rfl rfl
theorem scalar_str (s : ByteArray) : (AV.str s).scalar = true := Eq.trans rfl rfl
theorem scalar_nils : AV.nils.scalar = true := Eq.trans rfl rfl
theorem scalar_ref (n sz off len : Nat) (cap : Option Nat) : (AV.ref n sz off len cap).scalar = true := Eq.trans rfl rfl
theorem scalar_vals (t : Nat) (c : Bool) (sz : Nat) (es : List (List AV)) : (AV.vals t c sz es).scalar = true := Eq.trans rfl rfl
theorem scalar_ptr (n sz i o : Nat) : (AV.ptr n sz i o).scalar = true := Eq.trans rfl rfl
theorem afill_nil (cs : List AV) : afill cs [] = some cs := Eq.trans rfl rfl
theorem afill_cons (cs : List AV) (o n : Nat) (x : AV) (r : List (Nat × Nat × AV)) :
  afill cs ((o, n, x) :: r) = x.cells?.bind fun l => if l.length = n /\ o + n <= cs.length then afill (setMany cs o l) r else none := by
 simp only [afill]; generalize x.cells? = q; cases q <;> rfl
theorem setMany_nil (cs : List AV) (o : Nat) : setMany cs o [] = cs := Eq.trans rfl rfl
theorem setMany_cons (cs : List AV) (o : Nat) (c : AV) (r : List AV) : setMany cs o (c :: r) = setMany (cs.set o c) (o + 1) r := Eq.trans rfl rfl
theorem rev_build (g : Opd -> AV) (h : AHeap) (z : List AV) (ps : List (Nat × Nat × Opd)) : rev g h (.build z ps) = (afill z (ps.map fun p => (p.1, p.2.1, g p.2.2))).map .agg := Eq.trans rfl rfl
theorem cellsAll_nil (sz : Nat) : cellsAll sz [] = some [] := Eq.trans rfl rfl
theorem cellsAll_cons (sz : Nat) (x : AV) (r : List AV) :
  cellsAll sz (x :: r) = x.cells?.bind fun cs => (cellsAll sz r).bind fun es => if cs.length = sz /\ cs.all AV.scalar = true then some (cs :: es) else none := by
 simp only [cellsAll]; cases x.cells? <;> cases cellsAll sz r <;> rfl
theorem lightOf_mk (g : Opd -> AV) (nm : Nat) (cs : List AV) : lightOf g nm (.mk cs) = some (.ptr nm cs.length 0 0, .arr cs.length [cs] false) := Eq.trans rfl rfl
theorem lightOf_box (g : Opd -> AV) (nm : Nat) (x : Opd) :
  lightOf g nm (.box x) = (g x).cells?.bind fun cs => if cs.all AV.scalar = true then some (.ptr nm cs.length 0 0, .arr cs.length [cs] false) else none := by
 simp only [lightOf]; cases (g x).cells? <;> rfl
theorem lightOf_bsl (g : Opd -> AV) (nm sz : Nat) (xs : List Opd) :
  lightOf g nm (.bsl sz xs) = (cellsAll sz (xs.map g)).map fun es => (.ref nm sz 0 xs.length (some xs.length), .arr sz es false) := by
 simp only [lightOf]; cases cellsAll sz (xs.map g) <;> rfl
theorem hev_mk (g : Opd -> AV) (h : AHeap) (cs : List AV) : hev g h (.mk cs) = some (.ptr h.length cs.length 0 0, h ++ [some (.arr cs.length [cs] false)]) := Eq.trans rfl rfl
theorem hev_box (g : Opd -> AV) (h : AHeap) (x : Opd) :
  hev g h (.box x) = (g x).cells?.bind fun cs => if cs.all AV.scalar = true then some (.ptr h.length cs.length 0 0, h ++ [some (.arr cs.length [cs] false)]) else none := by
 simp only [hev, lightOf]; generalize (g x).cells? = q; cases q with
 | none => rfl
 | some cs => simp only [Option.bind_some]; by_cases e : cs.all AV.scalar = true <;> simp [e]
theorem hev_bsl (g : Opd -> AV) (h : AHeap) (sz : Nat) (xs : List Opd) :
  hev g h (.bsl sz xs) = (cellsAll sz (xs.map g)).map fun es => (.ref h.length sz 0 xs.length (some xs.length), h ++ [some (.arr sz es false)]) := by
 simp only [hev, lightOf]; generalize cellsAll sz (xs.map g) = q; cases q <;> rfl
theorem hev_store (g : Opd -> AV) (h : AHeap) (n : Nat) (a x : Opd) : hev g h (.store n a x) = (astore h n (g a) (g x)).map fun h' => (.top, h') := Eq.trans rfl rfl
theorem hev_app (g : Opd -> AV) (h : AHeap) (sz bytes : Nat) (x y : Opd) : hev g h (.app sz bytes x y) = aappend h sz bytes (g x) (g y) := Eq.trans rfl rfl
theorem aappend_of {h : AHeap} {sz : Nat} {y : AV} {ys : List (List AV)} (hy : aelems h sz y = some ys) (bytes : Nat) (x : AV) : aappend h sz bytes x y = aappendY h sz bytes x ys := by
 simp only [aappend, hy]
theorem aelems_new (h : AHeap) (sz : Nat) (es : List (List AV)) (g : Bool) (cap : Option Nat) {len : Nat} (hl : len = es.length) : aelems (h ++ [some (.arr sz es g)]) sz (.ref h.length sz 0 len cap) = some es := by
 subst hl; simp [aelems]
theorem setMany_all : ∀ (r a : List AV) (cs : List AV), cs.length = r.length -> setMany (a ++ cs) a.length r = a ++ r := by
 intro r
 induction r with
 | nil => intro a cs h; simp at h; subst h; rfl
 | cons c r ih =>
  intro a cs h
  cases cs with
  | nil => simp at h
  | cons d cs =>
   simp only [setMany]
   have : (a ++ d :: cs).set a.length c = (a ++ [c]) ++ cs := by simp
   rw [this]
   have := ih (a ++ [c]) cs (by simpa using h)
   simpa using this
theorem astore_elem {h : AHeap} {n sz j : Nat} {row : List (List AV)} {g : Bool} {cs cs' : List AV} {x : AV} (h7 : h[n]? = some (some (.arr sz row g))) (h8 : row[j]? = some cs)
  (hc : x.cells? = some cs') (hl : cs.length = cs'.length) (hsz : cs'.length = sz) (hs : cs'.all AV.scalar = true) :
  astore h sz (.ptr n sz j 0) x = some (h.set n (some (.arr sz (row.set j cs') g))) := by
 have hj := (List.getElem?_eq_some_iff.1 h8).1
 simp only [astore, h7, hc]
 rw [if_pos ⟨trivial, hsz, by omega, hj, hs⟩]
 have : row.modify j (fun x => setMany x 0 cs') = row.set j cs' := by
  apply List.ext_getElem?
  intro i
  rw [List.getElem?_modify, List.getElem?_set]
  by_cases e : j = i
  ·subst e
   have := setMany_all cs' [] cs hl
   simp only [List.nil_append, List.length_nil] at this
   obtain ⟨_, rfl⟩ := List.getElem?_eq_some_iff.1 h8
   simp [hj, this]
  ·simp [e]
 rw [this]
def xorv (k : IntKind) (a b : Int) : Int := k.wrap (BitVec.ofInt k.bits a ^^^ BitVec.ofInt k.bits b).toNat
theorem bin_xor (k : IntKind) (a b : Int) : abin .xor (.int k a) (.int k b) = some (.int k (xorv k a b)) := by simp [abin, ibin, xorv]
def rowGet (b : Option (Option ABlk)) (sz i : Nat) : Option (List AV) :=
 match b with
 | some (some (.arr sz' es _)) => if sz = sz' then es[i]? else none
 | _ => none
theorem rowGet_arr (sz i : Nat) (es : List (List AV)) (g : Bool) : rowGet (some (some (.arr sz es g))) sz i = es[i]? := by simp [rowGet]
theorem aload_ptr (h : AHeap) (agg : Bool) (n m sz i o : Nat) : aload h agg n (.ptr m sz i o) = (rowGet h[m]? sz i).bind fun e => takeCells agg n (e.drop o) := by
 simp only [aload, rowGet]
 split
 ·rename_i sz' es g hm
  simp only [hm]
  split <;> rfl
 ·rename_i hm
  split
  ·rename_i sz' es g hm'; exact absurd hm' (hm _ _ _)
  ·rfl
theorem afield_ptr (o m sz i o' : Nat) : afield o (.ptr m sz i o') = some (.ptr m sz i (o' + o)) := Eq.trans rfl rfl
theorem achk_ptr (m sz i o : Nat) : achk (.ptr m sz i o) = some (.ptr m sz i o) := Eq.trans rfl rfl
def stRow (h : AHeap) (m n sz i o : Nat) (cs : List AV) (b : Option (Option ABlk)) : Option AHeap :=
 match b with
 | some (some (.arr sz' es g)) => if sz = sz' /\ cs.length = n /\ o + n <= sz /\ i < es.length /\ cs.all AV.scalar = true then some (h.set m (some (.arr sz (es.modify i (setMany · o cs)) g))) else none
 | _ => none
theorem astore_ptr (h : AHeap) (n m sz i o : Nat) (x : AV) : astore h n (.ptr m sz i o) x = x.cells?.bind fun cs => stRow h m n sz i o cs h[m]? := by
 simp only [astore]
 generalize hb : h[m]? = b
 generalize hc : x.cells? = c
 cases c with
 | none => cases b with
  | none => rfl
  | some b => cases b with
   | none => rfl
   | some b => cases b <;> rfl
 | some cs => cases b with
  | none => rfl
  | some b => cases b with
   | none => rfl
   | some b => cases b <;> rfl
theorem stRow_arr (h : AHeap) (m n sz i o : Nat) (cs : List AV) (es : List (List AV)) (g : Bool) :
  stRow h m n sz i o cs (some (some (.arr sz es g))) = if cs.length = n /\ o + n <= sz /\ i < es.length /\ cs.all AV.scalar = true then some (h.set m (some (.arr sz (es.modify i (setMany · o cs)) g))) else none := by
 simp [stRow]
theorem modify_one (e : List AV) (f : List AV -> List AV) : [e].modify 0 f = [f e] := Eq.trans rfl rfl
theorem bx10 (h : AHeap) (x : Option ABlk) : (h ++ [x])[h.length]? = some x := by
 rw [show h ++ [x] = h ++ [x] by simp, show h.length = h.length + 0 from rfl, List.getElem?_append_right (Nat.le_add_right _ _), Nat.add_sub_cancel_left]; rfl
theorem sx10 (h : AHeap) (x x' : Option ABlk) : (h ++ [x]).set (h.length) x' = h ++ [x'] := by
 rw [show h ++ [x] = h ++ [x] by simp, show h.length = h.length + 0 from rfl, List.set_append_right _ _ (Nat.le_add_right _ _), Nat.add_sub_cancel_left]; simp
theorem bx20 (h : AHeap) (x y : Option ABlk) : (h ++ [x] ++ [y])[h.length]? = some x := by
 rw [show h ++ [x] ++ [y] = h ++ [x, y] by simp, show h.length = h.length + 0 from rfl, List.getElem?_append_right (Nat.le_add_right _ _), Nat.add_sub_cancel_left]; rfl
theorem sx20 (h : AHeap) (x y x' : Option ABlk) : (h ++ [x] ++ [y]).set (h.length) x' = h ++ [x'] ++ [y] := by
 rw [show h ++ [x] ++ [y] = h ++ [x, y] by simp, show h.length = h.length + 0 from rfl, List.set_append_right _ _ (Nat.le_add_right _ _), Nat.add_sub_cancel_left]; simp
theorem bx21 (h : AHeap) (x y : Option ABlk) : (h ++ [x] ++ [y])[h.length + 1]? = some y := by
 rw [show h ++ [x] ++ [y] = h ++ [x, y] by simp, show h.length + 1 = h.length + 1 from rfl, List.getElem?_append_right (Nat.le_add_right _ _), Nat.add_sub_cancel_left]; rfl
theorem sx21 (h : AHeap) (x y y' : Option ABlk) : (h ++ [x] ++ [y]).set (h.length + 1) y' = h ++ [x] ++ [y'] := by
 rw [show h ++ [x] ++ [y] = h ++ [x, y] by simp, show h.length + 1 = h.length + 1 from rfl, List.set_append_right _ _ (Nat.le_add_right _ _), Nat.add_sub_cancel_left]; simp
theorem bx30 (h : AHeap) (x y z : Option ABlk) : (h ++ [x] ++ [y] ++ [z])[h.length]? = some x := by
 rw [show h ++ [x] ++ [y] ++ [z] = h ++ [x, y, z] by simp, show h.length = h.length + 0 from rfl, List.getElem?_append_right (Nat.le_add_right _ _), Nat.add_sub_cancel_left]; rfl
theorem sx30 (h : AHeap) (x y z x' : Option ABlk) : (h ++ [x] ++ [y] ++ [z]).set (h.length) x' = h ++ [x'] ++ [y] ++ [z] := by
 rw [show h ++ [x] ++ [y] ++ [z] = h ++ [x, y, z] by simp, show h.length = h.length + 0 from rfl, List.set_append_right _ _ (Nat.le_add_right _ _), Nat.add_sub_cancel_left]; simp
theorem bx31 (h : AHeap) (x y z : Option ABlk) : (h ++ [x] ++ [y] ++ [z])[h.length + 1]? = some y := by
 rw [show h ++ [x] ++ [y] ++ [z] = h ++ [x, y, z] by simp, show h.length + 1 = h.length + 1 from rfl, List.getElem?_append_right (Nat.le_add_right _ _), Nat.add_sub_cancel_left]; rfl
theorem sx31 (h : AHeap) (x y z y' : Option ABlk) : (h ++ [x] ++ [y] ++ [z]).set (h.length + 1) y' = h ++ [x] ++ [y'] ++ [z] := by
 rw [show h ++ [x] ++ [y] ++ [z] = h ++ [x, y, z] by simp, show h.length + 1 = h.length + 1 from rfl, List.set_append_right _ _ (Nat.le_add_right _ _), Nat.add_sub_cancel_left]; simp
theorem bx32 (h : AHeap) (x y z : Option ABlk) : (h ++ [x] ++ [y] ++ [z])[h.length + 1 + 1]? = some z := by
 rw [show h ++ [x] ++ [y] ++ [z] = h ++ [x, y, z] by simp, show h.length + 1 + 1 = h.length + 2 from rfl, List.getElem?_append_right (Nat.le_add_right _ _), Nat.add_sub_cancel_left]; rfl
theorem sx32 (h : AHeap) (x y z z' : Option ABlk) : (h ++ [x] ++ [y] ++ [z]).set (h.length + 1 + 1) z' = h ++ [x] ++ [y] ++ [z'] := by
 rw [show h ++ [x] ++ [y] ++ [z] = h ++ [x, y, z] by simp, show h.length + 1 + 1 = h.length + 2 from rfl, List.set_append_right _ _ (Nat.le_add_right _ _), Nat.add_sub_cancel_left]; simp
theorem bx40 (h : AHeap) (x y z u : Option ABlk) : (h ++ [x] ++ [y] ++ [z] ++ [u])[h.length]? = some x := by
 rw [show h ++ [x] ++ [y] ++ [z] ++ [u] = h ++ [x, y, z, u] by simp, show h.length = h.length + 0 from rfl, List.getElem?_append_right (Nat.le_add_right _ _), Nat.add_sub_cancel_left]; rfl
theorem sx40 (h : AHeap) (x y z u x' : Option ABlk) : (h ++ [x] ++ [y] ++ [z] ++ [u]).set (h.length) x' = h ++ [x'] ++ [y] ++ [z] ++ [u] := by
 rw [show h ++ [x] ++ [y] ++ [z] ++ [u] = h ++ [x, y, z, u] by simp, show h.length = h.length + 0 from rfl, List.set_append_right _ _ (Nat.le_add_right _ _), Nat.add_sub_cancel_left]; simp
theorem bx41 (h : AHeap) (x y z u : Option ABlk) : (h ++ [x] ++ [y] ++ [z] ++ [u])[h.length + 1]? = some y := by
 rw [show h ++ [x] ++ [y] ++ [z] ++ [u] = h ++ [x, y, z, u] by simp, show h.length + 1 = h.length + 1 from rfl, List.getElem?_append_right (Nat.le_add_right _ _), Nat.add_sub_cancel_left]; rfl
theorem sx41 (h : AHeap) (x y z u y' : Option ABlk) : (h ++ [x] ++ [y] ++ [z] ++ [u]).set (h.length + 1) y' = h ++ [x] ++ [y'] ++ [z] ++ [u] := by
 rw [show h ++ [x] ++ [y] ++ [z] ++ [u] = h ++ [x, y, z, u] by simp, show h.length + 1 = h.length + 1 from rfl, List.set_append_right _ _ (Nat.le_add_right _ _), Nat.add_sub_cancel_left]; simp
theorem bx42 (h : AHeap) (x y z u : Option ABlk) : (h ++ [x] ++ [y] ++ [z] ++ [u])[h.length + 1 + 1]? = some z := by
 rw [show h ++ [x] ++ [y] ++ [z] ++ [u] = h ++ [x, y, z, u] by simp, show h.length + 1 + 1 = h.length + 2 from rfl, List.getElem?_append_right (Nat.le_add_right _ _), Nat.add_sub_cancel_left]; rfl
theorem sx42 (h : AHeap) (x y z u z' : Option ABlk) : (h ++ [x] ++ [y] ++ [z] ++ [u]).set (h.length + 1 + 1) z' = h ++ [x] ++ [y] ++ [z'] ++ [u] := by
 rw [show h ++ [x] ++ [y] ++ [z] ++ [u] = h ++ [x, y, z, u] by simp, show h.length + 1 + 1 = h.length + 2 from rfl, List.set_append_right _ _ (Nat.le_add_right _ _), Nat.add_sub_cancel_left]; simp
theorem bx43 (h : AHeap) (x y z u : Option ABlk) : (h ++ [x] ++ [y] ++ [z] ++ [u])[h.length + 1 + 1 + 1]? = some u := by
 rw [show h ++ [x] ++ [y] ++ [z] ++ [u] = h ++ [x, y, z, u] by simp, show h.length + 1 + 1 + 1 = h.length + 3 from rfl, List.getElem?_append_right (Nat.le_add_right _ _), Nat.add_sub_cancel_left]; rfl
theorem sx43 (h : AHeap) (x y z u u' : Option ABlk) : (h ++ [x] ++ [y] ++ [z] ++ [u]).set (h.length + 1 + 1 + 1) u' = h ++ [x] ++ [y] ++ [z] ++ [u'] := by
 rw [show h ++ [x] ++ [y] ++ [z] ++ [u] = h ++ [x, y, z, u] by simp, show h.length + 1 + 1 + 1 = h.length + 3 from rfl, List.set_append_right _ _ (Nat.le_add_right _ _), Nat.add_sub_cancel_left]; simp
theorem bx50 (h : AHeap) (x y z u v : Option ABlk) : (h ++ [x] ++ [y] ++ [z] ++ [u] ++ [v])[h.length]? = some x := by
 rw [show h ++ [x] ++ [y] ++ [z] ++ [u] ++ [v] = h ++ [x, y, z, u, v] by simp, show h.length = h.length + 0 from rfl, List.getElem?_append_right (Nat.le_add_right _ _), Nat.add_sub_cancel_left]; rfl
theorem sx50 (h : AHeap) (x y z u v x' : Option ABlk) : (h ++ [x] ++ [y] ++ [z] ++ [u] ++ [v]).set (h.length) x' = h ++ [x'] ++ [y] ++ [z] ++ [u] ++ [v] := by
 rw [show h ++ [x] ++ [y] ++ [z] ++ [u] ++ [v] = h ++ [x, y, z, u, v] by simp, show h.length = h.length + 0 from rfl, List.set_append_right _ _ (Nat.le_add_right _ _), Nat.add_sub_cancel_left]; simp
theorem bx51 (h : AHeap) (x y z u v : Option ABlk) : (h ++ [x] ++ [y] ++ [z] ++ [u] ++ [v])[h.length + 1]? = some y := by
 rw [show h ++ [x] ++ [y] ++ [z] ++ [u] ++ [v] = h ++ [x, y, z, u, v] by simp, show h.length + 1 = h.length + 1 from rfl, List.getElem?_append_right (Nat.le_add_right _ _), Nat.add_sub_cancel_left]; rfl
theorem sx51 (h : AHeap) (x y z u v y' : Option ABlk) : (h ++ [x] ++ [y] ++ [z] ++ [u] ++ [v]).set (h.length + 1) y' = h ++ [x] ++ [y'] ++ [z] ++ [u] ++ [v] := by
 rw [show h ++ [x] ++ [y] ++ [z] ++ [u] ++ [v] = h ++ [x, y, z, u, v] by simp, show h.length + 1 = h.length + 1 from rfl, List.set_append_right _ _ (Nat.le_add_right _ _), Nat.add_sub_cancel_left]; simp
theorem bx52 (h : AHeap) (x y z u v : Option ABlk) : (h ++ [x] ++ [y] ++ [z] ++ [u] ++ [v])[h.length + 1 + 1]? = some z := by
 rw [show h ++ [x] ++ [y] ++ [z] ++ [u] ++ [v] = h ++ [x, y, z, u, v] by simp, show h.length + 1 + 1 = h.length + 2 from rfl, List.getElem?_append_right (Nat.le_add_right _ _), Nat.add_sub_cancel_left]; rfl
theorem sx52 (h : AHeap) (x y z u v z' : Option ABlk) : (h ++ [x] ++ [y] ++ [z] ++ [u] ++ [v]).set (h.length + 1 + 1) z' = h ++ [x] ++ [y] ++ [z'] ++ [u] ++ [v] := by
 rw [show h ++ [x] ++ [y] ++ [z] ++ [u] ++ [v] = h ++ [x, y, z, u, v] by simp, show h.length + 1 + 1 = h.length + 2 from rfl, List.set_append_right _ _ (Nat.le_add_right _ _), Nat.add_sub_cancel_left]; simp
theorem bx53 (h : AHeap) (x y z u v : Option ABlk) : (h ++ [x] ++ [y] ++ [z] ++ [u] ++ [v])[h.length + 1 + 1 + 1]? = some u := by
 rw [show h ++ [x] ++ [y] ++ [z] ++ [u] ++ [v] = h ++ [x, y, z, u, v] by simp, show h.length + 1 + 1 + 1 = h.length + 3 from rfl, List.getElem?_append_right (Nat.le_add_right _ _), Nat.add_sub_cancel_left]; rfl
theorem sx53 (h : AHeap) (x y z u v u' : Option ABlk) : (h ++ [x] ++ [y] ++ [z] ++ [u] ++ [v]).set (h.length + 1 + 1 + 1) u' = h ++ [x] ++ [y] ++ [z] ++ [u'] ++ [v] := by
 rw [show h ++ [x] ++ [y] ++ [z] ++ [u] ++ [v] = h ++ [x, y, z, u, v] by simp, show h.length + 1 + 1 + 1 = h.length + 3 from rfl, List.set_append_right _ _ (Nat.le_add_right _ _), Nat.add_sub_cancel_left]; simp
theorem bx54 (h : AHeap) (x y z u v : Option ABlk) : (h ++ [x] ++ [y] ++ [z] ++ [u] ++ [v])[h.length + 1 + 1 + 1 + 1]? = some v := by
 rw [show h ++ [x] ++ [y] ++ [z] ++ [u] ++ [v] = h ++ [x, y, z, u, v] by simp, show h.length + 1 + 1 + 1 + 1 = h.length + 4 from rfl, List.getElem?_append_right (Nat.le_add_right _ _), Nat.add_sub_cancel_left]; rfl
theorem sx54 (h : AHeap) (x y z u v v' : Option ABlk) : (h ++ [x] ++ [y] ++ [z] ++ [u] ++ [v]).set (h.length + 1 + 1 + 1 + 1) v' = h ++ [x] ++ [y] ++ [z] ++ [u] ++ [v'] := by
 rw [show h ++ [x] ++ [y] ++ [z] ++ [u] ++ [v] = h ++ [x, y, z, u, v] by simp, show h.length + 1 + 1 + 1 + 1 = h.length + 4 from rfl, List.set_append_right _ _ (Nat.le_add_right _ _), Nat.add_sub_cancel_left]; simp
theorem len_app1 (h : AHeap) (x : Option ABlk) : (h ++ [x]).length = h.length + 1 := by simp
theorem resVals_cell (st : St) (x : Opd) (agg : Bool) (n : Nat) (r : List ARes) : resVals st (.cell x agg n :: r) = (aload st.h agg n (st.get x)).bind fun v => (resVals st r).map (v :: ·) := by
 simp only [resVals]; cases aload st.h agg n (st.get x) <;> cases resVals st r <;> rfl
theorem Ext.b1 {h : AHeap} (x : Option ABlk) : Ext nof h (h ++ [x]) := Ext.app _ _ _
theorem Ext.b2 {h : AHeap} (x y : Option ABlk) : Ext nof h (h ++ [x] ++ [y]) := (Ext.app nof h [x]).tr (Ext.app _ _ _)
theorem Ext.b3 {h : AHeap} (x y z : Option ABlk) : Ext nof h (h ++ [x] ++ [y] ++ [z]) := (Ext.b2 x y).tr (Ext.app _ _ _)
theorem Ext.b4 {h : AHeap} (x y z u : Option ABlk) : Ext nof h (h ++ [x] ++ [y] ++ [z] ++ [u]) := (Ext.b3 x y z).tr (Ext.app _ _ _)
theorem Ext.box {h h' : AHeap} (e : Ext nof h h') (x : Option ABlk) : Ext nof h (h' ++ [x]) := e.tr (Ext.app _ _ _)
theorem Rd.scalar {F h} : ∀ {d : D} {a : AV}, Rd F h d a -> a.scalar = true := by
 intro d a hh
 cases d with
 | int k n => simp only [Rd] at hh; subst hh; rfl
 | bool b => simp only [Rd] at hh; subst hh; rfl
 | str s => simp only [Rd] at hh; subst hh; rfl
 | sl sz ds =>
  simp only [Rd] at hh
  obtain ⟨es, (⟨rfl, _⟩ | ⟨t, c, rfl⟩ | ⟨n, off, len, cap, row, g, rfl, _⟩), _⟩ := hh <;> rfl
theorem rep1 (x : Option ABlk) : List.replicate 1 x = [x] := Eq.trans rfl rfl
theorem rep2 (h : AHeap) (x : Option ABlk) : h ++ List.replicate 2 x = h ++ [x] ++ [x] := by simp [List.replicate]
theorem rep3 (h : AHeap) (x : Option ABlk) : h ++ List.replicate 3 x = h ++ [x] ++ [x] ++ [x] := by simp [List.replicate]
theorem rep4 (h : AHeap) (x : Option ABlk) : h ++ List.replicate 4 x = h ++ [x] ++ [x] ++ [x] ++ [x] := by simp [List.replicate]
theorem loose_one (dep : Nat -> Nat -> Bool) (i j n : Nat) (b : ABlk) : loose' dep i [(j, n, b)] = if dep i j = true then [] else [(j, n, b)] := by
 simp only [loose', List.filter_cons, List.filter_nil]; cases dep i j <;> rfl
theorem loose_cons (dep : Nat -> Nat -> Bool) (i j n : Nat) (b : ABlk) (r : List (Nat × Nat × ABlk)) : loose' dep i ((j, n, b) :: r) = if dep i j = true then loose' dep i r else (j, n, b) :: loose' dep i r := by
 simp only [loose', List.filter_cons]; cases dep i j <;> rfl
theorem mdep_eval (masks : List Nat) (i j : Nat) : mdep masks i j = decide (masks.getD i 0 / 2 ^ j % 2 = 1) := by
 simp only [mdep, Nat.testBit_eq_decide_div_mod_eq]
theorem freeR_one (dep : Nat -> Nat -> Bool) (lo i : Nat) (l : List (Nat × Nat × ABlk)) (h : AHeap) :
  freeR dep lo 1 i l h = ((l.any fun x => dep i x.1 && x.2.1 == lo) || isFree h[lo]?) := by simp [freeR]
theorem freeR_two (dep : Nat -> Nat -> Bool) (lo i : Nat) (l : List (Nat × Nat × ABlk)) (h : AHeap) :
  freeR dep lo 2 i l h = (((l.any fun x => dep i x.1 && x.2.1 == lo) || isFree h[lo]?) && ((l.any fun x => dep i x.1 && x.2.1 == lo + 1) || isFree h[lo + 1]?)) := by
 simp [freeR, List.range_succ]
theorem freeR_zero (dep : Nat -> Nat -> Bool) (lo i : Nat) (l : List (Nat × Nat × ABlk)) (h : AHeap) : freeR dep lo 0 i l h = true := by simp [freeR]
theorem isFree_none : isFree (some none) = true := Eq.trans rfl rfl
theorem pup {h h' : AHeap} {p : AV} {cs : List AV} (hp : pcells h p = some cs) (e : Ext nof h h') : pcells h' p = some cs := by
 cases p with
 | ptr m sz i o => exact pcells_keep (F := fun _ => True) (e.keep _) trivial hp
 | vptr t cs' => exact hp
 | _ => simp [pcells] at hp
theorem Ext.then {F : Nat -> Prop} {h h1 h2 : AHeap} (e : Ext nof h h1) (e' : Ext F h1 h2) (hF : ∀ m, m < h.length -> ¬ F m) : Ext nof h h2 := e.trans e' (fun _ _ x => x) (fun m hm hm' => hF m hm hm')
theorem own_ints {F F' : Nat -> Prop} {h h' : AHeap} {k : IntKind} : ∀ {l : List Int} {ys : List (List AV)}, RdLL F h (l.map fun n => [.int k n]) ys -> OwnLL (l.map fun n => [.int k n]) F' h' ys := by
 intro l
 induction l with
 | nil => intro ys hh; exact hh
 | cons n l ih =>
  intro ys hh
  simp only [List.map_cons, RdLL, RdL, Rd] at hh
  obtain ⟨_, r, rfl, ⟨_, _, rfl, rfl, rfl⟩, h2⟩ := hh
  simp only [List.map_cons, OwnLL, OwnL, Own]
  exact ⟨_, _, rfl, ⟨_, _, rfl, rfl, rfl⟩, ih h2⟩
theorem Ext.setNew {h h2 : AHeap} {n : Nat} (e : Ext nof h h2) (hn : h.length <= n) (x : Option ABlk) : Ext nof h (h2.set n x) :=
 e.trans (Ext.set (F := fun m => h.length <= m) x (fun _ => hn)) (fun _ _ x => x) (fun m hm hm' => by omega)
theorem Rd.up {F h h' d a} (hh : Rd F h d a) (e : Ext nof h h') : Rd F h' d a := Rd.mono (fun _ x => x) (e.keep F) _ _ hh
theorem RdL.up {F h h' d a} (hh : RdL F h d a) (e : Ext nof h h') : RdL F h' d a := RdL.mono (fun _ x => x) (e.keep F) _ _ hh
theorem Own.scalar {F h} {d : D} {a : AV} (hh : Own d F h a) : a.scalar = true := (Own.rd d (F' := F) (fun _ x => x) a hh).scalar
attribute [go_sem] List.replicate_zero List.append_nil List.map_cons List.map_nil Option.map_some List.nil_append vc_skip vc_ret vc_exit vc_reg vc_seq vc_block vc_cond vc_dreg kSeq_normal kSeq_exit kSeq_ret kBlk_normal kBlk_exit kBlk_ret kReg_mk kN_mk kLoop_normal kLoop_exit kLoop_ret vcOps_nil vcOps_r vcOps_h vcOps_call vcOps_callv vcOps_guard oR_some oH_some kPut_none kPut_loc kPut_tmp kPutH_none kPutH_loc kPutH_tmp get_loc get_tmp get_cst lk_nil lk_cons lk_ins wGuard_true wGuard_false wGuard_tf wGuard_ft wGuard_tup put_none put_loc put_tmp wCond_true wCond_false wCallv_clo atEnd_ret atEnd_normal kDN_mk finL_nil finL_cons vcD_nil vcD_mov vcD_pick vcD_build vcD_chk vcD_bin vcD_beq vcD_nileq vcD_not vcD_neg vcD_conv vcD_slc vcD_off vcD_idx vcD_ext vcD_len vcD_slen vcD_mnmx vcD_clo vcD_xop vcD_load vcD_light vcD_h vcD_call vcD_callv vcD_guard oL_some kDv_mk kDl_mk kDL_mk notRes_zero dget_loc dget_tmp dget_cst val_mk again_nil again_cons wDGuard_true wDGuard_false wDGuard_tf wDGuard_ft wDGuard_tup rev_mov rev_slc aslc_some optInt_none optInt_one optInt1_int rev_load rev_bin rev_len rev_off rev_idx rev_pick apick_bool rev_not anot_bool rev_ext aext_tup rev_beq abeq_eql abeq_neq rev_chk rev_conv aconv_int rev_neg aneg_int add64 sub64 mul64 cmp_lss cmp_leq cmp_gtr cmp_geq cmp_eql cmp_neq take_one resVals_nil resVals_tmp oneOrTup_one oneOrTup_nil oneOrTup_two cells_int cells_bool cells_str cells_nils cells_agg cells_ref cells_vals cells_ptr scalar_int scalar_bool scalar_str scalar_nils scalar_ref scalar_vals scalar_ptr afill_nil afill_cons setMany_nil setMany_cons rev_build cellsAll_nil cellsAll_cons lightOf_mk lightOf_box lightOf_bsl hev_mk hev_box hev_bsl hev_store hev_app bin_xor rowGet_arr aload_ptr afield_ptr achk_ptr astore_ptr stRow_arr modify_one bx10 bx20 bx21 bx30 bx31 bx32 bx40 bx41 bx42 bx43 bx50 bx51 bx52 bx53 bx54 sx10 sx20 sx21 sx30 sx31 sx32 sx40 sx41 sx42 sx43 sx50 sx51 sx52 sx53 sx54 len_app1 resVals_cell List.getElem?_set Nat.left_eq_add Nat.zero_lt_one Nat.lt_add_one Nat.add_eq_left Nat.add_left_cancel_iff Nat.add_right_cancel_iff rep1 rep2 rep3 rep4 loose_one mdep_eval freeR_one freeR_two isFree_none loose_nil hideL_nil showL_nil kDB_mk Nat.add_zero List.getD_cons_zero List.getD_cons_succ List.any_nil List.any_cons Bool.false_or Bool.or_false Bool.true_and Bool.and_true Bool.true_or beq_self_eq_true true_or or_true freeR_zero take_agg List.drop_succ_cons List.drop_zero List.take_succ_cons List.take_zero List.length_cons List.length_nil List.set_cons_zero List.set_cons_succ List.getElem?_cons_zero List.getElem?_cons_succ Option.bind_some and_true true_and and_self if_true List.all_cons List.all_nil Bool.and_true Bool.and_self Bool.false_eq_true if_false Bool.not_true Bool.not_false
end Glb
namespace Glb
open Go
section
variable {h : AHeap} {n sz i : Nat} {row : List (List AV)} {g : Bool} {cs cs' : List AV}
end
def slen : AV -> Nat
 | .ref _ _ _ len _ => len
 | _ => 0
end Glb
namespace Glb
open Go
end Glb
namespace Glb
open Go
mutual
def D.av : D -> AV
 | .int k n => .int k n
 | .bool b => .bool b
 | .str s => .str s
 | .sl sz es => .vals 0 false sz (D.avLL es)
def D.avL : List D -> List AV
 | [] => []
 | d :: r => D.av d :: D.avL r
def D.avLL : List (List D) -> List (List AV)
 | [] => []
 | e :: r => D.avL e :: D.avLL r
end
theorem avL_map : ∀ l : List D, D.avL l = l.map D.av
 | [] => rfl
 | d :: r => by simp only [D.avL, List.map_cons, avL_map r]
theorem avLL_map : ∀ l : List (List D), D.avLL l = l.map D.avL
 | [] => rfl
 | d :: r => by simp only [D.avLL, List.map_cons, avLL_map r]
theorem av_scalar (d : D) : d.av.scalar = true := by cases d <;> simp only [D.av] <;> rfl
mutual
theorem rd_av (F : Nat -> Prop) (h : AHeap) : ∀ d : D, Rd F h d d.av
 | .int k n => by simp only [Rd, D.av]
 | .bool b => by simp only [Rd, D.av]
 | .str s => by simp only [Rd, D.av]
 | .sl sz es => by
  simp only [Rd, D.av]
  exact ⟨_, .inr (.inl ⟨0, false, rfl⟩), rdLL_av F h es⟩
theorem rdL_av (F : Nat -> Prop) (h : AHeap) : ∀ l : List D, RdL F h l (D.avL l)
 | [] => by simp only [RdL, D.avL]
 | d :: r => by simp only [RdL, D.avL]; exact ⟨_, _, rfl, rd_av F h d, rdL_av F h r⟩
theorem rdLL_av (F : Nat -> Prop) (h : AHeap) : ∀ l : List (List D), RdLL F h l (D.avLL l)
 | [] => by simp only [RdLL, D.avLL]
 | d :: r => by simp only [RdLL, D.avLL]; exact ⟨_, _, rfl, rdL_av F h d, rdLL_av F h r⟩
end
section
variable {H : Type} {enc : TypeId × Value -> H} {P : Program} {w : World} {held : Bool}
end
end Glb
