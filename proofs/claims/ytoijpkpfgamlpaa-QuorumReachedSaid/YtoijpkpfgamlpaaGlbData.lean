/-
  A library of its own, for whatever program: data, and what it is to find it in abstract values and rows.
-/
import Derived.Test.YtoijpkpfgamlpaaGlbTrunc
set_option linter.unusedSimpArgs false
set_option linter.unusedVariables false
namespace Glb
open Go

/-- data: numbers, truths, texts, and lists of structs of data (a struct: its cells) -/
inductive D where
  | int (k : IntKind) (n : Int)
  | bool (b : Bool)
  | str (s : ByteArray)
  | sl (sz : Nat) (es : List (List D))

def capLe (cap : Option Nat) (len : Nat) : Prop := ∀ c, cap = some c → len ≤ c

/-- the elements of a slice: in rows of names in F, or in memory that stays -/
def Els (F : Nat → Prop) (h : AHeap) (sz : Nat) (av : AV) (es : List (List AV)) : Prop :=
  (av = .nils ∧ es = []) ∨ (∃ t c, av = .vals t c sz es) ∨
    ∃ n off len cap row g, av = .ref n sz off len cap ∧ F n ∧ h[n]? = some (some (.arr sz row g)) ∧ off + len ≤ row.length ∧ capLe cap len ∧ es = (row.drop off).take len

mutual
/-- a value reads as data -/
def Rd (F : Nat → Prop) (h : AHeap) : D → AV → Prop
  | .int k n, av => av = .int k n
  | .bool b, av => av = .bool b
  | .str s, av => av = .str s
  | .sl sz ds, av => ∃ es, Els F h sz av es ∧ RdLL F h ds es
def RdL (F : Nat → Prop) (h : AHeap) : List D → List AV → Prop
  | [], l => l = []
  | d :: ds, l => ∃ a r, l = a :: r ∧ Rd F h d a ∧ RdL F h ds r
def RdLL (F : Nat → Prop) (h : AHeap) : List (List D) → List (List AV) → Prop
  | [], l => l = []
  | e :: ds, l => ∃ a r, l = a :: r ∧ RdL F h e a ∧ RdLL F h ds r
end

mutual
/-- a value is data in rows that are one's own: names in F, a list's row none of those of its elements -/
def Own : D → (Nat → Prop) → AHeap → AV → Prop
  | .int k n, _, _, av => av = .int k n
  | .bool b, _, _, av => av = .bool b
  | .str s, _, _, av => av = .str s
  | .sl sz ds, F, h, av => (av = .nils ∧ ds = []) ∨ (∃ t c, av = .vals t c sz [] ∧ ds = []) ∨
      ∃ n off cap row g, av = .ref n sz off ds.length cap ∧ F n ∧ h[n]? = some (some (.arr sz row g)) ∧ off + ds.length ≤ row.length ∧ capLe cap ds.length ∧
        OwnLL ds (fun m => F m ∧ m ≠ n) h ((row.drop off).take ds.length)
def OwnL : List D → (Nat → Prop) → AHeap → List AV → Prop
  | [], _, _, l => l = []
  | d :: ds, F, h, l => ∃ a r, l = a :: r ∧ Own d F h a ∧ OwnL ds F h r
def OwnLL : List (List D) → (Nat → Prop) → AHeap → List (List AV) → Prop
  | [], _, _, l => l = []
  | e :: ds, F, h, l => ∃ a r, l = a :: r ∧ OwnL e F h a ∧ OwnLL ds F h r
end

/-! lists of them -/

theorem RdLL_length {F h} : ∀ {ds : List (List D)} {es : List (List AV)}, RdLL F h ds es → es.length = ds.length := by
  intro ds
  induction ds with
  | nil => intro es h; simp only [RdLL] at h; subst h; rfl
  | cons e ds ih => intro es h; simp only [RdLL] at h; obtain ⟨a, r, rfl, _, h⟩ := h; simp [ih h]

theorem RdL_length {F h} : ∀ {ds : List D} {es : List AV}, RdL F h ds es → es.length = ds.length := by
  intro ds
  induction ds with
  | nil => intro es h; simp only [RdL] at h; subst h; rfl
  | cons e ds ih => intro es h; simp only [RdL] at h; obtain ⟨a, r, rfl, _, h⟩ := h; simp [ih h]

theorem RdLL_get {F h} : ∀ {ds : List (List D)} {es : List (List AV)}, RdLL F h ds es → ∀ (i : Nat) (d : List D), ds[i]? = some d → ∃ e, es[i]? = some e ∧ RdL F h d e := by
  intro ds
  induction ds with
  | nil => intro es h i d hd; simp at hd
  | cons e ds ih =>
    intro es h i d hd
    simp only [RdLL] at h
    obtain ⟨a, r, rfl, h1, h2⟩ := h
    cases i with
    | zero => simp at hd; subst hd; exact ⟨a, rfl, h1⟩
    | succ i => obtain ⟨e', h3, h4⟩ := ih h2 i d (by simpa using hd); exact ⟨e', by simpa using h3, h4⟩

theorem RdLL_mk {F h} : ∀ {ds : List (List D)} {es : List (List AV)}, es.length = ds.length → (∀ (i : Nat) (d : List D) (e : List AV), ds[i]? = some d → es[i]? = some e → RdL F h d e) → RdLL F h ds es := by
  intro ds
  induction ds with
  | nil => intro es hl _; simp only [RdLL]; exact List.eq_nil_of_length_eq_zero (by simpa using hl)
  | cons d ds ih =>
    intro es hl hh
    cases es with
    | nil => simp at hl
    | cons e es =>
      simp only [RdLL]
      exact ⟨e, es, rfl, hh 0 d e rfl rfl, ih (by simpa using hl) fun i d' e' h1 h2 => hh (i + 1) d' e' (by simpa using h1) (by simpa using h2)⟩

theorem RdLL_app {F h} : ∀ {ds ds' : List (List D)} {es es' : List (List AV)}, RdLL F h ds es → RdLL F h ds' es' → RdLL F h (ds ++ ds') (es ++ es') := by
  intro ds
  induction ds with
  | nil => intro ds' es es' h1 h2; simp only [RdLL] at h1; subst h1; exact h2
  | cons d ds ih => intro ds' es es' h1 h2; simp only [RdLL] at h1; obtain ⟨a, r, rfl, h3, h4⟩ := h1; exact ⟨a, r ++ es', rfl, h3, ih h4 h2⟩

theorem RdLL_take {F h} {ds : List (List D)} {es : List (List AV)} (hh : RdLL F h ds es) (k : Nat) : RdLL F h (ds.take k) (es.take k) := by
  refine RdLL_mk (by simp [RdLL_length hh]) fun i d e h1 h2 => ?_
  rw [List.getElem?_take] at h1 h2
  split at h1
  · rename_i hi
    rw [if_pos hi] at h2
    obtain ⟨e', h3, h4⟩ := RdLL_get hh i d h1
    rw [h2] at h3; cases h3; exact h4
  · cases h1

theorem RdLL_drop {F h} {ds : List (List D)} {es : List (List AV)} (hh : RdLL F h ds es) (k : Nat) : RdLL F h (ds.drop k) (es.drop k) := by
  refine RdLL_mk (by simp [RdLL_length hh]) fun i d e h1 h2 => ?_
  rw [List.getElem?_drop] at h1 h2
  obtain ⟨e', h3, h4⟩ := RdLL_get hh _ d h1
  rw [h2] at h3; cases h3; exact h4

theorem OwnLL_length {F h} : ∀ {ds : List (List D)} {es : List (List AV)}, OwnLL ds F h es → es.length = ds.length := by
  intro ds
  induction ds with
  | nil => intro es h; simp only [OwnLL] at h; subst h; rfl
  | cons e ds ih => intro es h; simp only [OwnLL] at h; obtain ⟨a, r, rfl, _, h⟩ := h; simp [ih h]

theorem OwnLL_get {F h} : ∀ {ds : List (List D)} {es : List (List AV)}, OwnLL ds F h es → ∀ (i : Nat) (d : List D), ds[i]? = some d → ∃ e, es[i]? = some e ∧ OwnL d F h e := by
  intro ds
  induction ds with
  | nil => intro es h i d hd; simp at hd
  | cons e ds ih =>
    intro es h i d hd
    simp only [OwnLL] at h
    obtain ⟨a, r, rfl, h1, h2⟩ := h
    cases i with
    | zero => simp at hd; subst hd; exact ⟨a, rfl, h1⟩
    | succ i => obtain ⟨e', h3, h4⟩ := ih h2 i d (by simpa using hd); exact ⟨e', by simpa using h3, h4⟩

theorem OwnLL_mk {F h} : ∀ {ds : List (List D)} {es : List (List AV)}, es.length = ds.length → (∀ (i : Nat) (d : List D) (e : List AV), ds[i]? = some d → es[i]? = some e → OwnL d F h e) → OwnLL ds F h es := by
  intro ds
  induction ds with
  | nil => intro es hl _; simp only [OwnLL]; exact List.eq_nil_of_length_eq_zero (by simpa using hl)
  | cons d ds ih =>
    intro es hl hh
    cases es with
    | nil => simp at hl
    | cons e es =>
      simp only [OwnLL]
      exact ⟨e, es, rfl, hh 0 d e rfl rfl, ih (by simpa using hl) fun i d' e' h1 h2 => hh (i + 1) d' e' (by simpa using h1) (by simpa using h2)⟩

theorem OwnLL_app {F h} : ∀ {ds ds' : List (List D)} {es es' : List (List AV)}, OwnLL ds F h es → OwnLL ds' F h es' → OwnLL (ds ++ ds') F h (es ++ es') := by
  intro ds
  induction ds with
  | nil => intro ds' es es' h1 h2; simp only [OwnLL] at h1; subst h1; exact h2
  | cons d ds ih => intro ds' es es' h1 h2; simp only [OwnLL] at h1; obtain ⟨a, r, rfl, h3, h4⟩ := h1; exact ⟨a, r ++ es', rfl, h3, ih h4 h2⟩

theorem OwnLL_take {F h} {ds : List (List D)} {es : List (List AV)} (hh : OwnLL ds F h es) (k : Nat) : OwnLL (ds.take k) F h (es.take k) := by
  refine OwnLL_mk (by simp [OwnLL_length hh]) fun i d e h1 h2 => ?_
  rw [List.getElem?_take] at h1 h2
  split at h1
  · rename_i hi
    rw [if_pos hi] at h2
    obtain ⟨e', h3, h4⟩ := OwnLL_get hh i d h1
    rw [h2] at h3; cases h3; exact h4
  · cases h1

theorem OwnLL_drop {F h} {ds : List (List D)} {es : List (List AV)} (hh : OwnLL ds F h es) (k : Nat) : OwnLL (ds.drop k) F h (es.drop k) := by
  refine OwnLL_mk (by simp [OwnLL_length hh]) fun i d e h1 h2 => ?_
  rw [List.getElem?_drop] at h1 h2
  obtain ⟨e', h3, h4⟩ := OwnLL_get hh _ d h1
  rw [h2] at h3; cases h3; exact h4

/-! it stays so -/

/-- nothing of these names was changed -/
def Keep (F : Nat → Prop) (h h' : AHeap) : Prop := ∀ m, F m → ∀ x, h[m]? = some x → h'[m]? = some x

theorem Ext.keep {h h' : AHeap} (F : Nat → Prop) (a : Ext nof h h') : Keep F h h' := fun _ _ _ hx => a.get hx
theorem Ext.keepOff {F F' : Nat → Prop} {h h' : AHeap} (a : Ext F h h') (hd : ∀ m, m < h.length → F' m → ¬ F m) : Keep F' h h' := fun m hm x hx => by
  have := (List.getElem?_eq_some_iff.1 hx).1
  rw [a.2 m this (hd m this hm)]; exact hx

theorem Els.mono {F F' h h' sz av es} (hF : ∀ m, F m → F' m) (hk : Keep F h h') (hh : Els F h sz av es) : Els F' h' sz av es := by
  rcases hh with hh | hh | ⟨n, off, len, cap, row, g, h1, h2, h3, h4, h5⟩
  · exact .inl hh
  · exact .inr (.inl hh)
  · exact .inr (.inr ⟨n, off, len, cap, row, g, h1, hF n h2, hk n h2 _ h3, h4, h5⟩)

mutual
theorem Rd.mono {F F' : Nat → Prop} {h h' : AHeap} (hF : ∀ m, F m → F' m) (hk : Keep F h h') : ∀ (d : D) (av : AV), Rd F h d av → Rd F' h' d av
  | .int _ _, _, hh => hh
  | .bool _, _, hh => hh
  | .str _, _, hh => hh
  | .sl _ ds, _, hh => by
    simp only [Rd] at hh ⊢
    obtain ⟨es, h1, h2⟩ := hh
    exact ⟨es, h1.mono hF hk, RdLL.mono hF hk ds es h2⟩
theorem RdL.mono {F F' : Nat → Prop} {h h' : AHeap} (hF : ∀ m, F m → F' m) (hk : Keep F h h') : ∀ (ds : List D) (l : List AV), RdL F h ds l → RdL F' h' ds l
  | [], _, hh => hh
  | d :: ds, _, hh => by
    simp only [RdL] at hh ⊢
    obtain ⟨a, r, h1, h2, h3⟩ := hh
    exact ⟨a, r, h1, Rd.mono hF hk d a h2, RdL.mono hF hk ds r h3⟩
theorem RdLL.mono {F F' : Nat → Prop} {h h' : AHeap} (hF : ∀ m, F m → F' m) (hk : Keep F h h') : ∀ (ds : List (List D)) (l : List (List AV)), RdLL F h ds l → RdLL F' h' ds l
  | [], _, hh => hh
  | d :: ds, _, hh => by
    simp only [RdLL] at hh ⊢
    obtain ⟨a, r, h1, h2, h3⟩ := hh
    exact ⟨a, r, h1, RdL.mono hF hk d a h2, RdLL.mono hF hk ds r h3⟩
end

mutual
theorem Own.mono : ∀ (d : D) {F F' : Nat → Prop} {h h' : AHeap} (_ : ∀ m, F m → F' m) (_ : Keep F h h') (av : AV), Own d F h av → Own d F' h' av
  | .int _ _, _, _, _, _, _, _, _, hh => hh
  | .bool _, _, _, _, _, _, _, _, hh => hh
  | .str _, _, _, _, _, _, _, _, hh => hh
  | .sl _ ds, F, F', h, h', hF, hk, _, hh => by
    simp only [Own] at hh ⊢
    rcases hh with hh | hh | ⟨n, off, cap, row, g, h1, h2, h3, h4, hc, h5⟩
    · exact .inl hh
    · exact .inr (.inl hh)
    · exact .inr (.inr ⟨n, off, cap, row, g, h1, hF n h2, hk n h2 _ h3, h4, hc, OwnLL.mono ds (fun m hm => ⟨hF m hm.1, hm.2⟩) (fun m hm => hk m hm.1) _ h5⟩)
theorem OwnL.mono : ∀ (ds : List D) {F F' : Nat → Prop} {h h' : AHeap} (_ : ∀ m, F m → F' m) (_ : Keep F h h') (l : List AV), OwnL ds F h l → OwnL ds F' h' l
  | [], _, _, _, _, _, _, _, hh => hh
  | d :: ds, _, _, _, _, hF, hk, _, hh => by
    simp only [OwnL] at hh ⊢
    obtain ⟨a, r, h1, h2, h3⟩ := hh
    exact ⟨a, r, h1, Own.mono d hF hk a h2, OwnL.mono ds hF hk r h3⟩
theorem OwnLL.mono : ∀ (ds : List (List D)) {F F' : Nat → Prop} {h h' : AHeap} (_ : ∀ m, F m → F' m) (_ : Keep F h h') (l : List (List AV)), OwnLL ds F h l → OwnLL ds F' h' l
  | [], _, _, _, _, _, _, _, hh => hh
  | d :: ds, _, _, _, _, hF, hk, _, hh => by
    simp only [OwnLL] at hh ⊢
    obtain ⟨a, r, h1, h2, h3⟩ := hh
    exact ⟨a, r, h1, OwnL.mono d hF hk a h2, OwnLL.mono ds hF hk r h3⟩
end

mutual
theorem Own.rd : ∀ (d : D) {F F' : Nat → Prop} {h : AHeap} (_ : ∀ m, F m → F' m) (av : AV), Own d F h av → Rd F' h d av
  | .int _ _, _, _, _, _, _, hh => hh
  | .bool _, _, _, _, _, _, hh => hh
  | .str _, _, _, _, _, _, hh => hh
  | .sl sz ds, F, F', h, hF, _, hh => by
    simp only [Own, Rd] at hh ⊢
    rcases hh with ⟨rfl, rfl⟩ | ⟨t, c, rfl, rfl⟩ | ⟨n, off, cap, row, g, h1, h2, h3, h4, hc, h5⟩
    · exact ⟨[], .inl ⟨rfl, rfl⟩, rfl⟩
    · exact ⟨[], .inr (.inl ⟨t, c, rfl⟩), rfl⟩
    · exact ⟨_, .inr (.inr ⟨n, off, _, cap, row, g, h1, hF n h2, h3, h4, hc, rfl⟩), OwnLL.rd ds (fun m hm => hF m hm.1) _ h5⟩
theorem OwnL.rd : ∀ (ds : List D) {F F' : Nat → Prop} {h : AHeap} (_ : ∀ m, F m → F' m) (l : List AV), OwnL ds F h l → RdL F' h ds l
  | [], _, _, _, _, _, hh => hh
  | d :: ds, _, _, _, hF, _, hh => by
    simp only [OwnL, RdL] at hh ⊢
    obtain ⟨a, r, h1, h2, h3⟩ := hh
    exact ⟨a, r, h1, Own.rd d hF a h2, OwnL.rd ds hF r h3⟩
theorem OwnLL.rd : ∀ (ds : List (List D)) {F F' : Nat → Prop} {h : AHeap} (_ : ∀ m, F m → F' m) (l : List (List AV)), OwnLL ds F h l → RdLL F' h ds l
  | [], _, _, _, _, _, hh => hh
  | d :: ds, _, _, _, hF, _, hh => by
    simp only [OwnLL, RdLL] at hh ⊢
    obtain ⟨a, r, h1, h2, h3⟩ := hh
    exact ⟨a, r, h1, OwnL.rd d hF a h2, OwnLL.rd ds hF r h3⟩
end

/-- only names that are there count -/
theorem Keep.lt (F : Nat → Prop) (h : AHeap) : ∀ m, F m → ∀ x, h[m]? = some x → h[m]? = some x := fun _ _ _ hx => hx

mutual
theorem Own.lt : ∀ (d : D) {F : Nat → Prop} {h : AHeap} (av : AV), Own d F h av → Own d (fun m => F m ∧ m < h.length) h av
  | .int _ _, _, _, _, hh => hh
  | .bool _, _, _, _, hh => hh
  | .str _, _, _, _, hh => hh
  | .sl sz ds, F, h, _, hh => by
    simp only [Own] at hh ⊢
    rcases hh with hh | hh | ⟨n, off, cap, row, g, h1, h2, h3, h4, hc, h5⟩
    · exact .inl hh
    · exact .inr (.inl hh)
    · exact .inr (.inr ⟨n, off, cap, row, g, h1, ⟨h2, (List.getElem?_eq_some_iff.1 h3).1⟩, h3, h4, hc,
        OwnLL.mono ds (fun m hm => ⟨⟨hm.1.1, hm.2⟩, hm.1.2⟩) (fun _ _ _ hx => hx) _ (OwnLL.lt ds _ h5)⟩)
theorem OwnL.lt : ∀ (ds : List D) {F : Nat → Prop} {h : AHeap} (l : List AV), OwnL ds F h l → OwnL ds (fun m => F m ∧ m < h.length) h l
  | [], _, _, _, hh => hh
  | d :: ds, _, _, _, hh => by
    simp only [OwnL] at hh ⊢
    obtain ⟨a, r, h1, h2, h3⟩ := hh
    exact ⟨a, r, h1, Own.lt d a h2, OwnL.lt ds r h3⟩
theorem OwnLL.lt : ∀ (ds : List (List D)) {F : Nat → Prop} {h : AHeap} (l : List (List AV)), OwnLL ds F h l → OwnLL ds (fun m => F m ∧ m < h.length) h l
  | [], _, _, _, hh => hh
  | d :: ds, _, _, _, hh => by
    simp only [OwnLL] at hh ⊢
    obtain ⟨a, r, h1, h2, h3⟩ := hh
    exact ⟨a, r, h1, OwnL.lt d a h2, OwnLL.lt ds r h3⟩
end

/-! reading -/

/-- the cells at a pointer -/
def pcells (h : AHeap) : AV → Option (List AV)
  | .ptr m sz i o => match h[m]? with
    | some (some (.arr sz' es _)) => if sz = sz' then (es[i]?).map (·.drop o) else none
    | _ => none
  | .vptr _ cs => some cs
  | _ => none

def poff (o : Nat) : AV → AV
  | .ptr m sz i o' => .ptr m sz i (o' + o)
  | .vptr t cs => .vptr t (cs.drop o)
  | v => v

theorem aload_p {h p cs} (hp : pcells h p = some cs) (agg : Bool) (n : Nat) : aload h agg n p = takeCells agg n cs := by
  unfold pcells at hp
  split at hp
  · rename_i m sz i o
    simp only [aload]
    split at hp
    · rename_i sz' es g hm
      simp only [hm]
      split at hp
      · rename_i e
        rw [if_pos e]
        cases he : es[i]? with
        | none => simp [he] at hp
        | some e' => simp [he] at hp; subst hp; rfl
      · cases hp
    · cases hp
  · cases hp; rfl
  · cases hp

theorem afield_p {h p cs} (hp : pcells h p = some cs) (o : Nat) : afield o p = some (poff o p) := by
  unfold pcells at hp
  split at hp
  · rfl
  · rfl
  · cases hp

theorem pcells_off {h p cs} (hp : pcells h p = some cs) (o : Nat) : pcells h (poff o p) = some (cs.drop o) := by
  unfold pcells at hp
  split at hp
  · rename_i m sz i o'
    simp only [poff, pcells]
    split at hp
    · rename_i sz' es g hm
      (try simp only [hm])
      split at hp
      · rename_i e
        (try rw [if_pos e])
        cases he : es[i]? with
        | none => simp [he] at hp
        | some e' => simp [he] at hp; subst hp; simp [List.drop_drop]
      · cases hp
    · cases hp
  · cases hp; rfl
  · cases hp

theorem aload_off {h p cs} (hp : pcells h p = some cs) (o : Nat) (agg : Bool) (n : Nat) : aload h agg n (poff o p) = takeCells agg n (cs.drop o) := aload_p (pcells_off hp o) agg n

theorem pcells_keep {F : Nat → Prop} {h h' : AHeap} (hk : Keep F h h') {m sz i o cs} (hm : F m) (hp : pcells h (.ptr m sz i o) = some cs) : pcells h' (.ptr m sz i o) = some cs := by
  simp only [pcells] at hp ⊢
  split at hp
  · rename_i sz' es g hx; rw [hk m hm _ hx]; exact hp
  · cases hp

/-- the cells of a new box -/
theorem pcells_box (h : AHeap) (sz : Nat) (cs : List AV) (g : Bool) : pcells (h ++ [some (.arr sz [cs] g)]) (.ptr h.length sz 0 0) = some cs := by
  simp [pcells]

theorem Els.len {F h sz av es} (hh : Els F h sz av es) : alen av = some (.int .i64 es.length) := by
  rcases hh with ⟨rfl, rfl⟩ | ⟨t, c, rfl⟩ | ⟨n, off, len, cap, row, g, rfl, _, _, h4, _, rfl⟩
  · rfl
  · rfl
  · simp only [alen, List.length_take, List.length_drop]; congr 2; omega

theorem Els.elems {F h sz av es} (hh : Els F h sz av es) : aelems h sz av = some es := by
  rcases hh with ⟨rfl, rfl⟩ | ⟨t, c, rfl⟩ | ⟨n, off, len, cap, row, g, rfl, _, h3, h4, _, rfl⟩
  · rfl
  · simp [aelems]
  · simp [aelems, h3, h4]

theorem Els.index {F h sz av es} (hh : Els F h sz av es) (k : IntKind) {i : Int} {e : List AV} (h0 : 0 ≤ i) (he : es[i.toNat]? = some e) :
    ∃ p, aindex sz av (.int k i) = some p ∧ pcells h p = some e := by
  rcases hh with ⟨rfl, rfl⟩ | ⟨t, c, rfl⟩ | ⟨n, off, len, cap, row, g, rfl, _, h3, h4, _, rfl⟩
  · simp at he
  · exact ⟨.vptr t e, by simp [aindex, h0, he], rfl⟩
  · have hlt := (List.getElem?_eq_some_iff.1 he).1
    simp only [List.length_take, List.length_drop] at hlt
    rw [List.getElem?_take_of_lt (by omega), List.getElem?_drop] at he
    refine ⟨.ptr n sz (off + i.toNat) 0, ?_, ?_⟩
    · simp only [aindex]; rw [if_pos ⟨trivial, h0, by omega⟩]
    · simp [pcells, h3, he]

theorem Els.slice {F h sz av es} (hh : Els F h sz av es) {lo hi mx : Option Int} (h0 : 0 ≤ lo.getD 0) (h1 : lo.getD 0 ≤ hi.getD es.length) (h2 : hi.getD es.length ≤ (es.length : Int))
    (h3 : hi.getD es.length ≤ mx.getD (hi.getD es.length)) (h4 : mx.getD (hi.getD es.length) ≤ (es.length : Int)) (h5 : mx.isSome → hi.isSome) :
    ∃ av', aslice sz av lo hi mx = some av' ∧ Els F h sz av' ((es.take (hi.getD es.length).toNat).drop (lo.getD 0).toNat) := by
  rcases hh with ⟨rfl, rfl⟩ | ⟨t, c, rfl⟩ | ⟨n, off, len, cap, row, g, rfl, hF, hm, hle, hcap, rfl⟩
  · simp only [List.length_nil, Int.natCast_zero] at h1 h2 h3 h4
    have e0 : lo.getD 0 = 0 := by omega
    have e1 : hi.getD 0 = 0 := by omega
    have e2 : mx.getD 0 = 0 := by cases mx with
      | none => rfl
      | some m => simp at h3 h4 ⊢; omega
    exact ⟨.nils, by simp [aslice, e0, e1, e2], .inl ⟨rfl, by simp⟩⟩
  · refine ⟨.vals t (sliceClip mx (hi.getD es.length) es.length c) sz ((es.take (hi.getD es.length).toNat).drop (lo.getD 0).toNat), ?_, .inr (.inl ⟨t, _, rfl⟩)⟩
    simp only [aslice]
    rw [if_pos ⟨trivial, h0, h1, h2, h3, h4⟩]
  · have hl : ((row.drop off).take len).length = len := by simp; omega
    rw [hl] at h1 h2 h3 h4 ⊢
    simp only [aslice]
    have hcl : (len : Int) ≤ ((cap.getD len : Nat) : Int) := by
      cases cap with
      | none => simp
      | some c => have := hcap c rfl; simp; omega
    generalize lo.getD 0 = l at *
    have hms : mx.isSome → sliceCap mx l.toNat cap = some ((mx.getD (hi.getD (len : Int))).toNat - l.toNat) := by
      intro hm; cases mx with
      | none => simp at hm
      | some m => rfl
    have hmn : mx = none → sliceCap mx l.toNat cap = cap.map (· - l.toNat) := by rintro rfl; rfl
    generalize hi.getD (len : Int) = hh at *
    have hcl' : capLe (sliceCap mx l.toNat cap) (hh.toNat - l.toNat) := by
      intro c hc
      cases hmx : mx with
      | none => rw [hmn hmx] at hc; cases cap with
        | none => simp at hc
        | some q => have := hcap q rfl; simp at hc; omega
      | some m => rw [hms (by simp [hmx])] at hc; simp at hc; omega
    rw [if_pos ⟨trivial, h0, h1, h2, h3, by omega⟩]
    by_cases e0 : l = 0
    · rw [if_pos e0]
      subst e0
      refine ⟨_, rfl, .inr (.inr ⟨n, off, _, _, row, g, rfl, hF, hm, by omega, by simpa using hcl', ?_⟩)⟩
      rw [Int.toNat_zero, List.drop_zero, List.take_take, Nat.min_eq_left (by omega)]
    · rw [if_neg e0]
      by_cases e1 : l < hh
      · rw [if_pos e1]
        refine ⟨_, rfl, .inr (.inr ⟨n, off + l.toNat, _, _, row, g, rfl, hF, hm, by omega, hcl', ?_⟩)⟩
        rw [List.take_take, List.drop_take, List.drop_drop]
        congr 1; omega
      · rw [if_neg e1]
        refine ⟨_, rfl, .inr (.inl ⟨0, false, ?_⟩)⟩
        have : (((row.drop off).take len).take hh.toNat).drop l.toNat = [] := by
          apply List.eq_nil_of_length_eq_zero; simp; omega
        rw [this]

theorem Rd.len {F h sz ds av} (hh : Rd F h (.sl sz ds) av) : alen av = some (.int .i64 ds.length) := by
  simp only [Rd] at hh
  obtain ⟨es, h1, h2⟩ := hh
  rw [h1.len, RdLL_length h2]

theorem Rd.index {F h sz ds av} (hh : Rd F h (.sl sz ds) av) (k : IntKind) {i : Int} {d : List D} (h0 : 0 ≤ i) (hd : ds[i.toNat]? = some d) :
    ∃ p cs, aindex sz av (.int k i) = some p ∧ pcells h p = some cs ∧ RdL F h d cs := by
  simp only [Rd] at hh
  obtain ⟨es, h1, h2⟩ := hh
  obtain ⟨e, he, hr⟩ := RdLL_get h2 _ _ hd
  obtain ⟨p, h3, h4⟩ := h1.index k h0 he
  exact ⟨p, e, h3, h4, hr⟩

theorem Rd.slice {F h sz ds av} (hh : Rd F h (.sl sz ds) av) {lo hi mx : Option Int} (h0 : 0 ≤ lo.getD 0) (h1 : lo.getD 0 ≤ hi.getD ds.length) (h2 : hi.getD ds.length ≤ (ds.length : Int))
    (h3 : hi.getD ds.length ≤ mx.getD (hi.getD ds.length)) (h4 : mx.getD (hi.getD ds.length) ≤ (ds.length : Int)) (h5 : mx.isSome → hi.isSome) :
    ∃ av', aslice sz av lo hi mx = some av' ∧ Rd F h (.sl sz ((ds.take (hi.getD ds.length).toNat).drop (lo.getD 0).toNat)) av' := by
  simp only [Rd] at hh ⊢
  obtain ⟨es, e1, e2⟩ := hh
  have hl := RdLL_length e2
  obtain ⟨av', e3, e4⟩ := e1.slice (lo := lo) (hi := hi) (mx := mx) h0 (by rw [hl]; exact h1) (by rw [hl]; exact h2) (by rw [hl]; exact h3) (by rw [hl]; exact h4) h5
  rw [hl] at e4
  exact ⟨av', e3, _, e4, RdLL_drop (RdLL_take e2 _) _⟩

theorem Rd.elems {F h sz ds av} (hh : Rd F h (.sl sz ds) av) : ∃ es, aelems h sz av = some es ∧ RdLL F h ds es := by
  simp only [Rd] at hh
  obtain ⟨es, h1, h2⟩ := hh
  exact ⟨es, h1.elems, h2⟩

theorem Rd.nils {F h} (sz : Nat) : Rd F h (.sl sz []) .nils := by
  simp only [Rd, RdLL]; exact ⟨[], .inl ⟨rfl, rfl⟩, rfl⟩

theorem Own.nils {F h} (sz : Nat) : Own (.sl sz []) F h .nils := by
  simp only [Own]; exact .inl ⟨trivial, trivial⟩

theorem Own.elems {sz ds F h a} (hh : Own (.sl sz ds) F h a) : ∃ ys, aelems h sz a = some ys ∧ OwnLL ds F h ys := by
  simp only [Own] at hh
  rcases hh with ⟨rfl, rfl⟩ | ⟨t, c, rfl, rfl⟩ | ⟨n, off, cap, row, g, rfl, h2, h3, h4, hc, h5⟩
  · exact ⟨[], rfl, rfl⟩
  · exact ⟨[], by simp [aelems], rfl⟩
  · exact ⟨_, by simp [aelems, h3, h4], OwnLL.mono ds (fun m hm => hm.1) (fun _ _ _ x => x) _ h5⟩

/-! a list of one's own that is appended to -/

/-- may it be appended to: nothing lies behind it that is not known -/
def canApp (h : AHeap) : AV → Prop
  | .nils => True
  | .ref n sz off len cap => ∃ row g, h[n]? = some (some (.arr sz row g)) ∧ (cap = none → off = 0) ∧ ∀ c, cap = some c → off + c ≤ row.length
  | .vals _ clip _ _ => clip = true
  | _ => False

theorem canApp.keep {F : Nat → Prop} {h h' av d} (hc : canApp h av) (ho : Own d F h av) (hk : Keep F h h') : canApp h' av := by
  unfold canApp at hc ⊢
  split
  · trivial
  · rename_i n sz off len cap
    obtain ⟨row, g, h1, h2⟩ := hc
    refine ⟨row, g, hk n ?_ _ h1, h2⟩
    cases d with
    | sl sz' ds =>
      simp only [Own] at ho
      rcases ho with ⟨e, _⟩ | ⟨t, c, e, _⟩ | ⟨n', off', cap', row', g', e, hF, _⟩
      · cases e
      · cases e
      · cases e; exact hF
    | int k n => simp only [Own] at ho; cases ho
    | bool b => simp only [Own] at ho; cases ho
    | str s => simp only [Own] at ho; cases ho
  · exact hc
  · simp_all

theorem own_app {lo sz bytes : Nat} {ds es : List (List D)} {h0 h : AHeap} {av : AV} {ys : List (List AV)} (ho : Own (.sl sz ds) (fun m => lo ≤ m) h0 av) (hc : canApp h0 av)
    (hx : Ext nof h0 h) (hy : OwnLL es (fun m => h0.length ≤ m) h ys) (hlo : lo ≤ h0.length) (hb : (ds.length + es.length) * bytes ≤ 2 ^ 46) :
    ∃ av' h', aappendY h sz bytes av ys = some (av', h') ∧ Own (.sl sz (ds ++ es)) (fun m => lo ≤ m) h' av' ∧ canApp h' av' ∧ Ext (fun m => lo ≤ m) h h' := by
  have hyl := OwnLL_length hy
  have new : ∀ (hh : AHeap) (es' : List (List AV)), Keep (fun m => lo ≤ m ∧ m ≠ hh.length) hh (hh ++ [some (.arr sz es' true)]) := fun hh es' m hm x hx => by
    rw [List.getElem?_append_left (List.getElem?_eq_some_iff.1 hx).1]; exact hx
  have fresh : ∀ (hh : AHeap) (dd : List (List D)) (es' : List (List AV)), lo ≤ hh.length → OwnLL dd (fun m => lo ≤ m) hh es' →
      Own (.sl sz dd) (fun m => lo ≤ m) (append1 hh sz es').2 (append1 hh sz es').1 ∧ canApp (append1 hh sz es').2 (append1 hh sz es').1 := by
    intro hh dd es' hl hd
    have hlen := OwnLL_length hd
    refine ⟨?_, ⟨es', true, by simp [append1], (fun _ => rfl), (fun c hc => by cases hc)⟩⟩
    simp only [Own, append1]
    refine .inr (.inr ⟨hh.length, 0, none, es', true, by rw [hlen], hl, by simp, by omega, (fun c hc => by cases hc), ?_⟩)
    have : (es'.drop 0).take dd.length = es' := by rw [List.drop_zero, List.take_of_length_le (by omega)]
    rw [this]
    refine OwnLL.mono dd (fun m hm => ⟨hm.1, by have := hm.2; omega⟩) ?_ _ (OwnLL.lt dd _ hd)
    intro m hm x hx
    rw [List.getElem?_append_left hm.2]; exact hx
  simp only [Own] at ho
  rcases ho with ⟨rfl, rfl⟩ | ⟨t, c, rfl, rfl⟩ | ⟨n, off, cap, row, g, rfl, hn, hrow, hle, hcl, hd⟩
  · -- nothing yet
    have hy' : OwnLL es (fun m => lo ≤ m) h ys := OwnLL.mono es (fun m hm => Nat.le_trans hlo hm) (fun _ _ _ x => x) _ hy
    obtain ⟨a, b⟩ := fresh h es ys (Nat.le_trans hlo hx.1) hy'
    refine ⟨_, _, ?_, by simpa using a, b, ?_⟩
    · simp only [aappendY]; rw [if_pos (by rw [hyl]; simpa using hb)]
    · exact Ext.app _ _ _
  · have hc1 : c = true := hc
    subst hc1
    have hy' : OwnLL es (fun m => lo ≤ m) h ys := OwnLL.mono es (fun m hm => Nat.le_trans hlo hm) (fun _ _ _ x => x) _ hy
    simp only [aappendY]
    rw [if_pos ⟨trivial, by rw [hyl]; simpa using hb⟩]
    by_cases hy0 : ys.length = 0
    · rw [if_pos hy0]
      have hes : es = [] := List.eq_nil_of_length_eq_zero (by omega)
      subst hes
      refine ⟨_, _, rfl, ?_, rfl, Ext.refl _ _⟩
      simp only [Own]
      exact .inr (.inl ⟨t, true, rfl, rfl⟩)
    · rw [if_neg hy0, if_pos trivial]
      obtain ⟨a, b⟩ := fresh h es ys (Nat.le_trans hlo hx.1) hy'
      exact ⟨_, _, rfl, by simpa [append1] using a, b, Ext.app _ _ _⟩
  · obtain ⟨row', g', hrow', hcn, hcs⟩ := hc
    rw [hrow] at hrow'
    obtain ⟨rfl, rfl⟩ : row = row' ∧ g = g' := by simpa using hrow'
    have hnlt := (List.getElem?_eq_some_iff.1 hrow).1
    have hrow1 : h[n]? = some (some (.arr sz row g)) := hx.get hrow
    have hnlt1 := (List.getElem?_eq_some_iff.1 hrow1).1
    have hd1 : OwnLL ds (fun m => lo ≤ m ∧ m ≠ n) h ((row.drop off).take ds.length) := OwnLL.mono ds (fun m hm => hm) (hx.keep _) _ hd
    have hy1 : OwnLL es (fun m => lo ≤ m ∧ m ≠ n) h ys := OwnLL.mono es (fun m hm => ⟨Nat.le_trans hlo hm, by omega⟩) (fun _ _ _ x => x) _ hy
    have both : OwnLL (ds ++ es) (fun m => lo ≤ m) h ((row.drop off).take ds.length ++ ys) := OwnLL.mono _ (fun m hm => hm.1) (fun _ _ _ x => x) _ (OwnLL_app hd1 hy1)
    simp only [aappendY, hrow1]
    rw [if_pos ⟨trivial, trivial, hle, by rw [hyl]; exact hb⟩]
    cases cap with
    | none =>
      obtain rfl := hcn rfl
      simp only [if_true]
      have both' : OwnLL (ds ++ es) (fun m => lo ≤ m) (h.set n none) (row.take ds.length ++ ys) := by
        have := OwnLL_app hd1 hy1
        rw [List.drop_zero] at this
        exact OwnLL.mono _ (fun m hm => hm.1) (fun m hm x hx => by rw [List.getElem?_set_ne (fun e => hm.2 e.symm)]; exact hx) _ this
      obtain ⟨a, b⟩ := fresh (h.set n none) (ds ++ es) (row.take ds.length ++ ys) (by simp; omega) both'
      exact ⟨_, _, rfl, a, b, (Ext.set none (fun _ => hn)).trans (Ext.app (fun m => lo ≤ m) _ _) (fun _ _ x => x) (fun _ _ x => x)⟩
    | some c =>
      have hc1 := hcl c rfl
      have hc2 := hcs c rfl
      cases c with
      | zero =>
        have h0 : ds.length = 0 := by omega
        have hds : ds = [] := List.eq_nil_of_length_eq_zero h0
        subst hds
        simp only [List.length_nil, if_true]
        by_cases hy0 : ys.length = 0
        · rw [if_pos hy0]
          have hes : es = [] := List.eq_nil_of_length_eq_zero (by omega)
          subst hes
          refine ⟨_, _, rfl, ?_, ⟨row, g, hrow1, (fun e => by cases e), (fun c hc => by cases hc; omega)⟩, Ext.refl _ _⟩
          simp only [Own]
          exact .inr (.inr ⟨n, off, some 0, row, g, rfl, hn, hrow1, by simpa using hle, (fun c hc => by cases hc; simp), by simp [OwnLL]⟩)
        · rw [if_neg hy0]
          have hy2 : OwnLL es (fun m => lo ≤ m) h ys := OwnLL.mono es (fun m hm => hm.1) (fun _ _ _ x => x) _ hy1
          obtain ⟨a, b⟩ := fresh h es ys (by omega) hy2
          exact ⟨_, _, rfl, by simpa [append1] using a, b, Ext.app _ _ _⟩
      | succ c =>
        simp only
        by_cases hcap : c + 1 < ds.length + ys.length
        · rw [if_pos hcap]
          obtain ⟨a, b⟩ := fresh h (ds ++ es) _ (by omega) both
          exact ⟨_, _, rfl, a, b, Ext.app _ _ _⟩
        · rw [if_neg hcap, if_pos (by omega)]
          have hsl : (splice row (off + ds.length) ys).length = row.length := by simp [splice]; omega
          refine ⟨_, _, rfl, ?_, ⟨_, g, by rw [List.getElem?_set_self hnlt1], (fun e => by cases e), (fun c' hc' => by cases hc'; rw [hsl]; exact hc2)⟩, Ext.set _ (fun _ => hn)⟩
          simp only [Own]
          refine .inr (.inr ⟨n, off, some (c + 1), splice row (off + ds.length) ys, g, by rw [List.length_append, hyl], hn, by rw [List.getElem?_set_self hnlt1], by rw [hsl, List.length_append]; omega,
            (fun c' hc' => by cases hc'; rw [List.length_append]; omega), ?_⟩)
          have e : ((splice row (off + ds.length) ys).drop off).take (ds ++ es).length = (row.drop off).take ds.length ++ ys := by
            apply List.ext_getElem?
            intro i
            simp only [List.getElem?_take, List.getElem?_drop, List.length_append, splice, List.getElem?_append, List.length_take, List.length_append, List.length_drop]
            rw [show min (off + ds.length) row.length = off + ds.length by omega, show min ds.length (row.length - off) = ds.length by omega]
            by_cases h1 : i < ds.length
            · rw [if_pos (by omega), if_pos (by omega), if_pos (by omega), if_pos (by omega), if_pos h1]
              simp [h1]
            · by_cases h2 : i < ds.length + es.length
              · rw [if_pos h2, if_pos (by omega), if_neg (by omega), if_neg h1]
                congr 1; omega
              · rw [if_neg h2, if_neg h1, List.getElem?_eq_none (by omega)]
          rw [e]
          refine OwnLL.mono _ (fun m hm => hm) ?_ _ (OwnLL_app hd1 hy1)
          intro m hm x hx
          rw [List.getElem?_set_ne (fun e => hm.2 e.symm)]; exact hx

/-- a list of one's own, cut and clipped -/
theorem own_clip {F : Nat → Prop} {sz : Nat} {ds : List (List D)} {h : AHeap} {av : AV} (ho : Own (.sl sz ds) F h av) {k : Int} (h0 : 0 ≤ k) (hk : k ≤ ds.length) :
    ∃ av', aslice sz av none (some k) (some k) = some av' ∧ Own (.sl sz (ds.take k.toNat)) F h av' ∧ canApp h av' := by
  simp only [Own] at ho
  rcases ho with ⟨rfl, rfl⟩ | ⟨t, c, rfl, rfl⟩ | ⟨n, off, cap, row, g, rfl, hn, hrow, hle, hcl, hd⟩
  · have : k = 0 := by simpa using (by simp at hk; omega : k = 0)
    subst this
    exact ⟨.nils, by simp [aslice], Own.nils sz, trivial⟩
  · have : k = 0 := by simpa using (by simp at hk; omega : k = 0)
    subst this
    refine ⟨.vals t true sz [], by simp [aslice, sliceClip], ?_, rfl⟩
    simp only [Own]
    exact .inr (.inl ⟨t, true, rfl, by simp⟩)
  · have hcl' : (ds.length : Int) ≤ ((cap.getD ds.length : Nat) : Int) := by
      cases cap with
      | none => simp
      | some c => have := hcl c rfl; simp; omega
    have hl : (ds.take k.toNat).length = k.toNat := by simp; omega
    refine ⟨.ref n sz off k.toNat (some k.toNat), ?_, ?_, ⟨row, g, hrow, (fun e => by cases e), (fun c hc => by cases hc; omega)⟩⟩
    · simp only [aslice, Option.getD_none, Option.getD_some]
      rw [if_pos ⟨trivial, by omega, by omega, by omega, by omega, by omega⟩, if_pos trivial]
      simp [sliceCap]
    · simp only [Own]
      refine .inr (.inr ⟨n, off, some k.toNat, row, g, by rw [hl], hn, hrow, by omega, (fun c hc => by cases hc; omega), ?_⟩)
      rw [hl]
      have := OwnLL_take hd k.toNat
      rw [List.take_take, Nat.min_eq_left (by omega)] at this
      exact this

/-! a list whose cells are somebody else's -/

/-- a row of one's own with these cells, that may be appended to -/
def OwnO (lo : Nat) (h : AHeap) (sz : Nat) (av : AV) (es : List (List AV)) : Prop :=
  (av = .nils ∧ es = []) ∨ ∃ n off cap row g, av = .ref n sz off es.length cap ∧ lo ≤ n ∧ h[n]? = some (some (.arr sz row g)) ∧ off + es.length ≤ row.length ∧ capLe cap es.length ∧
    (cap = none → off = 0) ∧ (∀ c, cap = some c → off + c ≤ row.length) ∧ (row.drop off).take es.length = es

theorem OwnO.els {lo h sz av es} (ho : OwnO lo h sz av es) : Els (fun m => lo ≤ m) h sz av es := by
  rcases ho with ho | ⟨n, off, cap, row, g, h1, h2, h3, h4, h5, _, _, h6⟩
  · exact .inl ho
  · exact .inr (.inr ⟨n, off, es.length, cap, row, g, h1, h2, h3, h4, h5, h6.symm⟩)

theorem acc_app {lo sz bytes : Nat} {h0 h : AHeap} {av : AV} {es ys : List (List AV)} (ho : OwnO lo h0 sz av es) (hx : Ext nof h0 h) (hlo : lo ≤ h0.length)
    (hb : (es.length + ys.length) * bytes ≤ 2 ^ 46) : ∃ av' h', aappendY h sz bytes av ys = some (av', h') ∧ OwnO lo h' sz av' (es ++ ys) ∧ Ext (fun m => lo ≤ m) h h' := by
  have fresh : ∀ (hh : AHeap) (es' : List (List AV)), lo ≤ hh.length → OwnO lo (append1 hh sz es').2 sz (append1 hh sz es').1 es' := by
    intro hh es' hl
    exact .inr ⟨hh.length, 0, none, es', true, rfl, hl, by simp [append1], by omega, (fun c hc => by cases hc), (fun _ => rfl), (fun c hc => by cases hc), by simp⟩
  rcases ho with ⟨rfl, rfl⟩ | ⟨n, off, cap, row, g, rfl, hn, hrow, hle, hcl, hcn, hcs, he⟩
  · refine ⟨(append1 h sz ys).1, (append1 h sz ys).2, ?_, fresh h ys (Nat.le_trans hlo hx.1), Ext.app _ _ _⟩
    simp only [aappendY]; rw [if_pos (by simpa using hb)]
  · have hnlt := (List.getElem?_eq_some_iff.1 hrow).1
    have hrow1 : h[n]? = some (some (.arr sz row g)) := hx.get hrow
    have hnlt1 := (List.getElem?_eq_some_iff.1 hrow1).1
    simp only [aappendY, hrow1]
    rw [if_pos ⟨trivial, trivial, hle, hb⟩]
    cases cap with
    | none =>
      obtain rfl := hcn rfl
      simp only [if_true]
      rw [List.drop_zero] at he
      refine ⟨_, _, rfl, ?_, (Ext.set none (fun _ => hn)).trans (Ext.app (fun m => lo ≤ m) _ _) (fun _ _ x => x) (fun _ _ x => x)⟩
      rw [he]
      exact fresh _ _ (by simp; omega)
    | some c =>
      have hc1 := hcl c rfl
      have hc2 := hcs c rfl
      cases c with
      | zero =>
        have hes : es = [] := List.eq_nil_of_length_eq_zero (by omega)
        subst hes
        simp only [List.length_nil, if_true]
        by_cases hy0 : ys.length = 0
        · rw [if_pos hy0]
          have hys : ys = [] := List.eq_nil_of_length_eq_zero hy0
          subst hys
          exact ⟨_, _, rfl, .inr ⟨n, off, some 0, row, g, rfl, hn, hrow1, hle, hcl, hcn, hcs, he⟩, Ext.refl _ _⟩
        · rw [if_neg hy0]
          exact ⟨(append1 h sz ys).1, (append1 h sz ys).2, rfl, fresh h ys (by omega), Ext.app _ _ _⟩
      | succ c =>
        simp only
        by_cases hcap : c + 1 < es.length + ys.length
        · rw [if_pos hcap, he]
          exact ⟨_, _, rfl, fresh _ _ (by omega), Ext.app _ _ _⟩
        · rw [if_neg hcap, if_pos (by omega)]
          have hsl : (splice row (off + es.length) ys).length = row.length := by simp [splice]; omega
          refine ⟨_, _, rfl, .inr ⟨n, off, some (c + 1), splice row (off + es.length) ys, g, by rw [List.length_append], hn, by rw [List.getElem?_set_self hnlt1], by rw [hsl, List.length_append]; omega,
            (fun c' hc' => by cases hc'; rw [List.length_append]; omega), (fun e => by cases e), (fun c' hc' => by cases hc'; rw [hsl]; exact hc2), ?_⟩, Ext.set _ (fun _ => hn)⟩
          apply List.ext_getElem?
          intro i
          have hei : ∀ i, i < es.length → row[off + i]? = es[i]? := fun i hi => by
            have : es[i]? = ((row.drop off).take es.length)[i]? := by rw [he]
            rw [this, List.getElem?_take_of_lt hi, List.getElem?_drop]
          simp only [List.getElem?_take, List.getElem?_drop, List.length_append, splice, List.getElem?_append, List.length_take, List.length_append, List.length_drop]
          rw [show min (off + es.length) row.length = off + es.length by omega]
          by_cases h1 : i < es.length
          · rw [if_pos (by omega), if_pos (by omega), if_pos (by omega), if_pos (by omega), if_pos h1]
            exact hei i h1
          · by_cases h2 : i < es.length + ys.length
            · rw [if_pos h2, if_pos (by omega), if_neg (by omega), if_neg h1]
              congr 1; omega
            · rw [if_neg h2, if_neg h1, List.getElem?_eq_none (by omega)]

mutual
theorem Rd.lt : ∀ (d : D) {F : Nat → Prop} {h : AHeap} (av : AV), Rd F h d av → Rd (fun m => F m ∧ m < h.length) h d av
  | .int _ _, _, _, _, hh => hh
  | .bool _, _, _, _, hh => hh
  | .str _, _, _, _, hh => hh
  | .sl sz ds, F, h, _, hh => by
    simp only [Rd] at hh ⊢
    obtain ⟨es, h1, h2⟩ := hh
    refine ⟨es, ?_, RdLL.lt ds es h2⟩
    rcases h1 with h1 | h1 | ⟨n, off, len, cap, row, g, h1, h2, h3, h4⟩
    · exact .inl h1
    · exact .inr (.inl h1)
    · exact .inr (.inr ⟨n, off, len, cap, row, g, h1, ⟨h2, (List.getElem?_eq_some_iff.1 h3).1⟩, h3, h4⟩)
theorem RdL.lt : ∀ (ds : List D) {F : Nat → Prop} {h : AHeap} (l : List AV), RdL F h ds l → RdL (fun m => F m ∧ m < h.length) h ds l
  | [], _, _, _, hh => hh
  | d :: ds, _, _, _, hh => by
    simp only [RdL] at hh ⊢
    obtain ⟨a, r, h1, h2, h3⟩ := hh
    exact ⟨a, r, h1, Rd.lt d a h2, RdL.lt ds r h3⟩
theorem RdLL.lt : ∀ (ds : List (List D)) {F : Nat → Prop} {h : AHeap} (l : List (List AV)), RdLL F h ds l → RdLL (fun m => F m ∧ m < h.length) h ds l
  | [], _, _, _, hh => hh
  | d :: ds, _, _, _, hh => by
    simp only [RdLL] at hh ⊢
    obtain ⟨a, r, h1, h2, h3⟩ := hh
    exact ⟨a, r, h1, RdL.lt d a h2, RdLL.lt ds r h3⟩
end

end Glb
