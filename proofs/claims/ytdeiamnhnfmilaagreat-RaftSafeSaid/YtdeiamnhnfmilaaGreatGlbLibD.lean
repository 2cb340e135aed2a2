/-
  A library of its own.
-/
import Derived.Test.YtdeiamnhnfmilaaGreatGlbLibC
import Derived.ChangeArms
import Derived.WideKeyArgs
import Derived.Below
set_option linter.unusedSimpArgs false
set_option linter.unusedVariables false
/-
  A library of its own, for whatever program: data, and what it is to find it in abstract values and rows.
-/
namespace Glb
open Go

/-- data: numbers, truths, texts, and lists of structs of data (a struct: its cells) -/
inductive D where
  | aA (k : IntKind) (n : Int)
  | aE (b : Bool)
  | aF (s : ByteArray)
  | sl (sz : Nat) (es : List (List D))

def s9 (cap : Option Nat) (len : Nat) : Prop := ∀ c, cap = some c → len ≤ c

/-- the elements of a slice: in rows of names in F, or in memory that stays -/
def mL (F : Nat → Prop) (h : eX) (sz : Nat) (av : AV) (es : List (List AV)) : Prop :=
  (av = .aD ∧ es = []) ∨ (∃ t c, av = .aM t c sz es) ∨
    ∃ n off len cap row g, av = .aG n sz off len cap ∧ F n ∧ h[n]? = some (some (.aA sz row g)) ∧ off + len ≤ row.length ∧ s9 cap len ∧ es = (row.drop off).take len

mutual
/-- a value reads az data -/
def Rd (F : Nat → Prop) (h : eX) : D → AV → Prop
  | .aA k n, av => av = .aA k n
  | .aE b, av => av = .aE b
  | .aF s, av => av = .aQ s
  | .sl sz ds, av => ∃ es, mL F h sz av es ∧ fY F h ds es
def fu (F : Nat → Prop) (h : eX) : List D → List AV → Prop
  | [], l => l = []
  | d :: ds, l => ∃ a r, l = a :: r ∧ Rd F h d a ∧ fu F h ds r
def fY (F : Nat → Prop) (h : eX) : List (List D) → List (List AV) → Prop
  | [], l => l = []
  | e :: ds, l => ∃ a r, l = a :: r ∧ fu F h e a ∧ fY F h ds r
end

mutual
/-- a value is data in rows that are one's own: names in F, a list's row none of those of its elements -/
def eY : D → (Nat → Prop) → eX → AV → Prop
  | .aA k n, _, _, av => av = .aA k n
  | .aE b, _, _, av => av = .aE b
  | .aF s, _, _, av => av = .aQ s
  | .sl sz ds, F, h, av => (av = .aD ∧ ds = []) ∨ (∃ t c, av = .aM t c sz [] ∧ ds = []) ∨
      ∃ n off cap row g, av = .aG n sz off ds.length cap ∧ F n ∧ h[n]? = some (some (.aA sz row g)) ∧ off + ds.length ≤ row.length ∧ s9 cap ds.length ∧
        fG ds (λm => F m ∧ m ≠ n) h ((row.drop off).take ds.length)
def fI : List D → (Nat → Prop) → eX → List AV → Prop
  | [], _, _, l => l = []
  | d :: ds, F, h, l => ∃ a r, l = a :: r ∧ eY d F h a ∧ fI ds F h r
def fG : List (List D) → (Nat → Prop) → eX → List (List AV) → Prop
  | [], _, _, l => l = []
  | e :: ds, F, h, l => ∃ a r, l = a :: r ∧ fI e F h a ∧ fG ds F h r
end

/-! lists of them -/

theorem kM {F h} : ∀ {ds : List (List D)} {es : List (List AV)}, fY F h ds es → es.length = ds.length := by
  intro ds;induction ds with
  | nil => intro es h; simp only [fY] at h; subst h; rfl
  | cons e ds ih => intro es h; simp only [fY] at h; obtain ⟨a, r, rfl, _, h⟩ := h; simp [ih h]

theorem uC {F h} : ∀ {ds : List D} {es : List AV}, fu F h ds es → es.length = ds.length := by
  intro ds;induction ds with
  | nil => intro es h; simp only [fu] at h; subst h; rfl
  | cons e ds ih => intro es h; simp only [fu] at h; obtain ⟨a, r, rfl, _, h⟩ := h; simp [ih h]

theorem sG {F h} : ∀ {ds : List (List D)} {es : List (List AV)}, fY F h ds es → ∀ (i : Nat) (d : List D), ds[i]? = some d → ∃ e, es[i]? = some e ∧ fu F h d e := by
  intro ds;induction ds with
  | nil => intro es h i d hd; simp at hd
  | cons e ds ih =>
    intro es h i d hd;simp only [fY] at h;obtain ⟨a, r, rfl, h1, h2⟩ := h;cases i with
    | zero => simp at hd; subst hd; exact ⟨a, rfl, h1⟩
    | succ i => obtain ⟨e', h3, h4⟩ := ih h2 i d (by simpa using hd); exact ⟨e', by simpa using h3, h4⟩

theorem Er {F h} : ∀ {ds : List (List D)} {es : List (List AV)}, es.length = ds.length → (∀ (i : Nat) (d : List D) (e : List AV), ds[i]? = some d → es[i]? = some e → fu F h d e) → fY F h ds es := by
  intro ds;induction ds with
  | nil => intro es hl _; simp only [fY]; exact U7 (by simpa using hl)
  | cons d ds ih =>
    intro es hl hh;cases es with
    | nil => simp at hl
    | cons e es =>simp only [fY];exact ⟨e, es, rfl, hh 0 d e rfl rfl, ih (by simpa using hl) λi d' e' h1 h2 => hh (i + 1) d' e' (by simpa using h1) (by simpa using h2)⟩

theorem uB {F h} : ∀ {ds u : List (List D)} {es e : List (List AV)}, fY F h ds es → fY F h u e → fY F h (ds ++ u) (es ++ e) := by
  intro ds;induction ds with
  | nil => intro u es e h1 h2; simp only [fY] at h1; subst h1; exact h2
  | cons d ds ih => intro u es e h1 h2; simp only [fY] at h1; obtain ⟨a, r, rfl, h3, h4⟩ := h1; exact ⟨a, r ++ e, rfl, h3, ih h4 h2⟩

theorem za {F h} {ds : List (List D)} {es : List (List AV)} (hh : fY F h ds es) (k : Nat) : fY F h (ds.take k) (es.take k) := by
  refine Er (by simp [kM hh]) λi d e h1 h2 => ?_;rw [VZ] at h1 h2;split at h1
  · rename_i hi
    rw [U4 hi] at h2;obtain ⟨e', h3, h4⟩ := sG hh i d h1;rw [h2] at h3; cases h3; exact h4
  · cases h1

theorem y_ {F h} {ds : List (List D)} {es : List (List AV)} (hh : fY F h ds es) (k : Nat) : fY F h (ds.drop k) (es.drop k) := by refine Er (by simp [kM hh]) λi d e h1 h2 => ?_;rw [Vt] at h1 h2;obtain ⟨e', h3, h4⟩ := sG hh _ d h1;rw [h2] at h3; cases h3; exact h4

theorem oG {F h} : ∀ {ds : List (List D)} {es : List (List AV)}, fG ds F h es → es.length = ds.length := by
  intro ds;induction ds with
  | nil => intro es h; simp only [fG] at h; subst h; rfl
  | cons e ds ih => intro es h; simp only [fG] at h; obtain ⟨a, r, rfl, _, h⟩ := h; simp [ih h]

theorem El {F h} : ∀ {ds : List (List D)} {es : List (List AV)}, fG ds F h es → ∀ (i : Nat) (d : List D), ds[i]? = some d → ∃ e, es[i]? = some e ∧ fI d F h e := by
  intro ds;induction ds with
  | nil => intro es h i d hd; simp at hd
  | cons e ds ih =>
    intro es h i d hd;simp only [fG] at h;obtain ⟨a, r, rfl, h1, h2⟩ := h;cases i with
    | zero => simp at hd; subst hd; exact ⟨a, rfl, h1⟩
    | succ i => obtain ⟨e', h3, h4⟩ := ih h2 i d (by simpa using hd); exact ⟨e', by simpa using h3, h4⟩

theorem Em {F h} : ∀ {ds : List (List D)} {es : List (List AV)}, es.length = ds.length → (∀ (i : Nat) (d : List D) (e : List AV), ds[i]? = some d → es[i]? = some e → fI d F h e) → fG ds F h es := by
  intro ds;induction ds with
  | nil => intro es hl _; simp only [fG]; exact U7 (by simpa using hl)
  | cons d ds ih =>
    intro es hl hh;cases es with
    | nil => simp at hl
    | cons e es =>simp only [fG];exact ⟨e, es, rfl, hh 0 d e rfl rfl, ih (by simpa using hl) λi d' e' h1 h2 => hh (i + 1) d' e' (by simpa using h1) (by simpa using h2)⟩

theorem na {F h} : ∀ {ds u : List (List D)} {es e : List (List AV)}, fG ds F h es → fG u F h e → fG (ds ++ u) F h (es ++ e) := by
  intro ds;induction ds with
  | nil => intro u es e h1 h2; simp only [fG] at h1; subst h1; exact h2
  | cons d ds ih => intro u es e h1 h2; simp only [fG] at h1; obtain ⟨a, r, rfl, h3, h4⟩ := h1; exact ⟨a, r ++ e, rfl, h3, ih h4 h2⟩

theorem Jz {F h} {ds : List (List D)} {es : List (List AV)} (hh : fG ds F h es) (k : Nat) : fG (ds.take k) F h (es.take k) := by
  refine Em (by simp [oG hh]) λi d e h1 h2 => ?_;rw [VZ] at h1 h2;split at h1
  · rename_i hi
    rw [U4 hi] at h2;obtain ⟨e', h3, h4⟩ := El hh i d h1;rw [h2] at h3; cases h3; exact h4
  · cases h1

theorem Jy {F h} {ds : List (List D)} {es : List (List AV)} (hh : fG ds F h es) (k : Nat) : fG (ds.drop k) F h (es.drop k) := by refine Em (by simp [oG hh]) λi d e h1 h2 => ?_;rw [Vt] at h1 h2;obtain ⟨e', h3, h4⟩ := El hh _ d h1;rw [h2] at h3; cases h3; exact h4

/-! it stays so -/

/-- nothing of these names was changed -/
def gY (F : Nat → Prop) (h h' : eX) : Prop := ∀ m, F m → ∀ x, h[m]? = some x → h'[m]? = some x

theorem eW.aE {h h' : eX} (F : Nat → Prop) (a : eW eZ h h') : gY F h h' := λ_ _ _ hx => a.aA hx
theorem eW.aO {F F' : Nat → Prop} {h h' : eX} (a : eW F h h') (hd : ∀ m, m < h.length → F' m → ¬ F m) : gY F' h h' := λm hm x hx => by have := (UY.1 hx).1;rw [a.2 m this (hd m this hm)]; exact hx

theorem mL.aE {F F' h h' sz av es} (hF : ∀ m, F m → F' m) (hk : gY F h h') (hh : mL F h sz av es) : mL F' h' sz av es := by
  rcases hh with hh | hh | ⟨n, off, len, cap, row, g, h1, h2, h3, h4, h5⟩
  · exact .inl hh
  · exact .inr (.inl hh)
  · exact .inr (.inr ⟨n, off, len, cap, row, g, h1, hF n h2, hk n h2 _ h3, h4, h5⟩)

mutual
theorem Rd.aE {F F' : Nat → Prop} {h h' : eX} (hF : ∀ m, F m → F' m) (hk : gY F h h') : ∀ (d : D) (av : AV), Rd F h d av → Rd F' h' d av
  | .aA _ _, _, hh => hh
  | .aE _, _, hh => hh
  | .aF _, _, hh => hh
  | .sl _ ds, _, hh => by simp only [Rd] at hh ⊢;obtain ⟨es, h1, h2⟩ := hh;exact ⟨es, h1.aE hF hk, fY.aA hF hk ds es h2⟩
theorem fu.aA {F F' : Nat → Prop} {h h' : eX} (hF : ∀ m, F m → F' m) (hk : gY F h h') : ∀ (ds : List D) (l : List AV), fu F h ds l → fu F' h' ds l
  | [], _, hh => hh
  | d :: ds, _, hh => by simp only [fu] at hh ⊢;obtain ⟨a, r, h1, h2, h3⟩ := hh;exact ⟨a, r, h1, Rd.aE hF hk d a h2, fu.aA hF hk ds r h3⟩
theorem fY.aA {F F' : Nat → Prop} {h h' : eX} (hF : ∀ m, F m → F' m) (hk : gY F h h') : ∀ (ds : List (List D)) (l : List (List AV)), fY F h ds l → fY F' h' ds l
  | [], _, hh => hh
  | d :: ds, _, hh => by simp only [fY] at hh ⊢;obtain ⟨a, r, h1, h2, h3⟩ := hh;exact ⟨a, r, h1, fu.aA hF hk d a h2, fY.aA hF hk ds r h3⟩
end

mutual
theorem eY.aC : ∀ (d : D) {F F' : Nat → Prop} {h h' : eX} (_ : ∀ m, F m → F' m) (_ : gY F h h') (av : AV), eY d F h av → eY d F' h' av
  | .aA _ _, _, _, _, _, _, _, _, hh => hh
  | .aE _, _, _, _, _, _, _, _, hh => hh
  | .aF _, _, _, _, _, _, _, _, hh => hh
  | .sl _ ds, F, F', h, h', hF, hk, _, hh => by
    simp only [eY] at hh ⊢;rcases hh with hh | hh | ⟨n, off, cap, row, g, h1, h2, h3, h4, hc, h5⟩
    · exact .inl hh
    · exact .inr (.inl hh)
    · exact .inr (.inr ⟨n, off, cap, row, g, h1, hF n h2, hk n h2 _ h3, h4, hc, fG.aA ds (λm hm => ⟨hF m hm.1, hm.2⟩) (λm hm => hk m hm.1) _ h5⟩)
theorem fI.aA : ∀ (ds : List D) {F F' : Nat → Prop} {h h' : eX} (_ : ∀ m, F m → F' m) (_ : gY F h h') (l : List AV), fI ds F h l → fI ds F' h' l
  | [], _, _, _, _, _, _, _, hh => hh
  | d :: ds, _, _, _, _, hF, hk, _, hh => by simp only [fI] at hh ⊢;obtain ⟨a, r, h1, h2, h3⟩ := hh;exact ⟨a, r, h1, eY.aC d hF hk a h2, fI.aA ds hF hk r h3⟩
theorem fG.aA : ∀ (ds : List (List D)) {F F' : Nat → Prop} {h h' : eX} (_ : ∀ m, F m → F' m) (_ : gY F h h') (l : List (List AV)), fG ds F h l → fG ds F' h' l
  | [], _, _, _, _, _, _, _, hh => hh
  | d :: ds, _, _, _, _, hF, hk, _, hh => by simp only [fG] at hh ⊢;obtain ⟨a, r, h1, h2, h3⟩ := hh;exact ⟨a, r, h1, fI.aA d hF hk a h2, fG.aA ds hF hk r h3⟩
end

mutual
theorem eY.rd : ∀ (d : D) {F F' : Nat → Prop} {h : eX} (_ : ∀ m, F m → F' m) (av : AV), eY d F h av → Rd F' h d av
  | .aA _ _, _, _, _, _, _, hh => hh
  | .aE _, _, _, _, _, _, hh => hh
  | .aF _, _, _, _, _, _, hh => hh
  | .sl sz ds, F, F', h, hF, _, hh => by
    simp only [eY, Rd] at hh ⊢;rcases hh with ⟨rfl, rfl⟩ | ⟨t, c, rfl, rfl⟩ | ⟨n, off, cap, row, g, h1, h2, h3, h4, hc, h5⟩
    · exact ⟨[], .inl ⟨rfl, rfl⟩, rfl⟩
    · exact ⟨[], .inr (.inl ⟨t, c, rfl⟩), rfl⟩
    · exact ⟨_, .inr (.inr ⟨n, off, _, cap, row, g, h1, hF n h2, h3, h4, hc, rfl⟩), fG.rd ds (λm hm => hF m hm.1) _ h5⟩
theorem fI.rd : ∀ (ds : List D) {F F' : Nat → Prop} {h : eX} (_ : ∀ m, F m → F' m) (l : List AV), fI ds F h l → fu F' h ds l
  | [], _, _, _, _, _, hh => hh
  | d :: ds, _, _, _, hF, _, hh => by simp only [fI, fu] at hh ⊢;obtain ⟨a, r, h1, h2, h3⟩ := hh;exact ⟨a, r, h1, eY.rd d hF a h2, fI.rd ds hF r h3⟩
theorem fG.rd : ∀ (ds : List (List D)) {F F' : Nat → Prop} {h : eX} (_ : ∀ m, F m → F' m) (l : List (List AV)), fG ds F h l → fY F' h ds l
  | [], _, _, _, _, _, hh => hh
  | d :: ds, _, _, _, hF, _, hh => by simp only [fG, fY] at hh ⊢;obtain ⟨a, r, h1, h2, h3⟩ := hh;exact ⟨a, r, h1, fI.rd d hF a h2, fG.rd ds hF r h3⟩
end

/-- only names that are there count -/
theorem gY.lt (F : Nat → Prop) (h : eX) : ∀ m, F m → ∀ x, h[m]? = some x → h[m]? = some x := λ_ _ _ hx => hx

mutual
theorem eY.lt : ∀ (d : D) {F : Nat → Prop} {h : eX} (av : AV), eY d F h av → eY d (λm => F m ∧ m < h.length) h av
  | .aA _ _, _, _, _, hh => hh
  | .aE _, _, _, _, hh => hh
  | .aF _, _, _, _, hh => hh
  | .sl sz ds, F, h, _, hh => by
    simp only [eY] at hh ⊢;rcases hh with hh | hh | ⟨n, off, cap, row, g, h1, h2, h3, h4, hc, h5⟩
    · exact .inl hh
    · exact .inr (.inl hh)
    · exact .inr (.inr ⟨n, off, cap, row, g, h1, ⟨h2, (UY.1 h3).1⟩, h3, h4, hc,
        fG.aA ds (λm hm => ⟨⟨hm.1.1, hm.2⟩, hm.1.2⟩) (λ_ _ _ hx => hx) _ (fG.lt ds _ h5)⟩)
theorem fI.lt : ∀ (ds : List D) {F : Nat → Prop} {h : eX} (l : List AV), fI ds F h l → fI ds (λm => F m ∧ m < h.length) h l
  | [], _, _, _, hh => hh
  | d :: ds, _, _, _, hh => by simp only [fI] at hh ⊢;obtain ⟨a, r, h1, h2, h3⟩ := hh;exact ⟨a, r, h1, eY.lt d a h2, fI.lt ds r h3⟩
theorem fG.lt : ∀ (ds : List (List D)) {F : Nat → Prop} {h : eX} (l : List (List AV)), fG ds F h l → fG ds (λm => F m ∧ m < h.length) h l
  | [], _, _, _, hh => hh
  | d :: ds, _, _, _, hh => by simp only [fG] at hh ⊢;obtain ⟨a, r, h1, h2, h3⟩ := hh;exact ⟨a, r, h1, fI.lt d a h2, fG.lt ds r h3⟩
end

/-! reading -/

/-- the cells at a pointer -/
def jB (h : eX) : AV → Option (List AV)
  | .aC m sz i o => match h[m]? with
    | some (some (.aA sz' es _)) => if sz = sz' then (es[i]?).map (·.drop o) else none
    | _ => none
  | .aO _ cs => some cs
  | _ => none

def oh (o : Nat) : AV → AV
  | .aC m sz i o' => .aC m sz i (o' + o)
  | .aO t cs => .aO t (cs.drop o)
  | v => v

theorem jr {h p cs} (hp : jB h p = some cs) (agg : Bool) (n : Nat) : ir h agg n p = pN agg n cs := by
  unfold jB at hp;split at hp
  · rename_i m sz i o
    simp only [ir];split at hp
    · rename_i sz' es g hm
      simp only [hm];split at hp
      · rename_i e
        rw [U4 e];cases he : es[i]? with
        | none => simp [he] at hp
        | some e' => simp [he] at hp; subst hp; rfl
      · cases hp
    · cases hp
  · cases hp; rfl
  · cases hp

theorem mN {h p cs} (hp : jB h p = some cs) (o : Nat) : sO o p = some (oh o p) := by
  unfold jB at hp;split at hp
  · rfl
  · rfl
  · cases hp

theorem vz {h p cs} (hp : jB h p = some cs) (o : Nat) : jB h (oh o p) = some (cs.drop o) := by
  unfold jB at hp;split at hp
  · rename_i m sz i o'
    simp only [oh, jB];split at hp
    · rename_i sz' es g hm
      (try simp only [hm])
      split at hp
      · rename_i e
        (try rw [U4 e])
        cases he : es[i]? with
        | none => simp [he] at hp
        | some e' => simp [he] at hp; subst hp; simp [List.drop_drop]
      · cases hp
    · cases hp
  · cases hp; rfl
  · cases hp

theorem nh {h p cs} (hp : jB h p = some cs) (o : Nat) (agg : Bool) (n : Nat) : ir h agg n (oh o p) = pN agg n (cs.drop o) := jr (vz hp o) agg n

theorem P8 {F : Nat → Prop} {h h' : eX} (hk : gY F h h') {m sz i o cs} (hm : F m) (hp : jB h (.aC m sz i o) = some cs) : jB h' (.aC m sz i o) = some cs := by
  simp only [jB] at hp ⊢;split at hp
  · rename_i sz' es g hx; rw [hk m hm _ hx]; exact hp
  · cases hp

theorem mL.aD {F h sz av es} (hh : mL F h sz av es) : ik av = some (.aA .i64 es.length) := by
  rcases hh with ⟨rfl, rfl⟩ | ⟨t, c, rfl⟩ | ⟨n, off, len, cap, row, g, rfl, _, _, h4, _, rfl⟩
  · rfl
  · rfl
  · simp only [ik, Va, Vo]; congr 2; omega

theorem mL.aA {F h sz av es} (hh : mL F h sz av es) : iU h sz av = some es := by
  rcases hh with ⟨rfl, rfl⟩ | ⟨t, c, rfl⟩ | ⟨n, off, len, cap, row, g, rfl, _, h3, h4, _, rfl⟩
  · rfl
  · simp [iU]
  · simp [iU, h3, h4]

theorem mL.aC {F h sz av es} (hh : mL F h sz av es) (k : IntKind) {i : Int} {e : List AV} (h0 : 0 ≤ i) (he : es[i.toNat]? = some e) :
    ∃ p, jg sz av (.aA k i) = some p ∧ jB h p = some e := by
  rcases hh with ⟨rfl, rfl⟩ | ⟨t, c, rfl⟩ | ⟨n, off, len, cap, row, g, rfl, _, h3, h4, _, rfl⟩
  · simp at he
  · exact ⟨.aO t e, by simp [jg, h0, he], rfl⟩
  · have hlt := (UY.1 he).1
    simp only [Va, Vo] at hlt;rw [VQ (by omega), Vt] at he;refine ⟨.aC n sz (off + i.toNat) 0, ?_, ?_⟩
    · simp only [jg]; rw [U4 ⟨Vd, h0, by omega⟩]
    · simp [jB, h3, he]

theorem mL.aF {F h sz av es} (hh : mL F h sz av es) {lo hi mx : Option Int} (h0 : 0 ≤ lo.getD 0) (h1 : lo.getD 0 ≤ hi.getD es.length) (h2 : hi.getD es.length ≤ (es.length : Int))
    (h3 : hi.getD es.length ≤ mx.getD (hi.getD es.length)) (h4 : mx.getD (hi.getD es.length) ≤ (es.length : Int)) (h5 : mx.isSome → hi.isSome) :
    ∃ E, ie sz av lo hi mx = some E ∧ mL F h sz E ((es.take (hi.getD es.length).toNat).drop (lo.getD 0).toNat) := by
  rcases hh with ⟨rfl, rfl⟩ | ⟨t, c, rfl⟩ | ⟨n, off, len, cap, row, g, rfl, hF, hm, hle, u, rfl⟩
  · simp only [Ve, Xe] at h1 h2 h3 h4
    have e0 : lo.getD 0 = 0 := by omega
    have e1 : hi.getD 0 = 0 := by omega
    have e2 : mx.getD 0 = 0 := by cases mx with
      | none => rfl
      | some m => simp at h3 h4 ⊢; omega
    exact ⟨.aD, by simp [ie, e0, e1, e2], .inl ⟨rfl, by simp⟩⟩
  · refine ⟨.aM t (pM mx (hi.getD es.length) es.length c) sz ((es.take (hi.getD es.length).toNat).drop (lo.getD 0).toNat), ?_, .inr (.inl ⟨t, _, rfl⟩)⟩
    simp only [ie];rw [U4 ⟨Vd, h0, h1, h2, h3, h4⟩]
  · have hl : ((row.drop off).take len).length = len := by simp; omega
    rw [hl] at h1 h2 h3 h4 ⊢;simp only [ie];have hcl : (len : Int) ≤ ((cap.getD len : Nat) : Int) := by
      cases cap with
      | none => simp
      | some c => have := u c rfl; simp; omega
    generalize lo.getD 0 = l at *;have I : mx.isSome → jk mx l.toNat cap = some ((mx.getD (hi.getD (len : Int))).toNat - l.toNat) := by
      intro hm; cases mx with
      | none => simp at hm
      | some m => rfl
    have M : mx = none → jk mx l.toNat cap = cap.map (· - l.toNat) := by rintro rfl; rfl
    generalize hi.getD (len : Int) = hh at *;have e : s9 (jk mx l.toNat cap) (hh.toNat - l.toNat) := by
      intro c hc;cases C : mx with
      | none => rw [M C] at hc; cases cap with
        | none => simp at hc
        | some q => have := u q rfl; simp at hc; omega
      | some m => rw [I (by simp [C])] at hc; simp at hc; omega
    rw [U4 ⟨Vd, h0, h1, .inl h2, h3, by omega⟩];by_cases e0 : l = 0
    · rw [U4 e0]
      subst e0;refine ⟨_, rfl, .inr (.inr ⟨n, off, _, _, row, g, rfl, hF, hm, by omega, by simpa using e, ?_⟩)⟩;rw [Int.toNat_zero, V9, VG, VT (by omega)]
    · rw [U6 e0]
      by_cases e1 : l < hh
      · rw [U4 e1]
        refine ⟨_, rfl, .inr (.inr ⟨n, off + l.toNat, _, _, row, g, rfl, hF, hm, by omega, e, ?_⟩)⟩;rw [VG, List.drop_take, List.drop_drop];congr 1; omega
      · rw [U6 e1]
        refine ⟨_, rfl, .inr (.inl ⟨0, false, ?_⟩)⟩;have : (((row.drop off).take len).take hh.toNat).drop l.toNat = [] := by apply U7; simp; omega
        rw [this]

theorem Rd.aC {F h sz ds av} (hh : Rd F h (.sl sz ds) av) : ik av = some (.aA .i64 ds.length) := by simp only [Rd] at hh;obtain ⟨es, h1, h2⟩ := hh;rw [h1.aD, kM h2]

theorem Rd.aD {F h sz ds av} (hh : Rd F h (.sl sz ds) av) (k : IntKind) {i : Int} {d : List D} (h0 : 0 ≤ i) (hd : ds[i.toNat]? = some d) :
    ∃ p cs, jg sz av (.aA k i) = some p ∧ jB h p = some cs ∧ fu F h d cs := by
  simp only [Rd] at hh;obtain ⟨es, h1, h2⟩ := hh;obtain ⟨e, he, hr⟩ := sG h2 _ _ hd;obtain ⟨p, h3, h4⟩ := h1.aC k h0 he;exact ⟨p, e, h3, h4, hr⟩

theorem Rd.aI {F h sz ds av} (hh : Rd F h (.sl sz ds) av) {lo hi mx : Option Int} (h0 : 0 ≤ lo.getD 0) (h1 : lo.getD 0 ≤ hi.getD ds.length) (h2 : hi.getD ds.length ≤ (ds.length : Int))
    (h3 : hi.getD ds.length ≤ mx.getD (hi.getD ds.length)) (h4 : mx.getD (hi.getD ds.length) ≤ (ds.length : Int)) (h5 : mx.isSome → hi.isSome) :
    ∃ e, ie sz av lo hi mx = some e ∧ Rd F h (.sl sz ((ds.take (hi.getD ds.length).toNat).drop (lo.getD 0).toNat)) e := by
  simp only [Rd] at hh ⊢;obtain ⟨es, e1, e2⟩ := hh;have hl := kM e2;obtain ⟨e, e3, e4⟩ := e1.aF (lo := lo) (hi := hi) (mx := mx) h0 (by rw [hl]; exact h1) (by rw [hl]; exact h2) (by rw [hl]; exact h3) (by rw [hl]; exact h4) h5;rw [hl] at e4;exact ⟨e, e3, _, e4, y_ (za e2 _) _⟩

theorem Rd.aH {F h sz ds av} (hh : Rd F h (.sl sz ds) av) : ∃ es, iU h sz av = some es ∧ fY F h ds es := by simp only [Rd] at hh;obtain ⟨es, h1, h2⟩ := hh;exact ⟨es, h1.aA, h2⟩

theorem Rd.aK {F h} (sz : Nat) : Rd F h (.sl sz []) .aD := by simp only [Rd, fY]; exact ⟨[], .inl ⟨rfl, rfl⟩, rfl⟩

theorem eY.aD {F h} (sz : Nat) : eY (.sl sz []) F h .aD := by simp only [eY]; exact .inl ⟨Vd, Vd⟩

theorem eY.aE {sz ds F h a} (hh : eY (.sl sz ds) F h a) : ∃ ys, iU h sz a = some ys ∧ fG ds F h ys := by
  simp only [eY] at hh;rcases hh with ⟨rfl, rfl⟩ | ⟨t, c, rfl, rfl⟩ | ⟨n, off, cap, row, g, rfl, h2, h3, h4, hc, h5⟩
  · exact ⟨[], rfl, rfl⟩
  · exact ⟨[], by simp [iU], rfl⟩
  · exact ⟨_, by simp [iU, h3, h4], fG.aA ds (λm hm => hm.1) (λ_ _ _ x => x) _ h5⟩

/-! a list of one's own that is appended to -/

/-- may it be appended to: nothing lies behind it that is not known -/
def gV (h : eX) : AV → Prop
  | .aD => True
  | .aG n sz off len cap => ∃ row g, h[n]? = some (some (.aA sz row g)) ∧ (cap = none → off = 0) ∧ ∀ c, cap = some c → off + c ≤ row.length
  | .aM _ clip _ _ => clip = true
  | _ => False

theorem gV.aA {F : Nat → Prop} {h h' av d} (hc : gV h av) (ho : eY d F h av) (hk : gY F h h') : gV h' av := by
  unfold gV at hc ⊢;split
  · trivial
  · rename_i n sz off len cap
    obtain ⟨row, g, h1, h2⟩ := hc;refine ⟨row, g, hk n ?_ _ h1, h2⟩;cases d with
    | sl sz' ds =>
      simp only [eY] at ho;rcases ho with ⟨e, _⟩ | ⟨t, c, e, _⟩ | ⟨n', off', cap', row', g', e, hF, _⟩
      · cases e
      · cases e
      · cases e; exact hF
    | aA k n => simp only [eY] at ho; cases ho
    | aE b => simp only [eY] at ho; cases ho
    | aF s => simp only [eY] at ho; cases ho
  · exact hc
  · simp_all

theorem l_ {lo sz bytes : Nat} {ds es : List (List D)} {h0 h : eX} {av : AV} {ys : List (List AV)} (ho : eY (.sl sz ds) (fun m => lo ≤ m) h0 av) (hc : gV h0 av)
    (hx : eW eZ h0 h) (hy : fG es (λm => h0.length ≤ m) h ys) (hlo : lo ≤ h0.length) (hb : (ds.length + es.length) * bytes ≤ 2 ^ 46) :
    ∃ av' h', iu h sz bytes av ys = some (av', h') ∧ eY (.sl sz (ds ++ es)) (λm => lo ≤ m) h' av' ∧ gV h' av' ∧ eW (λm => lo ≤ m) h h' := by
  have hyl := oG hy;have new : ∀ (hh : eX) (es' : List (List AV)), gY (λm => lo ≤ m ∧ m ≠ hh.length) hh (hh ++ [some (.aA sz es' true)]) := λhh es' m hm x hx => by rw [Vy (UY.1 hx).1]; exact hx
  have fresh : ∀ (hh : eX) (dd : List (List D)) (es' : List (List AV)), lo ≤ hh.length → fG dd (fun m => lo ≤ m) hh es' →
      eY (.sl sz dd) (λm => lo ≤ m) (gR hh sz es').2 (gR hh sz es').1 ∧ gV (gR hh sz es').2 (gR hh sz es').1 := by
    intro hh dd es' hl hd;have hlen := oG hd;refine ⟨?_, ⟨es', true, by simp [gR], (λ_ => rfl), (λc hc => by cases hc)⟩⟩;simp only [eY, gR];refine .inr (.inr ⟨hh.length, 0, none, es', true, by rw [hlen], hl, by simp, by omega, (λc hc => by cases hc), ?_⟩);have : (es'.drop 0).take dd.length = es' := by rw [V9, Vs (by omega)]
    rw [this];refine fG.aA dd (λm hm => ⟨hm.1, by have := hm.2; omega⟩) ?_ _ (fG.lt dd _ hd);intro m hm x hx;rw [Vy hm.2]; exact hx
  simp only [eY] at ho;rcases ho with ⟨rfl, rfl⟩ | ⟨t, c, rfl, rfl⟩ | ⟨n, off, cap, row, g, rfl, hn, hrow, hle, hcl, hd⟩
  · -- nothing yet
    have hy' : fG es (λm => lo ≤ m) h ys := fG.aA es (λm hm => Vh hlo hm) (λ_ _ _ x => x) _ hy;obtain ⟨a, b⟩ := fresh h es ys (Vh hlo hx.1) hy';refine ⟨_, _, ?_, by simpa using a, b, ?_⟩
    · simp only [iu]; rw [U4 (by rw [hyl]; simpa using hb)]
    · exact eW.aF _ _ _
  · have hc1 : c = true := hc
    subst hc1;have hy' : fG es (λm => lo ≤ m) h ys := fG.aA es (λm hm => Vh hlo hm) (λ_ _ _ x => x) _ hy;simp only [iu];rw [U4 ⟨Vd, by rw [hyl]; simpa using hb⟩];by_cases hy0 : ys.length = 0
    · rw [U4 hy0]
      have hes : es = [] := U7 (by omega);subst hes;refine ⟨_, _, rfl, ?_, rfl, eW.aC _ _⟩;simp only [eY];exact .inr (.inl ⟨t, true, rfl, rfl⟩)
    · rw [U6 hy0, U4 Vd]
      obtain ⟨a, b⟩ := fresh h es ys (Vh hlo hx.1) hy';exact ⟨_, _, rfl, by simpa [gR] using a, b, eW.aF _ _ _⟩
  · obtain ⟨row', g', hrow', hcn, hcs⟩ := hc
    rw [hrow] at hrow';obtain ⟨rfl, rfl⟩ : row = row' ∧ g = g' := by simpa using hrow'
    have hnlt := (UY.1 hrow).1;have hrow1 : h[n]? = some (some (.aA sz row g)) := hx.aA hrow;have hnlt1 := (UY.1 hrow1).1;have hd1 : fG ds (λm => lo ≤ m ∧ m ≠ n) h ((row.drop off).take ds.length) := fG.aA ds (λm hm => hm) (hx.aE _) _ hd;have hy1 : fG es (λm => lo ≤ m ∧ m ≠ n) h ys := fG.aA es (λm hm => ⟨Vh hlo hm, by omega⟩) (λ_ _ _ x => x) _ hy;have both : fG (ds ++ es) (λm => lo ≤ m) h ((row.drop off).take ds.length ++ ys) := fG.aA _ (λm hm => hm.1) (λ_ _ _ x => x) _ (na hd1 hy1);simp only [iu, hrow1];rw [U4 ⟨Vd, Vd, hle, by rw [hyl]; exact hb⟩];cases cap with
    | none =>
      obtain rfl := hcn rfl;simp only [VS];have both' : fG (ds ++ es) (λm => lo ≤ m) (h.set n none) (row.take ds.length ++ ys) := by have := na hd1 hy1;rw [V9] at this;exact fG.aA _ (λm hm => hm.1) (λm hm x hx => by rw [UZ (λe => hm.2 e.symm)]; exact hx) _ this
      obtain ⟨a, b⟩ := fresh (h.set n none) (ds ++ es) (row.take ds.length ++ ys) (by simp; omega) both';exact ⟨_, _, rfl, a, b, (eW.aI none (λ_ => hn)).aD (eW.aF (λm => lo ≤ m) _ _) (λ_ _ x => x) (λ_ _ x => x)⟩
    | some c =>
      have hc1 := hcl c rfl;have hc2 := hcs c rfl;cases c with
      | zero =>
        have h0 : ds.length = 0 := by omega
        have hds : ds = [] := U7 h0;subst hds;simp only [Ve, VS];by_cases hy0 : ys.length = 0
        · rw [U4 hy0]
          have hes : es = [] := U7 (by omega);subst hes;refine ⟨_, _, rfl, ?_, ⟨row, g, hrow1, (λe => by cases e), (λc hc => by cases hc; omega)⟩, eW.aC _ _⟩;simp only [eY];exact .inr (.inr ⟨n, off, some 0, row, g, rfl, hn, hrow1, by simpa using hle, (λc hc => by cases hc; simp), by simp [fG]⟩)
        · rw [U6 hy0]
          have hy2 : fG es (λm => lo ≤ m) h ys := fG.aA es (λm hm => hm.1) (λ_ _ _ x => x) _ hy1;obtain ⟨a, b⟩ := fresh h es ys (by omega) hy2;exact ⟨_, _, rfl, by simpa [gR] using a, b, eW.aF _ _ _⟩
      | succ c =>
        simp only;by_cases hcap : c + 1 < ds.length + ys.length
        · rw [U4 hcap]
          obtain ⟨a, b⟩ := fresh h (ds ++ es) _ (by omega) both;exact ⟨_, _, rfl, a, b, eW.aF _ _ _⟩
        · rw [U6 hcap, U4 (by omega)]
          have hsl : (gM row (off + ds.length) ys).length = row.length := by simp [gM]; omega
          refine ⟨_, _, rfl, ?_, ⟨_, g, by rw [U5 hnlt1], (λe => by cases e), (λc' hc' => by cases hc'; rw [hsl]; exact hc2)⟩, eW.aI _ (λ_ => hn)⟩;simp only [eY];refine .inr (.inr ⟨n, off, some (c + 1), gM row (off + ds.length) ys, g, by rw [U1, hyl], hn, by rw [U5 hnlt1], by rw [hsl, U1]; omega,
            (λc' hc' => by cases hc'; rw [U1]; omega), ?_⟩)
          have e : ((gM row (off + ds.length) ys).drop off).take (ds ++ es).length = (row.drop off).take ds.length ++ ys := by
            apply VM;intro i;simp only [VZ, Vt, U1, gM, V_, Va, U1, Vo];rw [show min (off + ds.length) row.length = off + ds.length by omega, show min ds.length (row.length - off) = ds.length by omega];by_cases h1 : i < ds.length
            · rw [U4 (by omega), U4 (by omega), U4 (by omega), U4 (by omega), U4 h1]
              simp [h1]
            · by_cases h2 : i < ds.length + es.length
              · rw [U4 h2, U4 (by omega), U6 (by omega), U6 h1]
                congr 1; omega
              · rw [U6 h2, U6 h1, VH (by omega)]
          rw [e];refine fG.aA _ (λm hm => hm) ?_ _ (na hd1 hy1);intro m hm x hx;rw [UZ (λe => hm.2 e.symm)]; exact hx

/-- a list of one's own, cut and clipped -/
theorem tN {F : Nat → Prop} {sz : Nat} {ds : List (List D)} {h : eX} {av : AV} (ho : eY (.sl sz ds) F h av) {k : Int} (h0 : 0 ≤ k) (hk : k ≤ ds.length) :
    ∃ C, ie sz av none (some k) (some k) = some C ∧ eY (.sl sz (ds.take k.toNat)) F h C ∧ gV h C := by
  simp only [eY] at ho;rcases ho with ⟨rfl, rfl⟩ | ⟨t, c, rfl, rfl⟩ | ⟨n, off, cap, row, g, rfl, hn, u, hle, E, hd⟩
  · have : k = 0 := by simpa using (by simp at hk; omega : k = 0)
    subst this;exact ⟨.aD, by simp [ie], eY.aD sz, Vd⟩
  · have : k = 0 := by simpa using (by simp at hk; omega : k = 0)
    subst this;refine ⟨.aM t true sz [], by simp [ie, pM], ?_, rfl⟩;simp only [eY];exact .inr (.inl ⟨t, true, rfl, by simp⟩)
  · have hcl' : (ds.length : Int) ≤ ((cap.getD ds.length : Nat) : Int) := by
      cases cap with
      | none => simp
      | some c => have := E c rfl; simp; omega
    have hl : (ds.take k.toNat).length = k.toNat := by simp; omega
    refine ⟨.aG n sz off k.toNat (some k.toNat), ?_, ?_, ⟨row, g, u, (λe => by cases e), (λc hc => by cases hc; omega)⟩⟩
    · simp only [ie, V0, Vu]
      rw [U4 ⟨Vd, by omega, by omega, .inl (by omega), by omega, by omega⟩, U4 Vd];simp [jk]
    · simp only [eY]
      refine .inr (.inr ⟨n, off, some k.toNat, row, g, by rw [hl], hn, u, by omega, (λc hc => by cases hc; omega), ?_⟩);rw [hl];have := Jz hd k.toNat;rw [VG, VT (by omega)] at this;exact this

/-! a list whose cells are somebody else's -/

/-- a row of one's own with these cells, that may be appended to -/
def kv (lo : Nat) (h : eX) (sz : Nat) (av : AV) (es : List (List AV)) : Prop :=
  (av = .aD ∧ es = []) ∨ ∃ n off cap row g, av = .aG n sz off es.length cap ∧ lo ≤ n ∧ h[n]? = some (some (.aA sz row g)) ∧ off + es.length ≤ row.length ∧ s9 cap es.length ∧
    (cap = none → off = 0) ∧ (∀ c, cap = some c → off + c ≤ row.length) ∧ (row.drop off).take es.length = es

theorem EE {lo sz bytes : Nat} {h0 h : eX} {av : AV} {es ys : List (List AV)} (ho : kv lo h0 sz av es) (hx : eW eZ h0 h) (a5 : lo ≤ h0.length)
    (hb : (es.length + ys.length) * bytes ≤ 2 ^ 46) : ∃ a3 h', iu h sz bytes av ys = some (a3, h') ∧ kv lo h' sz a3 (es ++ ys) ∧ eW (λm => lo ≤ m) h h' := by
  have u : ∀ (hh : eX) (M : List (List AV)), lo ≤ hh.length → kv lo (gR hh sz M).2 sz (gR hh sz M).1 M := by intro hh M hl;exact .inr ⟨hh.length, 0, none, M, true, rfl, hl, by simp [gR], by omega, (λc hc => by cases hc), (λ_ => rfl), (λc hc => by cases hc), by simp⟩
  rcases ho with ⟨rfl, rfl⟩ | ⟨n, off, cap, row, g, rfl, hn, E, W, a2, a1, Z, he⟩
  · refine ⟨(gR h sz ys).1, (gR h sz ys).2, ?_, u h ys (Vh a5 hx.1), eW.aF _ _ _⟩
    simp only [iu]; rw [U4 (by simpa using hb)]
  · have hnlt := (UY.1 E).1
    have C : h[n]? = some (some (.aA sz row g)) := hx.aA E;have I := (UY.1 C).1;simp only [iu, C];rw [U4 ⟨Vd, Vd, W, hb⟩];cases cap with
    | none =>obtain rfl := a1 rfl;simp only [VS];rw [V9] at he;refine ⟨_, _, rfl, ?_, (eW.aI none (λ_ => hn)).aD (eW.aF (λm => lo ≤ m) _ _) (λ_ _ x => x) (λ_ _ x => x)⟩;rw [he];exact u _ _ (by simp; omega)
    | some c =>
      have hc1 := a2 c rfl;have a8 := Z c rfl;cases c with
      | zero =>
        have a6 : es = [] := U7 (by omega);subst a6;simp only [Ve, VS];by_cases hy0 : ys.length = 0
        · rw [U4 hy0]
          have a4 : ys = [] := U7 hy0;subst a4;exact ⟨_, _, rfl, .inr ⟨n, off, some 0, row, g, rfl, hn, C, W, a2, a1, Z, he⟩, eW.aC _ _⟩
        · rw [U6 hy0]
          exact ⟨(gR h sz ys).1, (gR h sz ys).2, rfl, u h ys (by omega), eW.aF _ _ _⟩
      | succ c =>
        simp only;by_cases hcap : c + 1 < es.length + ys.length
        · rw [U4 hcap, he]
          exact ⟨_, _, rfl, u _ _ (by omega), eW.aF _ _ _⟩
        · rw [U6 hcap, U4 (by omega)]
          have U : (gM row (off + es.length) ys).length = row.length := by simp [gM]; omega
          refine ⟨_, _, rfl, .inr ⟨n, off, some (c + 1), gM row (off + es.length) ys, g, by rw [U1], hn, by rw [U5 I], by rw [U, U1]; omega,
            (λc' O => by cases O; rw [U1]; omega), (λe => by cases e), (λc' O => by cases O; rw [U]; exact a8), ?_⟩, eW.aI _ (λ_ => hn)⟩
          apply VM;intro i;have a7 : ∀ i, i < es.length → row[off + i]? = es[i]? := λi hi => by
            have : es[i]? = ((row.drop off).take es.length)[i]? := by rw [he]
            rw [this, VQ hi, Vt]
          simp only [VZ, Vt, U1, gM, V_, Va, U1];rw [show min (off + es.length) row.length = off + es.length by omega];by_cases h1 : i < es.length
          · rw [U4 (by omega), U4 (by omega), U4 (by omega), U4 (by omega), U4 h1]
            exact a7 i h1
          · by_cases h2 : i < es.length + ys.length
            · rw [U4 h2, U4 (by omega), U6 (by omega), U6 h1]
              congr 1; omega
            · rw [U6 h2, U6 h1, VH (by omega)]

mutual
theorem Rd.lt : ∀ (d : D) {F : Nat → Prop} {h : eX} (av : AV), Rd F h d av → Rd (λm => F m ∧ m < h.length) h d av
  | .aA _ _, _, _, _, hh => hh
  | .aE _, _, _, _, hh => hh
  | .aF _, _, _, _, hh => hh
  | .sl sz ds, F, h, _, hh => by
    simp only [Rd] at hh ⊢;obtain ⟨es, h1, h2⟩ := hh;refine ⟨es, ?_, fY.lt ds es h2⟩;rcases h1 with h1 | h1 | ⟨n, off, len, cap, row, g, h1, h2, h3, h4⟩
    · exact .inl h1
    · exact .inr (.inl h1)
    · exact .inr (.inr ⟨n, off, len, cap, row, g, h1, ⟨h2, (UY.1 h3).1⟩, h3, h4⟩)
theorem fu.lt : ∀ (ds : List D) {F : Nat → Prop} {h : eX} (l : List AV), fu F h ds l → fu (λm => F m ∧ m < h.length) h ds l
  | [], _, _, _, hh => hh
  | d :: ds, _, _, _, hh => by simp only [fu] at hh ⊢;obtain ⟨a, r, h1, h2, h3⟩ := hh;exact ⟨a, r, h1, Rd.lt d a h2, fu.lt ds r h3⟩
theorem fY.lt : ∀ (ds : List (List D)) {F : Nat → Prop} {h : eX} (l : List (List AV)), fY F h ds l → fY (λm => F m ∧ m < h.length) h ds l
  | [], _, _, _, hh => hh
  | d :: ds, _, _, _, hh => by simp only [fY] at hh ⊢;obtain ⟨a, r, h1, h2, h3⟩ := hh;exact ⟨a, r, h1, fu.lt d a h2, fY.lt ds r h3⟩
end

end Glb

/-
  A library of its own, for whatever program: the steps, in one.
-/
namespace Glb
open Go

theorem Rs (g : fE → AV) (h : eX) (x : fE) : gG g h (.aF x) = some (g x) := Vc rfl rfl
theorem Rr (g : fE → AV) (h : eX) (agg : Bool) (n : Nat) (x : fE) : gG g h (.aA agg n x) = ir h agg n (g x) := Vc rfl rfl
theorem Rj (g : fE → AV) (h : eX) (op : BinOp) (x y : fE) : gG g h (.aI op x y) = jD op (g x) (g y) := Vc rfl rfl
theorem Rq (g : fE → AV) (h : eX) (x : fE) : gG g h (.aN x) = ik (g x) := Vc rfl rfl
theorem Rv (g : fE → AV) (h : eX) (o : Nat) (x : fE) : gG g h (.aQ o x) = sO o (g x) := Vc rfl rfl
theorem Rp (g : fE → AV) (h : eX) (sz : Nat) (x i : fE) : gG g h (.aD sz x i) = jg sz (g x) (g i) := Vc rfl rfl
def EU (c a b : AV) : Option AV := match c with
  | .aE t => some (if t then a else b)
  | _ => none
theorem Rx (g : fE → AV) (h : eX) (c a b : fE) : gG g h (.aR c a b) = EU (g c) (g a) (g b) := Vc rfl rfl
theorem Kh (t : Bool) (a b : AV) : EU (.aE t) a b = some (if t then a else b) := Vc rfl rfl
def ET : AV → Option AV
  | .aE b => some (.aE !b)
  | _ => none
theorem Ru (g : fE → AV) (h : eX) (x : fE) : gG g h (.aP x) = ET (g x) := Vc rfl rfl
theorem Ke (b : Bool) : ET (.aE b) = some (.aE !b) := Vc rfl rfl
def EK (i : Nat) : AV → Option AV
  | .aI cs => cs[i]?
  | _ => none
theorem Rn (g : fE → AV) (h : eX) (x : fE) (i : Nat) : gG g h (.aM x i) = EK i (g x) := Vc rfl rfl
theorem JT (i : Nat) (cs : List AV) : EK i (.aI cs) = cs[i]? := Vc rfl rfl
def zm (op : BinOp) : AV → AV → Option AV
  | .aE a, .aE b => wT op a b
  | _, _ => none
theorem Ri (g : fE → AV) (h : eX) (op : BinOp) (x y : fE) : gG g h (.aH op x y) = zm op (g x) (g y) := Vc rfl rfl
theorem JL (a b : Bool) : zm .eql (.aE a) (.aE b) = some (.aE (a == b)) := Vc rfl rfl
theorem JM (a b : Bool) : zm .neq (.aE a) (.aE b) = some (.aE (!(a == b))) := Vc rfl rfl
def EF : AV → Option AV
  | .aC n sz i o => some (.aC n sz i o)
  | .aO t cs => some (.aO t cs)
  | .aT t v => some (.aT t v)
  | .aK f fs cs => some (.aK f fs cs)
  | _ => none
theorem Rl (g : fE → AV) (h : eX) (x : fE) : gG g h (.aK x) = EF (g x) := by simp only [gG]; generalize g x = v; cases v <;> rfl
def EG (k : IntKind) : AV → Option AV
  | .aA _ n => some (.aA k (k.wrap n))
  | _ => none
theorem Rm (g : fE → AV) (h : eX) (k : IntKind) (x : fE) : gG g h (.aL k x) = EG k (g x) := Vc rfl rfl
theorem EH (k k' : IntKind) (n : Int) : EG k (.aA k' n) = some (.aA k (k.wrap n)) := Vc rfl rfl
def ES : AV → Option AV
  | .aA k n => some (.aA k (k.wrap (0 - n)))
  | _ => none
theorem Rt (g : fE → AV) (h : eX) (x : fE) : gG g h (.aO x) = ES (g x) := Vc rfl rfl
theorem Kc (k : IntKind) (n : Int) : ES (.aA k n) = some (.aA k (k.wrap (0 - n))) := Vc rfl rfl
def mQ (sz : Nat) (x : AV) : Option (Option Int) → Option (Option Int) → Option (Option Int) → Option AV
  | some lo, some hi, some mx => ie sz x lo hi mx
  | _, _, _ => none
theorem HZ (g : fE → AV) (h : eX) (sz : Nat) (x : fE) (lo hi mx : Option fE) : gG g h (.aS sz x lo hi mx) = mQ sz (g x) (lN g lo) (lN g hi) (lN g mx) := by simp only [gG, mQ]; generalize lN g lo = a; generalize lN g hi = b; generalize lN g mx = c; cases a <;> cases b <;> cases c <;> rfl
theorem Kv (sz : Nat) (x : AV) (lo hi mx : Option Int) : mQ sz x (some lo) (some hi) (some mx) = ie sz x lo hi mx := Vc rfl rfl
def CR : AV → Option (Option Int)
  | .aA _ n => some (some n)
  | _ => none
theorem PN (g : fE → AV) (x : fE) : lN g (some x) = CR (g x) := by simp only [lN, CR]; generalize g x = v; cases v <;> rfl
theorem PL (k : IntKind) (n : Int) : CR (.aA k n) = some (some n) := Vc rfl rfl
theorem PM (g : fE → AV) : lN g none = some none := Vc rfl rfl
theorem JQ (a b : Int) : jD .add (.aA .i64 a) (.aA .i64 b) = some (.aA .i64 (IntKind.i64.wrap (a + b))) := Vc rfl rfl
theorem Te (a b : Int) : jD .sub (.aA .i64 a) (.aA .i64 b) = some (.aA .i64 (IntKind.i64.wrap (a - b))) := Vc rfl rfl
theorem Po (a b : Int) : jD .mul (.aA .i64 a) (.aA .i64 b) = some (.aA .i64 (IntKind.i64.wrap (a * b))) := Vc rfl rfl
theorem LP (k : IntKind) (a b : Int) : jD .lss (.aA k a) (.aA k b) = some (.aE (decide (a < b))) := by simp [jD, pF]
theorem LO (k : IntKind) (a b : Int) : jD .leq (.aA k a) (.aA k b) = some (.aE (decide (a ≤ b))) := by simp [jD, pF]
theorem LN (k : IntKind) (a b : Int) : jD .gtr (.aA k a) (.aA k b) = some (.aE (decide (b < a))) := by simp [jD, pF]
theorem LM (k : IntKind) (a b : Int) : jD .geq (.aA k a) (.aA k b) = some (.aE (decide (b ≤ a))) := by simp [jD, pF]
theorem LL (k : IntKind) (a b : Int) : jD .eql (.aA k a) (.aA k b) = some (.aE (decide (a = b))) := by simp [jD, pF]; rfl
theorem LQ (k : IntKind) (a b : Int) : jD .neq (.aA k a) (.aA k b) = some (.aE (!decide (a = b))) := by simp [jD, pF, bne]; rfl
theorem gj {x : Int} (h : -9223372036854775808 ≤ x ∧ x ≤ 9223372036854775807) : IntKind.i64.wrap x = x := by simp only [IntKind.wrap, IntKind.bits, IntKind.signed];simp;split <;> omega
theorem Dq (n : Nat) (cs : List AV) : pN true n cs = if n ≤ cs.length then some (.aF (cs.take n)) else none := Vc rfl rfl
theorem xZ (n : Nat) (c : AV) (cs : List AV) : pN false n (c :: cs) = some c := Vc rfl rfl
theorem Rb (st : St) : kU st [] = some [] := Vc rfl rfl
theorem Re (st : St) (x : fE) (r : List kb) : kU st (.aC x :: r) = (kU st r).map (st.aA x :: ·) := Vc rfl rfl
theorem PJ (x : AV) : pJ [x] = x := Vc rfl rfl
theorem PI : pJ [] = .aI [] := Vc rfl rfl
theorem PK (x y : AV) (l : List AV) : pJ (x :: y :: l) = .aI (x :: y :: l) := Vc rfl rfl

theorem Ly (k : IntKind) (n : Int) : (AV.aA k n).aL = some [.aA k n] := Vc rfl rfl
theorem Lx (b : Bool) : (AV.aE b).aL = some [.aE b] := Vc rfl rfl
theorem LC (s : ByteArray) : (AV.aQ s).aL = some [.aQ s] := Vc rfl rfl
theorem Lz : AV.aD.aL = some [.aD] := Vc rfl rfl
theorem Lr (cs : List AV) : (AV.aF cs).aL = some cs := Vc rfl rfl
theorem LB (n sz off len : Nat) (cap : Option Nat) : (AV.aG n sz off len cap).aL = some [.aG n sz off len cap] := Vc rfl rfl
theorem LF (t : Nat) (c : Bool) (sz : Nat) (es : List (List AV)) : (AV.aM t c sz es).aL = some [.aM t c sz es] := Vc rfl rfl
theorem LA (n sz i o : Nat) : (AV.aC n sz i o).aL = some [.aC n sz i o] := Vc rfl rfl
theorem gz {a : AV} (h : a.aH = true) : a.aL = some [a] := by cases a <;> first | rfl | simp_all [AV.aL, AV.aH]
theorem Sz (k : IntKind) (n : Int) : (AV.aA k n).aH = true := Vc rfl rfl
theorem Sy (b : Bool) : (AV.aE b).aH = true := Vc rfl rfl
theorem SG (s : ByteArray) : (AV.aQ s).aH = true := Vc rfl rfl
theorem SD : AV.aD.aH = true := Vc rfl rfl
theorem SF (n sz off len : Nat) (cap : Option Nat) : (AV.aG n sz off len cap).aH = true := Vc rfl rfl
theorem SH (t : Nat) (c : Bool) (sz : Nat) (es : List (List AV)) : (AV.aM t c sz es).aH = true := Vc rfl rfl
theorem SE (n sz i o : Nat) : (AV.aC n sz i o).aH = true := Vc rfl rfl
theorem JX (cs : List AV) : oI cs [] = some cs := Vc rfl rfl
theorem JW (cs : List AV) (o n : Nat) (x : AV) (r : List (Nat × Nat × AV)) :
    oI cs ((o, n, x) :: r) = x.aL.bind λl => if l.length = n ∧ o + n ≤ cs.length then oI (jT cs o l) r else none := by
  simp only [oI]; generalize x.aL = q; cases q <;> rfl
theorem SM (cs : List AV) (o : Nat) : jT cs o [] = cs := Vc rfl rfl
theorem SL (cs : List AV) (o : Nat) (c : AV) (r : List AV) : jT cs o (c :: r) = jT (cs.set o c) (o + 1) r := Vc rfl rfl
theorem Rk (g : fE → AV) (h : eX) (z : List AV) (ps : List (Nat × Nat × fE)) : gG g h (.aJ z ps) = (oI z (ps.map λp => (p.1, p.2.1, g p.2.2))).map .aF := Vc rfl rfl
theorem Lm (sz : Nat) : mB sz [] = some [] := Vc rfl rfl
theorem Ll (sz : Nat) (x : AV) (r : List AV) :
    mB sz (x :: r) = x.aL.bind λcs => (mB sz r).bind λes => if cs.length = sz ∧ cs.all AV.aH = true then some (cs :: es) else none := by
  simp only [mB]; cases x.aL <;> cases mB sz r <;> rfl
theorem OP (g : fE → AV) (nm : Nat) (cs : List AV) : jz g nm (.mk cs) = some (.aC nm cs.length 0 0, .aA cs.length [cs] false) := Vc rfl rfl
theorem ON (g : fE → AV) (nm : Nat) (x : fE) :
    jz g nm (.aD x) = (g x).aL.bind λcs => if cs.all AV.aH = true then some (.aC nm cs.length 0 0, .aA cs.length [cs] false) else none := by
  simp only [jz]; cases (g x).aL <;> rfl
theorem OO (g : fE → AV) (nm sz : Nat) (xs : List fE) :
    jz g nm (.aA sz xs) = (mB sz (xs.map g)).map λes => (.aG nm sz 0 xs.length (some xs.length), .aA sz es false) := by
  simp only [jz]; cases mB sz (xs.map g) <;> rfl
theorem NA (g : fE → AV) (h : eX) (cs : List AV) : jY g h (.mk cs) = some (.aC h.length cs.length 0 0, h ++ [some (.aA cs.length [cs] false)]) := Vc rfl rfl
theorem Ny (g : fE → AV) (h : eX) (x : fE) :
    jY g h (.aD x) = (g x).aL.bind λcs => if cs.all AV.aH = true then some (.aC h.length cs.length 0 0, h ++ [some (.aA cs.length [cs] false)]) else none := by
  simp only [jY, jz]; generalize (g x).aL = q; cases q with
  | none => rfl
  | some cs => simp only [Wi]; by_cases e : cs.all AV.aH = true <;> simp [e]
theorem Nz (g : fE → AV) (h : eX) (sz : Nat) (xs : List fE) :
    jY g h (.aA sz xs) = (mB sz (xs.map g)).map λes => (.aG h.length sz 0 xs.length (some xs.length), h ++ [some (.aA sz es false)]) := by
  simp only [jY, jz]; generalize mB sz (xs.map g) = q; cases q <;> rfl
theorem NC (g : fE → AV) (h : eX) (n : Nat) (a x : fE) : jY g h (.aE n a x) = (pA h n (g a) (g x)).map λh' => (.aR, h') := Vc rfl rfl
theorem Nw (g : fE → AV) (h : eX) (sz bytes : Nat) (x y : fE) : jY g h (.aC sz bytes x y) = nR h sz bytes (g x) (g y) := Vc rfl rfl
theorem iv {h : eX} {sz : Nat} {y : AV} {ys : List (List AV)} (hy : iU h sz y = some ys) (bytes : Nat) (x : AV) : nR h sz bytes x y = iu h sz bytes x ys := by simp only [nR, hy]
/-- the elements of a new row -/
theorem lG (h : eX) (sz : Nat) (es : List (List AV)) (g : Bool) (cap : Option Nat) {len : Nat} (hl : len = es.length) : iU (h ++ [some (.aA sz es g)]) sz (.aG h.length sz 0 len cap) = some es := by subst hl; simp [iU]
theorem Im : ∀ (r a : List AV) (cs : List AV), cs.length = r.length → jT (a ++ cs) a.length r = a ++ r := by
  intro r;induction r with
  | nil => intro a cs h; simp at h; subst h; rfl
  | cons c r ih =>
    intro a cs h;cases cs with
    | nil => simp at h
    | cons d cs =>
      simp only [jT];have : (a ++ d :: cs).set a.length c = (a ++ [c]) ++ cs := by simp
      rw [this];have := ih (a ++ [c]) cs (by simpa using h);simpa using this

/-- an element written over -/
theorem wR {h : eX} {n sz j : Nat} {row : List (List AV)} {g : Bool} {cs cs' : List AV} {x : AV} (h7 : h[n]? = some (some (.aA sz row g))) (h8 : row[j]? = some cs)
    (hc : x.aL = some cs') (hl : cs.length = cs'.length) (u : cs'.length = sz) (hs : cs'.all AV.aH = true) :
    pA h sz (.aC n sz j 0) x = some (h.set n (some (.aA sz (row.set j cs') g))) := by
  have hj := (UY.1 h8).1;simp only [pA, h7, hc];rw [U4 ⟨Vd, u, by omega, hj, hs⟩];have : row.modify j (λx => jT x 0 cs') = row.set j cs' := by
    apply VM;intro i;rw [WO, Wl];by_cases e : j = i
    · subst e
      have := Im cs' [] cs hl;simp only [Wd, Ve] at this;obtain ⟨_, rfl⟩ := UY.1 h8;simp [hj, this]
    · simp [e]
  rw [this]

def IW (k : IntKind) (a b : Int) : Int := k.wrap (BitVec.ofInt k.bits a ^^^ BitVec.ofInt k.bits b).toNat
theorem KR (k : IntKind) (a b : Int) : jD .xor (.aA k a) (.aA k b) = some (.aA k (IW k a b)) := by simp [jD, pF, IW]

/-! blocks at the end of the heap -/

def xV (b : Option (Option e_)) (sz i : Nat) : Option (List AV) :=
  match b with
  | some (some (.aA sz' es _)) => if sz = sz' then es[i]? else none
  | _ => none
theorem Ih (sz i : Nat) (es : List (List AV)) (g : Bool) : xV (some (some (.aA sz es g))) sz i = es[i]? := by simp [xV]
theorem wN (h : eX) (agg : Bool) (n m sz i o : Nat) : ir h agg n (.aC m sz i o) = (xV h[m]? sz i).bind λe => pN agg n (e.drop o) := by
  simp only [ir, xV];split
  · rename_i u es g hm
    simp only [hm];split <;> rfl
  · rename_i hm
    split
    · rename_i u es g C; exact absurd C (hm _ _ _)
    · rfl
theorem JU (o m sz i o' : Nat) : sO o (.aC m sz i o') = some (.aC m sz i (o' + o)) := Vc rfl rfl
theorem JO (m sz i o : Nat) : EF (.aC m sz i o) = some (.aC m sz i o) := Vc rfl rfl
def Dn (h : eX) (m n sz i o : Nat) (cs : List AV) (b : Option (Option e_)) : Option eX :=
  match b with
  | some (some (.aA sz' es g)) => if sz = sz' ∧ cs.length = n ∧ o + n ≤ sz ∧ i < es.length ∧ cs.all AV.aH = true then some (h.set m (some (.aA sz (es.modify i (jT · o cs)) g))) else none
  | _ => none
theorem Kx (h : eX) (n m sz i o : Nat) (x : AV) : pA h n (.aC m sz i o) x = x.aL.bind λcs => Dn h m n sz i o cs h[m]? := by
  simp only [pA];generalize hb : h[m]? = b;generalize hc : x.aL = c;cases c with
  | none => cases b with
    | none => rfl
    | some b => cases b with
      | none => rfl
      | some b => cases b <;> rfl
  | some cs => cases b with
    | none => rfl
    | some b => cases b with
      | none => rfl
      | some b => cases b <;> rfl
theorem Tb (h : eX) (m n sz i o : Nat) (cs : List AV) (es : List (List AV)) (g : Bool) :
    Dn h m n sz i o cs (some (some (.aA sz es g))) = if cs.length = n ∧ o + n ≤ sz ∧ i < es.length ∧ cs.all AV.aH = true then some (h.set m (some (.aA sz (es.modify i (jT · o cs)) g))) else none := by
  simp [Dn]
theorem Pa (e : List AV) (f : List AV → List AV) : [e].modify 0 f = [f e] := Vc rfl rfl
theorem gJ (h : eX) (x : Option e_) : (h ++ [x])[h.length]? = some x := by rw [show h ++ [x] = h ++ [x] by simp, show h.length = h.length + 0 from rfl, Vp (V6 _ _), Wa]; rfl
theorem jx (h : eX) (x y : Option e_) : (h ++ [x] ++ [y])[h.length]? = some x := by rw [show h ++ [x] ++ [y] = h ++ [x, y] by simp, show h.length = h.length + 0 from rfl, Vp (V6 _ _), Wa]; rfl
theorem iF (h : eX) (x y : Option e_) : (h ++ [x] ++ [y])[h.length + 1]? = some y := by rw [show h ++ [x] ++ [y] = h ++ [x, y] by simp, show h.length + 1 = h.length + 1 from rfl, Vp (V6 _ _), Wa]; rfl
theorem pC (h : eX) (x y z : Option e_) : (h ++ [x] ++ [y] ++ [z])[h.length]? = some x := by rw [show h ++ [x] ++ [y] ++ [z] = h ++ [x, y, z] by simp, show h.length = h.length + 0 from rfl, Vp (V6 _ _), Wa]; rfl
theorem p_ (h : eX) (x y z : Option e_) : (h ++ [x] ++ [y] ++ [z])[h.length + 1]? = some y := by rw [show h ++ [x] ++ [y] ++ [z] = h ++ [x, y, z] by simp, show h.length + 1 = h.length + 1 from rfl, Vp (V6 _ _), Wa]; rfl
theorem sS (h : eX) (x y z : Option e_) : (h ++ [x] ++ [y] ++ [z])[h.length + 1 + 1]? = some z := by rw [show h ++ [x] ++ [y] ++ [z] = h ++ [x, y, z] by simp, show h.length + 1 + 1 = h.length + 2 from rfl, Vp (V6 _ _), Wa]; rfl
theorem KY (h : eX) (x y z u : Option e_) : (h ++ [x] ++ [y] ++ [z] ++ [u])[h.length]? = some x := by rw [show h ++ [x] ++ [y] ++ [z] ++ [u] = h ++ [x, y, z, u] by simp, show h.length = h.length + 0 from rfl, Vp (V6 _ _), Wa]; rfl
theorem KZ (h : eX) (x y z u : Option e_) : (h ++ [x] ++ [y] ++ [z] ++ [u])[h.length + 1]? = some y := by rw [show h ++ [x] ++ [y] ++ [z] ++ [u] = h ++ [x, y, z, u] by simp, show h.length + 1 = h.length + 1 from rfl, Vp (V6 _ _), Wa]; rfl
theorem K4 (h : eX) (x y z u : Option e_) : (h ++ [x] ++ [y] ++ [z] ++ [u])[h.length + 1 + 1]? = some z := by rw [show h ++ [x] ++ [y] ++ [z] ++ [u] = h ++ [x, y, z, u] by simp, show h.length + 1 + 1 = h.length + 2 from rfl, Vp (V6 _ _), Wa]; rfl
theorem K6 (h : eX) (x y z u : Option e_) : (h ++ [x] ++ [y] ++ [z] ++ [u])[h.length + 1 + 1 + 1]? = some u := by rw [show h ++ [x] ++ [y] ++ [z] ++ [u] = h ++ [x, y, z, u] by simp, show h.length + 1 + 1 + 1 = h.length + 3 from rfl, Vp (V6 _ _), Wa]; rfl
theorem KX (h : eX) (x : Option e_) : (h ++ [x])[h.length]? = some x := by simp
theorem nD (h : eX) (x : Option e_) : (h ++ [x]).length = h.length + 1 := by simp
theorem Ra (st : St) (x : fE) (agg : Bool) (n : Nat) (r : List kb) : kU st (.aA x agg n :: r) = (ir st.h agg n (st.aA x)).bind λv => (kU st r).map (v :: ·) := by simp only [kU]; cases ir st.h agg n (st.aA x) <;> cases kU st r <;> rfl
theorem eW.b1 {h : eX} (x : Option e_) : eW eZ h (h ++ [x]) := eW.aF _ _ _
theorem eW.b2 {h : eX} (x y : Option e_) : eW eZ h (h ++ [x] ++ [y]) := (eW.aF eZ h [x]).tr (eW.aF _ _ _)
theorem eW.b3 {h : eX} (x y z : Option e_) : eW eZ h (h ++ [x] ++ [y] ++ [z]) := (eW.b2 x y).tr (eW.aF _ _ _)
theorem eW.b4 {h : eX} (x y z u : Option e_) : eW eZ h (h ++ [x] ++ [y] ++ [z] ++ [u]) := (eW.b3 x y z).tr (eW.aF _ _ _)
theorem eW.aM {h h' : eX} (e : eW eZ h h') (x : Option e_) : eW eZ h (h' ++ [x]) := e.tr (eW.aF _ _ _)

theorem Rd.aA {F h} : ∀ {d : D} {a : AV}, Rd F h d a → a.aH = true := by
  intro d a hh;cases d with
  | aA k n => simp only [Rd] at hh; subst hh; rfl
  | aE b => simp only [Rd] at hh; subst hh; rfl
  | aF s => simp only [Rd] at hh; subst hh; rfl
  | sl sz ds =>simp only [Rd] at hh;obtain ⟨es, (⟨rfl, _⟩ | ⟨t, c, rfl⟩ | ⟨n, off, len, cap, row, g, rfl, _⟩), _⟩ := hh <;> rfl
theorem Q7 (x : Option e_) : List.replicate 1 x = [x] := Vc rfl rfl
theorem Q8 (h : eX) (x : Option e_) : h ++ List.replicate 2 x = h ++ [x] ++ [x] := by simp [List.replicate]
theorem Q9 (h : eX) (x : Option e_) : h ++ List.replicate 3 x = h ++ [x] ++ [x] ++ [x] := by simp [List.replicate]
theorem Q_ (h : eX) (x : Option e_) : h ++ List.replicate 4 x = h ++ [x] ++ [x] ++ [x] ++ [x] := by simp [List.replicate]
theorem OW (dep : Nat → Nat → Bool) (i j n : Nat) (b : e_) : lu dep i [(j, n, b)] = if dep i j = true then [] else [(j, n, b)] := by simp only [lu, Xl, List.filter_nil]; cases dep i j <;> rfl
theorem jh (dep : Nat → Nat → Bool) (i j n : Nat) (b : e_) (r : List (Nat × Nat × e_)) : lu dep i ((j, n, b) :: r) = if dep i j = true then lu dep i r else (j, n, b) :: lu dep i r := by simp only [lu, Xl]; cases dep i j <;> rfl
theorem OY (masks : List Nat) (i j : Nat) : CC masks i j = decide (masks.getD i 0 / 2 ^ j % 2 = 1) := by simp only [CC, Nat.testBit_eq_decide_div_mod_eq]
theorem MS (dep : Nat → Nat → Bool) (lo i : Nat) (l : List (Nat × Nat × e_)) (h : eX) :
    mC dep lo 1 i l h = ((l.any λx => dep i x.1 && x.2.1 == lo) || mV h[lo]?) := by simp [mC]
theorem Cl (dep : Nat → Nat → Bool) (lo i : Nat) (l : List (Nat × Nat × e_)) (h : eX) :
    mC dep lo 2 i l h = (((l.any λx => dep i x.1 && x.2.1 == lo) || mV h[lo]?) && ((l.any λx => dep i x.1 && x.2.1 == lo + 1) || mV h[lo + 1]?)) := by
  simp [mC, List.range_succ]
theorem MU (dep : Nat → Nat → Bool) (lo i : Nat) (l : List (Nat × Nat × e_)) (h : eX) : mC dep lo 0 i l h = true := by simp [mC]
theorem NT : mV (some none) = true := Vc rfl rfl
theorem rQ {h h' : eX} {p : AV} {cs : List AV} (hp : jB h p = some cs) (e : eW eZ h h') : jB h' p = some cs := by
  cases p with
  | aC m sz i o => exact P8 (F := λ_ => True) (e.aE _) Vd hp
  | aO t cs' => exact hp
  | _ => simp [jB] at hp
theorem Hi {h : eX} {p : AV} {cs : List AV} (hp : jB h p = some cs) (k o : Nat) : gN h.length k (oh o p) = true := by
  cases p with
  | aC m sz i o' =>
    simp only [jB] at hp;split at hp
    · rename_i hm
      have := (UY.1 hm).1;simp [oh, gN, this]
    · cases hp
  | aO t cs' => rfl
  | _ => simp [jB] at hp
theorem Hj {h : eX} {p : AV} {cs : List AV} (hp : jB h p = some cs) (k : Nat) : gN h.length k p = true := by have := Hi hp k 0;cases p <;> simp_all [oh, gN]
theorem qX {h : eX} {m sz : Nat} {es : List (List AV)} {g : Bool} (hb : h[m]? = some (some (.aA sz es g))) (cap : Option Nat) {len : Nat} (hl : len = es.length) : iU h sz (.aG m sz 0 len cap) = some es := by subst hl; simp [iU, hb]
theorem eW.aJ {F : Nat → Prop} {h h1 h2 : eX} (e : eW eZ h h1) (e' : eW F h1 h2) (hF : ∀ m, m < h.length → ¬ F m) : eW eZ h h2 := e.aD e' (λ_ _ x => x) (λm hm u => hF m hm u)
/-- cells that are numbers are one's own -/
theorem PU {F F' : Nat → Prop} {h h' : eX} {k : IntKind} : ∀ {l : List Int} {ys : List (List AV)}, fY F h (l.map λn => [.aA k n]) ys → fG (l.map λn => [.aA k n]) F' h' ys := by
  intro l;induction l with
  | nil => intro ys hh; exact hh
  | cons n l ih =>intro ys hh;simp only [Vv, fY, fu, Rd] at hh;obtain ⟨_, r, rfl, ⟨_, _, rfl, rfl, rfl⟩, h2⟩ := hh;simp only [Vv, fG, fI, eY];exact ⟨_, _, rfl, ⟨_, _, rfl, rfl, rfl⟩, ih h2⟩
theorem eW.aG {h h2 : eX} {n : Nat} (e : eW eZ h h2) (hn : h.length ≤ n) (x : Option e_) : eW eZ h (h2.set n x) :=
  e.aD (eW.aI (F := λm => h.length ≤ m) x (λ_ => hn)) (λ_ _ x => x) (λm hm hm' => by omega)
theorem Rd.up {F h h' d a} (hh : Rd F h d a) (e : eW eZ h h') : Rd F h' d a := Rd.aE (λ_ x => x) (e.aE F) _ _ hh
theorem fu.up {F h h' d a} (hh : fu F h d a) (e : eW eZ h h') : fu F h' d a := fu.aA (λ_ x => x) (e.aE F) _ _ hh
theorem eY.up {F h h'} {d : D} {a} (hh : eY d F h a) (e : eW eZ h h') : eY d F h' a := eY.aC d (λ_ x => x) (e.aE F) _ hh
theorem eY.aA {F h} {d : D} {a : AV} (hh : eY d F h a) : a.aH = true := (eY.rd d (F' := F) (λ_ x => x) a hh).aA

/-- lower, of blocks -/
def u0 (a b : Nat) : Prop := a < b
theorem NG (n m : Nat) : u0 n (m + 1) = (n = m ∨ u0 n m) := by unfold u0; exact propext ⟨λ_ => by omega, λ_ => by omega⟩
theorem Nh {H j : eX} {n : Nat} (e : u0 n H.length) : (H ++ j)[n]? = H[n]? := Vy e
theorem Nf {H : eX} {x : Option e_} {n : Nat} (e : n = H.length) : (H ++ [x])[n]? = some x := by subst e; simp
theorem SO {H j : eX} {y : Option e_} {n : Nat} (e : u0 n H.length) : (H ++ j).set n y = H.set n y ++ j := List.set_append_left _ _ e
theorem SN {H : eX} {x y : Option e_} {n : Nat} (e : n = H.length) : (H ++ [x]).set n y = H ++ [y] := by subst e; simp
attribute [go_sem] List.replicate_zero VY Vv VO Ws Wd Ur Up Un Uo Uq Uk Ul Um GP On Oo NZ NY N5 GO Of Od Oc Oe IP Uj Ui Uf Ug Uh PC PA Oj Oi Ok Og GM Oh Ng Ni Nd OT g_ fm UK UH UJ UI UL Qn Qm Qo UB UA Uz KD KC N_ MD MC TX TV Ua TG TJ TF TE TY TZ TW TL Ub T_ TP TM TQ Uc TT TK Ud TS TR TO TH TI TN PB Ob Oa N9 Px Mb Mc Ma TC J5 J4 UF UC UE UD UG Rs HZ Kv PM PN PL Rr Rj Rq Rv Rp Rx Kh Ru Ke Rn JT Ri JL JM Rl Rm EH Rt Kc JQ Te Po LP LO LN LM LL LQ xZ Rb Re PJ PI PK Ly Lx LC Lz Lr LB LF LA Sz Sy SG SD SF SH SE JX JW SM SL Rk Lm Ll OP ON OO NA Ny Nz NC Nw KR Ih wN JU JO Kx Tb Pa gJ jx iF pC p_ sS nD Ra Wl Nat.left_eq_add Nat.zero_lt_one Nat.lt_add_one Nat.add_eq_left Nat.add_left_cancel_iff Nat.add_right_cancel_iff Q7 Q8 Q9 Q_ OW OY MS Cl NT OV ND SW N8 WK List.getD_cons_zero List.getD_cons_succ List.any_nil List.any_cons Bool.false_or Bool.or_false Xs Bool.and_true Bool.true_or beq_self_eq_true true_or or_true MU Dq List.drop_succ_cons V9 WU List.take_zero Vf Ve List.set_cons_zero List.set_cons_succ Vw V8 Wi and_true true_and and_self VS List.all_cons List.all_nil Bool.and_true Bool.and_self Vn VI VF VN WM NG Nh Nf SO SN nY nv List.contains_cons List.contains_nil Nat.reduceBEq Xo

end Glb

/-
  A library of its own, for whatever program: values of a shape in rows of one's own, whatever numbers they hold, and changes that leave all shapes az they are.
-/
namespace Glb
open Go

inductive Ty where
  | aA (k : IntKind)
  | aC
  | aD
  | sl (sz : Nat) (ts : List Ty)

mutual
def Jt : D → Ty → Prop
  | .aA k _, t => t = .aA k
  | .aE _, t => t = .aC
  | .aF _, t => t = .aD
  | .sl sz ds, t => ∃ ts, t = .sl sz ts ∧ ds.length ≤ 2 ^ 40 ∧ Ec ds ts
def Eb : List D → List Ty → Prop
  | [], ts => ts = []
  | d :: ds, l => ∃ t ts, l = t :: ts ∧ Jt d t ∧ Eb ds ts
def Ec : List (List D) → List Ty → Prop
  | [], _ => True
  | e :: ds, ts => Eb e ts ∧ Ec ds ts
end

section
variable {h : eX} {n sz i : Nat} {row : List (List AV)} {g : Bool} {cs cs' : List AV}

end

/-- how many elements a slice has -/
def UX : AV → Nat
  | .aG _ _ _ len _ => len
  | _ => 0

end Glb

/-
  A library of its own, for whatever program: a closed call that was run answers the same in whatever state, and leaves it az it is.
-/
namespace Glb
open Go

end Glb

/-
  A library of its own, for whatever program: arguments that read az plain data are data in memory that stays.
-/
namespace Glb
open Go

mutual
/-- data, in memory that stays -/
def D.av : D → AV
  | .aA k n => .aA k n
  | .aE b => .aE b
  | .aF s => .aQ s
  | .sl sz es => .aM 0 false sz (D.aD es)
def D.aC : List D → List AV
  | [] => []
  | d :: r => D.av d :: D.aC r
def D.aD : List (List D) → List (List AV)
  | [] => []
  | e :: r => D.aC e :: D.aD r
end

theorem ri : ∀ l : List D, D.aC l = l.map D.av
  | [] => rfl
  | d :: r => by simp only [D.aC, Vv, ri r]
theorem q_ : ∀ l : List (List D), D.aD l = l.map D.aC
  | [] => rfl
  | d :: r => by simp only [D.aD, Vv, q_ r]

theorem lI (d : D) : d.av.aH = true := by cases d <;> simp only [D.av] <;> rfl

mutual
theorem rS (F : Nat → Prop) (h : eX) : ∀ d : D, Rd F h d d.av
  | .aA k n => by simp only [Rd, D.av]
  | .aE b => by simp only [Rd, D.av]
  | .aF s => by simp only [Rd, D.av]
  | .sl sz es => by simp only [Rd, D.av];exact ⟨_, .inr (.inl ⟨0, false, rfl⟩), HL F h es⟩
theorem nG (F : Nat → Prop) (h : eX) : ∀ l : List D, fu F h l (D.aC l)
  | [] => by simp only [fu, D.aC]
  | d :: r => by simp only [fu, D.aC]; exact ⟨_, _, rfl, rS F h d, nG F h r⟩
theorem HL (F : Nat → Prop) (h : eX) : ∀ l : List (List D), fY F h l (D.aD l)
  | [] => by simp only [fY, D.aD]
  | d :: r => by simp only [fY, D.aD]; exact ⟨_, _, rfl, nG F h d, HL F h r⟩
end

def tZ (P : Program) (g : TypeId → Option (List Ty)) : List Field → Nat → Option (List Ty)
  | [], _ => some []
  | f :: r, o => match g f.type with
    | some ts => if f.offset = o ∧ P.cellsOf f.type = ts.length then (tZ P g r (o + ts.length)).map (ts ++ ·) else none
    | none => none

/-- the cells of a type, where it is one of plain data -/
def om (P : Program) : Nat → TypeId → Option (List Ty)
  | 0, _ => none
  | n + 1, t =>
    match P.underlying t with
    | some .bool => some [.aC]
    | some (.int k) => some [.aA k]
    | some .string => some [.aD]
    | some (.slice e) => match om P n e with
      | some (x :: ts) => if P.cellsOf e = (x :: ts).length then some [.sl (P.cellsOf e) (x :: ts)] else none
      | _ => none
    | some (.struct fs) => match tZ P (om P n) fs.toList 0 with
      | some ts => if P.cellsOf t = ts.length then some ts else none
      | none => none
    | _ => none

mutual
def kW : D → Ty → Prop
  | .aA k n, t => t = .aA k ∧ (Lit.int k n).wf = true
  | .aE _, t => t = .aC
  | .aF _, t => t = .aD
  | .sl sz ds, t => ∃ ts, t = .sl sz ts ∧ su ds ts
def iZ : List D → List Ty → Prop
  | [], ts => ts = []
  | d :: ds, l => ∃ t ts, l = t :: ts ∧ kW d t ∧ iZ ds ts
def su : List (List D) → List Ty → Prop
  | [], _ => True
  | e :: ds, ts => iZ e ts ∧ su ds ts
end

theorem DZ : ∀ {ds : List D} {ts : List Ty}, iZ ds ts → ds.length = ts.length := by
  intro ds;induction ds with
  | nil => intro ts h; simp only [iZ] at h; subst h; rfl
  | cons d ds ih => intro ts h; simp only [iZ] at h; obtain ⟨t, ts', rfl, _, h⟩ := h; simp [ih h]

theorem Jm : ∀ {ds u : List D} {ts e : List Ty}, iZ ds ts → iZ u e → iZ (ds ++ u) (ts ++ e) := by
  intro ds;induction ds with
  | nil => intro u ts e h h'; simp only [iZ] at h; subst h; exact h'
  | cons d ds ih => intro u ts e h h'; simp only [iZ] at h; obtain ⟨t, ts1, rfl, h1, h2⟩ := h; simp only [WM, iZ]; exact ⟨t, _, rfl, h1, ih h2 h'⟩

theorem Jl : ∀ {ds : List (List D)} {ts : List Ty}, (∀ d ∈ ds, iZ d ts) → su ds ts := by
  intro ds;induction ds with
  | nil => intro ts _; trivial
  | cons e ds ih => intro ts h; exact ⟨h e (by simp), ih λd hd => h d (by simp [hd])⟩

/-- all that is there stays -/
def Gh.aJ (w : World) : Gh := { N := 0, aA := λ_ => none, aE := λ_ => False, aD := λ_ => False, aF := λ_ _ => False, S := λb => b < w.heap.size }

theorem fO.bB (w : World) : fO (Gh.aJ w) w [] where
  aA := rfl
  aD n := ⟨λh => h.elim, fun ⟨⟨_, _, _, h⟩, _⟩ => by simp at h⟩
  aE _ _ h := h.elim
  inj _ _ _ h := h.elim
  aF _ _ _ h := h.elim
  aG _ _ h := h.elim
  aL _ _ _ h := h.elim
  aM _ _ h := h.elim
  aH _ _ h := h.elim
  aJ _ h := h
  aC _ _ _ _ _ h := by simp at h
  aI _ _ _ _ h := by simp at h
  aK _ h := h.elim

theorem Lj {w : World} {a : Addr} {v : Value} (h : w.cell? a = some v) : a.block < w.heap.size := by
  simp only [World.cell?] at h;split at h
  · rename_i hh; exact (Wf.1 hh).1
  · cases h

theorem Lk {w : World} {a : Addr} {v : Value} (h : w.cell? a = some v) : a.spot = none := by
  simp only [World.cell?] at h;split at h
  · split at h
    · cases h
    · rename_i hs; simpa using hs
  · cases h

section
variable {H : Type} {enc : TypeId × Value → H} {P : Program} {w : World} {held : Bool}

theorem xj {a : Addr} {n : Nat} {cs : List Value} (h : w.cells? 0 a n = some cs) : cs.length = n ∧ ∀ j, j < n → w.cell? (a.add j) = cs[j]? := by simp only [World.cells?, Vk, VS] at h;have hl := mapM_some_length h;refine ⟨by simpa using hl, λj hj => ?_⟩;exact mapM_some_get h j j (by simp [hj])

theorem Tr : ∀ (fuel n : Nat) (t : TypeId) (cs : List Value) (x : DataW H × List MemPlace) (ts : List Ty), DataW.trod enc P w 0 (fun _ => true) held fuel t cs = some x → om P n t = some ts →
    ∃ ds : List D, iZ ds ts ∧ ds.length = cs.length ∧ ∀ (j : Nat) (d : D) (v : Value), ds[j]? = some d → cs[j]? = some v → V (Gh.aJ w) w d.av v := by
  intro fuel;induction fuel with
  | zero => intro n t cs x ts h _; simp [DataW.trod] at h
  | succ m ih =>
    intro n t cs x ts h ht;cases n with
    | zero => simp [om] at ht
    | succ n =>
      simp only [om] at ht;split at ht
      · rename_i hu
        cases ht;unfold DataW.trod at h;rw [hu] at h;split at h <;> simp_all;rename_i b;refine ⟨[.aE b], by simp [iZ, kW], rfl, λj d v hd hv => ?_⟩;cases j <;> simp at hd hv;subst hd hv; simp only [D.av]; exact .aG b
      · rename_i k hu
        cases ht;unfold DataW.trod at h;rw [hu] at h;split at h <;> simp_all;rename_i z heq;obtain ⟨⟨hk, hw⟩, _⟩ := h;subst heq;subst hk;refine ⟨[.aA _ z], by simp only [iZ, kW]; exact ⟨_, _, rfl, ⟨rfl, hw⟩, rfl⟩, rfl, λj d v hd hv => ?_⟩;cases j <;> simp at hd hv;subst hd hv; simp only [D.av]; exact .aD _ _
      · rename_i hu
        cases ht;unfold DataW.trod at h;rw [hu] at h;split at h <;> simp_all;rename_i s;refine ⟨[.aF s], by simp [iZ, kW], rfl, λj d v hd hv => ?_⟩;cases j <;> simp at hd hv;subst hd hv; simp only [D.av]; exact .aQ s
      · rename_i e hu
        split at ht
        · rename_i x0 ts0 hte
          split at ht
          · rename_i hsz
            cases ht;rcases DataW.trod_slice hu h with ⟨rfl, _⟩ | ⟨a, len, cap, elems, rest, n', hfe, rfl, _, _, hlc, _, hel, hget, hrest, _⟩
            · refine ⟨[.sl (P.cellsOf e) []], by simp only [iZ, kW]; exact ⟨_, _, rfl, ⟨_, rfl, Vd⟩, rfl⟩, rfl, λj d v hd hv => ?_⟩
              cases j <;> simp at hd hv;subst hd hv; simp only [D.av, D.aD]; exact .aF _ _ _
            · have hn' : n' = m := by omega
              subst hn';generalize hq : P.cellsOf e = q at *;have hq0 : 0 < q := by rw [hsz]; simp
              have one : ∀ i, i < len → ∃ ds : List D, iZ ds (x0 :: ts0) ∧ ∃ cs' : List Value, w.cells? 0 (a.add (i * q)) q = some cs' ∧ ds.length = cs'.length ∧
                  ∀ (j : Nat) (d : D) (v : Value), ds[j]? = some d → cs'[j]? = some v → V (Gh.aJ w) w d.av v := by
                intro i hi;have := hget i hi;have he : elems[i]? = some (elems[i]'(by omega)) := by rw [U0]
                rw [he] at this;obtain ⟨cs', hcs, htr⟩ := Option.bind_eq_some_iff.1 this;obtain ⟨ds, h1, h2, h3⟩ := ih n e cs' _ _ htr hte;exact ⟨ds, h1, cs', hcs, h2, h3⟩
              let f : Nat → List D := λi => if hi : i < len then Classical.choose (one i hi) else []
              have hf : ∀ i (hi : i < len), iZ (f i) (x0 :: ts0) ∧ ∃ cs' : List Value, w.cells? 0 (a.add (i * q)) q = some cs' ∧ (f i).length = cs'.length ∧
                  ∀ (j : Nat) (d : D) (v : Value), (f i)[j]? = some d → cs'[j]? = some v → V (Gh.aJ w) w d.av v := by
                intro i hi;have := Classical.choose_spec (one i hi);simp only [f, dif_pos hi]; exact this
              have hspot : cap ≠ 0 → a.spot = none := by
                intro hc;have some0 : ∃ cs', w.cells? 0 (a.add (0 * q)) q = some cs' := by
                  rcases Nat.eq_zero_or_pos len with h0 | h0
                  · obtain ⟨hr1, hr2⟩ := hrest rfl
                    have := hr2 0 (by omega);rw [h0, WR] at this;have he : rest[0]? = some (rest[0]'(by omega)) := by rw [U0]
                    rw [he] at this;obtain ⟨cs', hcs, _⟩ := Option.bind_eq_some_iff.1 this;exact ⟨cs', hcs⟩
                  · obtain ⟨_, cs', hcs, _⟩ := hf 0 h0
                    exact ⟨cs', hcs⟩
                obtain ⟨cs', hcs⟩ := some0;obtain ⟨hl, hg⟩ := xj hcs;have := hg 0 hq0;rw [U0 (by omega)] at this;have := Lk this;simpa [Addr.add] using this
              have hgc : ∀ i j c, gw (D.aD ((List.range len).map f)) i j = some c → i < len ∧ ∃ d, (f i)[j]? = some d ∧ c = d.av := by
                intro i j c hc;simp only [gw, q_, VE, List.map_map] at hc;rcases WB i len with hi | hi
                · rw [List.getElem?_range hi] at hc
                  simp only [Ws, Wi, Function.comp, ri, VE, Vl] at hc;obtain ⟨d, h1, h2⟩ := hc;exact ⟨hi, d, h1, h2.symm⟩
                · rw [VH (by simpa using hi)] at hc; simp at hc
              have hcell : ∀ i j c, gw (D.aD ((List.range len).map f)) i j = some c → ∃ v, w.cell? ⟨a.block, a.off + (i * q + j), none⟩ = some v ∧ V (Gh.aJ w) w c v := by
                intro i j c hc;obtain ⟨hi, d, hd, rfl⟩ := hgc i j c hc;obtain ⟨_, cs', hcs, hl, hV⟩ := hf i hi;obtain ⟨hl', hg⟩ := xj hcs;have hj : j < q := by have := (UY.1 hd).1; omega
                have hcj : cs'[j]? = some (cs'[j]'(by omega)) := by rw [U0]
                have hv := hg j hj;rw [hcj] at hv;have hs := hspot (by omega);rw [uI (a := a.add (i * q)) (by rw [uI hs]), uI hs] at hv;refine ⟨_, ?_, hV j d _ hd hcj⟩;rw [← hv]; simp [WG]
              refine ⟨[.sl q ((List.range len).map f)], ?_, rfl, λj d v hd hv => ?_⟩
              · simp only [iZ, kW]
                refine ⟨_, _, rfl, ⟨_, rfl, Jl λd hd => ?_⟩, rfl⟩;obtain ⟨i, hi, rfl⟩ := Wr.1 hd;exact (hf i (by simpa using hi)).1
              · cases j <;> simp at hd hv
                subst hd hv;simp only [D.av];have hlen : (D.aD ((List.range len).map f)).length = len := by simp [q_]
                have := V.aE (G := Gh.aJ w) (w := w) 0 false q (D.aD ((List.range len).map f)) a cap
                  (λi j => (w.cell? ⟨a.block, a.off + (i * q + j), none⟩).getD undef) (by omega) (by simp) hspot ?_ ?_ ?_ ?_
                · rw [hlen] at this; exact this
                · intro hne
                  have h0 : 0 < len := by
                    rcases Nat.eq_zero_or_pos len with h0 | h0
                    · exact absurd (U7 (by omega)) hne
                    · exact h0
                  obtain ⟨_, cs', hcs, hl, hV⟩ := hf 0 h0;obtain ⟨hl', hg⟩ := xj hcs;have := hg 0 hq0;rw [U0 (by omega)] at this;have := Lj this;simpa [Addr.add, Gh.aL, Gh.aJ] using this
                · intro e' he'
                  rw [q_] at he';simp only [List.map_map, Wr] at he';obtain ⟨i, hi, rfl⟩ := he';have hi' : i < len := by simpa using hi
                  obtain ⟨h1, cs', hcs, hl, _⟩ := hf i hi';obtain ⟨hl', _⟩ := xj hcs;simp only [Function.comp, ri];refine ⟨by simp; omega, ?_⟩;rw [Wt];intro z hz;obtain ⟨d, _, rfl⟩ := Wr.1 hz;exact lI d
                · intro i j c hc
                  obtain ⟨v, hv, _⟩ := hcell i j c hc;simp [hv]
                · intro i j c hc
                  obtain ⟨v, hv, hV⟩ := hcell i j c hc;simp [hv, hV]
          · cases ht
        · cases ht
      · rename_i fs hu
        obtain ⟨hts1, hcl⟩ : tZ P (om P n) fs.toList 0 = some ts ∧ P.cellsOf t = ts.length := by
          split at ht
          · split at ht
            · rename_i h1 h2; cases ht; exact ⟨h1, h2⟩
            · cases ht
          · cases ht
        obtain ⟨xs, n', hfe, _, hlen, hxl, hfd⟩ := DataW.trod_struct hu h;have hn' : n' = m := by omega
        subst hn'
        -- the fields from one on
        have key : ∀ (k : Nat) (r : List Field) (o : Nat) (ts : List Ty), fs.toList.drop k = r → tZ P (om P n) r o = some ts → o ≤ cs.length →
            ∃ ds : List D, iZ ds ts ∧ o + ds.length ≤ cs.length ∧ ∀ (j : Nat) (d : D) (v : Value), ds[j]? = some d → cs[o + j]? = some v → V (Gh.aJ w) w d.av v := by
          intro k r;induction r generalizing k with
          | nil =>intro o ts _ hts ho;simp only [tZ, U_] at hts;subst hts;exact ⟨[], by simp [iZ], by simpa using ho, λj d v hd => by simp at hd⟩
          | cons f r ihr =>
            intro o ts hk hts ho;simp only [tZ] at hts;split at hts
            · rename_i tf htf
              split at hts
              · rename_i hoff
                obtain ⟨h1, h2⟩ := hoff;simp only [Vl] at hts;obtain ⟨tr, htr, rfl⟩ := hts;have hfk : fs[k]? = some f := by
                  have : (fs.toList.drop k)[0]? = some f := by rw [hk]; rfl
                  simpa using this
                have hklt : k < fs.size := (Wf.1 hfk).1;have := hfd k f hfk;have hxk : xs[k]? = some (xs[k]'(by omega)) := by rw [U0]
                rw [hxk] at this;obtain ⟨d1, g1, g2, g3⟩ := ih n f.type _ _ _ this htf;have hd1 := DZ g1;simp only [Va, Vo, h1, h2] at g2;have ho' : o + tf.length ≤ cs.length := by omega
                have hk' : fs.toList.drop (k + 1) = r := by rw [← List.drop_drop, hk]; rfl
                obtain ⟨d2, q1, q2, q3⟩ := ihr (k + 1) (o + tf.length) tr hk' htr ho';refine ⟨d1 ++ d2, Jm g1 q1, by simp; omega, λj d v hd hv => ?_⟩;rw [V_] at hd;split at hd
                · rename_i hj
                  refine g3 j d v hd ?_;rw [VQ (by rw [h2]; omega), Vt, h1]; exact hv
                · rename_i hj
                  refine q3 (j - d1.length) d v hd ?_;rw [show o + tf.length + (j - d1.length) = o + j by omega]; exact hv
              · cases hts
            · cases hts
        obtain ⟨ds, g1, g2, g3⟩ := key 0 fs.toList 0 ts rfl hts1 (Vk _);exact ⟨ds, g1, by rw [DZ g1, ← hcl, hlen], λj d v hd hv => g3 j d v hd (by rw [WR]; exact hv)⟩
      · cases ht

/-! a whole list of arguments -/

def tB (P : Program) (t : TypeId) : Bool :=
  match P.underlying t with
  | some (.struct _) => true
  | _ => false

def tY (P : Program) (n : Nat) : List TypeId → Option (List (Bool × List Ty))
  | [] => some []
  | t :: r => match om P n t, tY P n r with
    | some ts, some l => some ((tB P t, ts) :: l)
    | _, _ => none

def EV (b : Bool) (ds : List D) : AV := if b then .aF (D.aC ds) else match ds with
  | [d] => d.av
  | _ => .aR

def ou : List (List D) → List (Bool × List Ty) → Prop
  | [], l => l = []
  | d :: ds, l => ∃ s r, l = s :: r ∧ iZ d s.2 ∧ ou ds r

def wQ : List (List D) → List (Bool × List Ty) → List AV
  | d :: ds, s :: r => EV s.1 d :: wQ ds r
  | _, _ => []

theorem PG {r : Reach} {b0 : Nat} {t : TypeId} {v : Value} (hs : tB P t = true) (hv : Value.okWide P w r b0 t v) : ∃ cs, v = .agg cs := by
  unfold tB at hs;unfold Value.okWide at hv;split at hs
  · rename_i fs hu
    rw [hu] at hv;obtain ⟨cs, rfl, _⟩ := hv;exact ⟨cs, rfl⟩
  · cases hs

theorem PF {r : Reach} {b0 : Nat} {t : TypeId} {v : Value} {n : Nat} {ts : List Ty} (ht : om P n t = some ts) (hs : tB P t = false) (hv : Value.okWide P w r b0 t v) : v.cells = #[v] := by
  unfold tB at hs;cases n with
  | zero => simp [om] at ht
  | succ n =>
    simp only [om] at ht;unfold Value.okWide Cell.okWide Cell.ok at hv;split at ht
    · rename_i hu; rw [hu] at hv; simp only at hv; split at hv <;> simp_all [Value.cells]
    · rename_i k hu; rw [hu] at hv; simp only at hv; split at hv <;> simp_all [Value.cells]
    · rename_i hu; rw [hu] at hv; simp only at hv; split at hv <;> simp_all [Value.cells]
    · rename_i e hu; rw [hu] at hv; simp only at hv; split at hv <;> simp_all [Value.cells]
    · rename_i fs hu; rw [hu] at hs; cases hs
    · cases ht

theorem Kq {r : Reach} {b0 n : Nat} : ∀ (tts : List TypeId) (vs : List Value) (ds : List (DataW H)) (ps : List MemPlace) (sh : List (Bool × List Ty)),
    DataW.TrodAll enc P w 0 (λ_ => true) held tts vs ds ps → (∀ (j : Nat) (t : TypeId) (v : Value), tts[j]? = some t → vs[j]? = some v → Value.okWide P w r b0 t v) → tY P n tts = some sh →
    ∃ dss, ou dss sh ∧ VL (Gh.aJ w) w (wQ dss sh) vs.toArray := by
  intro tts;induction tts with
  | nil =>
    intro vs ds ps sh h _ hs;simp only [tY, U_] at hs;subst hs;cases vs with
    | nil => exact ⟨[], rfl, VL.aG _ _⟩
    | cons v vs => cases ds <;> simp [DataW.TrodAll] at h
  | cons t tts ih =>
    intro vs ds ps sh h hok hs;simp only [tY] at hs;split at hs
    · rename_i ts l ht hl
      cases hs;cases vs with
      | nil => cases ds <;> simp [DataW.TrodAll] at h
      | cons v vs =>
        cases ds with
        | nil => simp [DataW.TrodAll] at h
        | cons d ds =>
          obtain ⟨p, q, ⟨fuel, hd⟩, hrest, _⟩ := h;obtain ⟨dss, h1, h2⟩ := ih vs ds q l hrest (λj t v a b => hok (j + 1) t v (by simpa using a) (by simpa using b)) hl;obtain ⟨d1, g1, g2, g3⟩ := Tr fuel n t _ _ ts hd ht;refine ⟨d1 :: dss, ⟨_, _, rfl, g1, h1⟩, ?_⟩;refine VL.aF ?_ h2;simp only [EV];cases hst : tB P t with
          | true =>
            obtain ⟨cs, rfl⟩ := PG hst (hok 0 t v rfl rfl);simp only [VS];simp only [Value.cells, Array.length_toList] at g2 g3;refine .aJ _ _ (by rw [ri]; simpa using g2) (λj c v hc hv => ?_);rw [ri, VE] at hc;cases hj : d1[j]? with
            | none => rw [hj] at hc; cases hc
            | some x =>rw [hj] at hc;simp only [Ws, U_] at hc;subst hc;exact g3 j x v hj (by simpa using hv)
          | false =>
            have hc1 := PF ht hst (hok 0 t v rfl rfl);rw [hc1] at g2 g3;simp only [Vf, Ve] at g2;match d1, g2 with
            | [x], _ =>simp only [Vn, VI];exact g3 0 x v rfl rfl
    · cases hs

/-- a law that answers yes for whatever data -/
theorem OD {f : FuncId} {sh : List (Bool × List Ty)} {r : Reach} {b0 n : Nat} {tts : List TypeId} {args : Array Value} {ds : List (DataW H)} {ps : List MemPlace} (hs : tY P n tts = some sh)
    (hlaw : ∀ dss, ou dss sh → fC P f (wQ dss sh) [] λr _ => r = .aE true) (h : DataW.TrodAll enc P w 0 (λ_ => true) held tts args.toList ds ps)
    (hok : ∀ (j : Nat) (t : TypeId) (v : Value), tts[j]? = some t → args[j]? = some v → Value.okWide P w r b0 t v) :
    Calls P f args w λe w' => e = .returned (.bool true) ∧ vZ w w' ∧ ∀ b, b < w.heap.size → w'.heap[b]? = w.heap[b]? := by
  obtain ⟨dss, h1, h2⟩ := Kq tts args.toList ds ps sh h (λj t v a b => hok j t v a (by simpa using b)) hs;refine (hlaw dss h1 (Gh.aJ w) w args (fO.bB w) (by simpa using h2)).mono ?_;rintro e w' ⟨v, q, h'', G', rfl, rfl, _, hV, hst⟩;cases hV;have hno : ∀ b, ¬ (Gh.aJ w).aI b := λb hb => by rcases hb with ⟨n, hn, _⟩ | ⟨n, hn⟩ <;> exact hn.elim
  exact ⟨rfl, hst.aL hno, λb hb => hst.aE b hb (hno b)⟩

/-- arguments that read az they did -/
theorem Tq (hl : laidOutB P = true) {W W' : World} {sp : Nat → Bool} (hsame : ∀ b, b < W.heap.size → W'.heap[b]? = W.heap[b]?) : ∀ (tts : List TypeId) (vs : List Value) (ds : List (DataW H)) (ps : List MemPlace),
    (tts.all λt => P.readableRec t && decide (t < P.types.size)) = true → DataW.TrodAll enc P W 0 (λ_ => true) true tts vs ds ps → (∀ p ∈ ps, p.block < W.heap.size) → (∀ p ∈ ps, sp p.block = true) →
    DataW.TrodAll enc P W' 0 sp true tts vs ds ps := by
  intro tts;induction tts with
  | nil => intro vs ds ps _ h _ _; cases vs <;> cases ds <;> first | exact h | simp [DataW.TrodAll] at h
  | cons t tts ih =>
    intro vs ds ps hall h hlt hsp;simp only [List.all_cons, Vq, VD] at hall;cases vs with
    | nil => cases ds <;> simp [DataW.TrodAll] at h
    | cons v vs =>
      cases ds with
      | nil => simp [DataW.TrodAll] at h
      | cons d ds =>
        obtain ⟨p, q, h1, h2, rfl⟩ := h;refine ⟨p, q, ?_, ih vs ds q (by simpa using hall.2) h2 (λx hx => hlt x (List.mem_append_right _ hx)) (λx hx => hsp x (List.mem_append_right _ hx)), rfl⟩;refine WideElems.Trod_stays hl hall.1.1 hall.1.2 h1 (λx hx => ?_) (λx hx => hsp x (List.mem_append_left _ hx));have := hsame x.block (hlt x (List.mem_append_left _ hx));cases x with
        | cell b o => exact World.cell?_of_block (w := W) this
        | map b => exact this

end
end Glb
