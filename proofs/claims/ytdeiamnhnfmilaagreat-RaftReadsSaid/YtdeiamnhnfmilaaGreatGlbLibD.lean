/-
  A library of its own.
-/
import Derived.Test.YtdeiamnhnfmilaaGreatGlbLibC
import Derived.ChangeArms
import Derived.WideKeyArgs
import Derived.Below
set_option linter.unusedSimpArgs false
set_option linter.unusedVariables false
/-
  A library of its own, for whatever program: data, and what it is to find it in abstract values and rows.
-/
namespace Glb
open Go

/-- data: numbers, truths, texts, and lists of structs of data (a struct: its cells) -/
inductive D where
  | aA (k : IntKind) (n : Int)
  | aE (b : Bool)
  | aF (s : ByteArray)
  | sl (sz : Nat) (es : List (List D))

def sZ (cap : Option Nat) (len : Nat) : Prop := ∀ c, cap = some c → len ≤ c

/-- the elements of a slice: in rows of names in F, or in memory that stays -/
def mS (F : Nat → Prop) (h : eW) (sz : Nat) (av : AV) (es : List (List AV)) : Prop :=
  (av = .aD ∧ es = []) ∨ (∃ t c, av = .aM t c sz es) ∨
    ∃ n off len cap row g, av = .aG n sz off len cap ∧ F n ∧ h[n]? = some (some (.aA sz row g)) ∧ off + len ≤ row.length ∧ sZ cap len ∧ es = (row.drop off).take len

mutual
/-- a value reads az data -/
def Rd (F : Nat → Prop) (h : eW) : D → AV → Prop
  | .aA k n, av => av = .aA k n
  | .aE b, av => av = .aE b
  | .aF s, av => av = .aQ s
  | .sl sz ds, av => ∃ es, mS F h sz av es ∧ fY F h ds es
def fm (F : Nat → Prop) (h : eW) : List D → List AV → Prop
  | [], l => l = []
  | d :: ds, l => ∃ a r, l = a :: r ∧ Rd F h d a ∧ fm F h ds r
def fY (F : Nat → Prop) (h : eW) : List (List D) → List (List AV) → Prop
  | [], l => l = []
  | e :: ds, l => ∃ a r, l = a :: r ∧ fm F h e a ∧ fY F h ds r
end

mutual
/-- a value is data in rows that are one's own: names in F, a list's row none of those of its elements -/
def eX : D → (Nat → Prop) → eW → AV → Prop
  | .aA k n, _, _, av => av = .aA k n
  | .aE b, _, _, av => av = .aE b
  | .aF s, _, _, av => av = .aQ s
  | .sl sz ds, F, h, av => (av = .aD ∧ ds = []) ∨ (∃ t c, av = .aM t c sz [] ∧ ds = []) ∨
      ∃ n off cap row g, av = .aG n sz off ds.length cap ∧ F n ∧ h[n]? = some (some (.aA sz row g)) ∧ off + ds.length ≤ row.length ∧ sZ cap ds.length ∧
        fG ds (λm => F m ∧ m ≠ n) h ((row.drop off).take ds.length)
def fI : List D → (Nat → Prop) → eW → List AV → Prop
  | [], _, _, l => l = []
  | d :: ds, F, h, l => ∃ a r, l = a :: r ∧ eX d F h a ∧ fI ds F h r
def fG : List (List D) → (Nat → Prop) → eW → List (List AV) → Prop
  | [], _, _, l => l = []
  | e :: ds, F, h, l => ∃ a r, l = a :: r ∧ fI e F h a ∧ fG ds F h r
end

/-! lists of them -/

theorem lF {F h} : ∀ {ds : List (List D)} {es : List (List AV)}, fY F h ds es → es.length = ds.length := by
  intro ds;induction ds with
  | nil => intro es h; simp only [fY] at h; subst h; rfl
  | cons e ds ih => intro es h; simp only [fY] at h; obtain ⟨a, r, rfl, _, h⟩ := h; simp [ih h]

theorem uz {F h} : ∀ {ds : List D} {es : List AV}, fm F h ds es → es.length = ds.length := by
  intro ds;induction ds with
  | nil => intro es h; simp only [fm] at h; subst h; rfl
  | cons e ds ih => intro es h; simp only [fm] at h; obtain ⟨a, r, rfl, _, h⟩ := h; simp [ih h]

theorem sH {F h} : ∀ {ds : List (List D)} {es : List (List AV)}, fY F h ds es → ∀ (i : Nat) (d : List D), ds[i]? = some d → ∃ e, es[i]? = some e ∧ fm F h d e := by
  intro ds;induction ds with
  | nil => intro es h i d hd; simp at hd
  | cons e ds ih =>
    intro es h i d hd;simp only [fY] at h;obtain ⟨a, r, rfl, h1, h2⟩ := h;cases i with
    | zero => simp at hd; subst hd; exact ⟨a, rfl, h1⟩
    | succ i => obtain ⟨e', h3, h4⟩ := ih h2 i d (by simpa using hd); exact ⟨e', by simpa using h3, h4⟩

theorem DG {F h} : ∀ {ds : List (List D)} {es : List (List AV)}, es.length = ds.length → (∀ (i : Nat) (d : List D) (e : List AV), ds[i]? = some d → es[i]? = some e → fm F h d e) → fY F h ds es := by
  intro ds;induction ds with
  | nil => intro es hl _; simp only [fY]; exact Uz (by simpa using hl)
  | cons d ds ih =>
    intro es hl hh;cases es with
    | nil => simp at hl
    | cons e es =>simp only [fY];exact ⟨e, es, rfl, hh 0 d e rfl rfl, ih (by simpa using hl) λi d' e' h1 h2 => hh (i + 1) d' e' (by simpa using h1) (by simpa using h2)⟩

theorem uy {F h} : ∀ {ds u : List (List D)} {es e : List (List AV)}, fY F h ds es → fY F h u e → fY F h (ds ++ u) (es ++ e) := by
  intro ds;induction ds with
  | nil => intro u es e h1 h2; simp only [fY] at h1; subst h1; exact h2
  | cons d ds ih => intro u es e h1 h2; simp only [fY] at h1; obtain ⟨a, r, rfl, h3, h4⟩ := h1; exact ⟨a, r ++ e, rfl, h3, ih h4 h2⟩

theorem yT {F h} {ds : List (List D)} {es : List (List AV)} (hh : fY F h ds es) (k : Nat) : fY F h (ds.take k) (es.take k) := by
  refine DG (by simp [lF hh]) λi d e h1 h2 => ?_;rw [Vp] at h1 h2;split at h1
  · rename_i hi
    rw [Uv hi] at h2;obtain ⟨e', h3, h4⟩ := sH hh i d h1;rw [h2] at h3; cases h3; exact h4
  · cases h1

theorem yS {F h} {ds : List (List D)} {es : List (List AV)} (hh : fY F h ds es) (k : Nat) : fY F h (ds.drop k) (es.drop k) := by refine DG (by simp [lF hh]) λi d e h1 h2 => ?_;rw [UR] at h1 h2;obtain ⟨e', h3, h4⟩ := sH hh _ d h1;rw [h2] at h3; cases h3; exact h4

theorem oE {F h} : ∀ {ds : List (List D)} {es : List (List AV)}, fG ds F h es → es.length = ds.length := by
  intro ds;induction ds with
  | nil => intro es h; simp only [fG] at h; subst h; rfl
  | cons e ds ih => intro es h; simp only [fG] at h; obtain ⟨a, r, rfl, _, h⟩ := h; simp [ih h]

theorem Dz {F h} : ∀ {ds : List (List D)} {es : List (List AV)}, fG ds F h es → ∀ (i : Nat) (d : List D), ds[i]? = some d → ∃ e, es[i]? = some e ∧ fI d F h e := by
  intro ds;induction ds with
  | nil => intro es h i d hd; simp at hd
  | cons e ds ih =>
    intro es h i d hd;simp only [fG] at h;obtain ⟨a, r, rfl, h1, h2⟩ := h;cases i with
    | zero => simp at hd; subst hd; exact ⟨a, rfl, h1⟩
    | succ i => obtain ⟨e', h3, h4⟩ := ih h2 i d (by simpa using hd); exact ⟨e', by simpa using h3, h4⟩

theorem DA {F h} : ∀ {ds : List (List D)} {es : List (List AV)}, es.length = ds.length → (∀ (i : Nat) (d : List D) (e : List AV), ds[i]? = some d → es[i]? = some e → fI d F h e) → fG ds F h es := by
  intro ds;induction ds with
  | nil => intro es hl _; simp only [fG]; exact Uz (by simpa using hl)
  | cons d ds ih =>
    intro es hl hh;cases es with
    | nil => simp at hl
    | cons e es =>simp only [fG];exact ⟨e, es, rfl, hh 0 d e rfl rfl, ih (by simpa using hl) λi d' e' h1 h2 => hh (i + 1) d' e' (by simpa using h1) (by simpa using h2)⟩

theorem ni {F h} : ∀ {ds u : List (List D)} {es e : List (List AV)}, fG ds F h es → fG u F h e → fG (ds ++ u) F h (es ++ e) := by
  intro ds;induction ds with
  | nil => intro u es e h1 h2; simp only [fG] at h1; subst h1; exact h2
  | cons d ds ih => intro u es e h1 h2; simp only [fG] at h1; obtain ⟨a, r, rfl, h3, h4⟩ := h1; exact ⟨a, r ++ e, rfl, h3, ih h4 h2⟩

theorem IN {F h} {ds : List (List D)} {es : List (List AV)} (hh : fG ds F h es) (k : Nat) : fG (ds.take k) F h (es.take k) := by
  refine DA (by simp [oE hh]) λi d e h1 h2 => ?_;rw [Vp] at h1 h2;split at h1
  · rename_i hi
    rw [Uv hi] at h2;obtain ⟨e', h3, h4⟩ := Dz hh i d h1;rw [h2] at h3; cases h3; exact h4
  · cases h1

theorem IM {F h} {ds : List (List D)} {es : List (List AV)} (hh : fG ds F h es) (k : Nat) : fG (ds.drop k) F h (es.drop k) := by refine DA (by simp [oE hh]) λi d e h1 h2 => ?_;rw [UR] at h1 h2;obtain ⟨e', h3, h4⟩ := Dz hh _ d h1;rw [h2] at h3; cases h3; exact h4

/-! it stays so -/

/-- nothing of these names was changed -/
def gS (F : Nat → Prop) (h h' : eW) : Prop := ∀ m, F m → ∀ x, h[m]? = some x → h'[m]? = some x

theorem eV.aE {h h' : eW} (F : Nat → Prop) (a : eV eY h h') : gS F h h' := λ_ _ _ hx => a.aA hx
theorem eV.aO {F F' : Nat → Prop} {h h' : eW} (a : eV F h h') (hd : ∀ m, m < h.length → F' m → ¬ F m) : gS F' h h' := λm hm x hx => by have := (Up.1 hx).1;rw [a.2 m this (hd m this hm)]; exact hx

theorem mS.aE {F F' h h' sz av es} (hF : ∀ m, F m → F' m) (hk : gS F h h') (hh : mS F h sz av es) : mS F' h' sz av es := by
  rcases hh with hh | hh | ⟨n, off, len, cap, row, g, h1, h2, h3, h4, h5⟩
  · exact .inl hh
  · exact .inr (.inl hh)
  · exact .inr (.inr ⟨n, off, len, cap, row, g, h1, hF n h2, hk n h2 _ h3, h4, h5⟩)

mutual
theorem Rd.aD {F F' : Nat → Prop} {h h' : eW} (hF : ∀ m, F m → F' m) (hk : gS F h h') : ∀ (d : D) (av : AV), Rd F h d av → Rd F' h' d av
  | .aA _ _, _, hh => hh
  | .aE _, _, hh => hh
  | .aF _, _, hh => hh
  | .sl _ ds, _, hh => by simp only [Rd] at hh ⊢;obtain ⟨es, h1, h2⟩ := hh;exact ⟨es, h1.aE hF hk, fY.aA hF hk ds es h2⟩
theorem fm.aA {F F' : Nat → Prop} {h h' : eW} (hF : ∀ m, F m → F' m) (hk : gS F h h') : ∀ (ds : List D) (l : List AV), fm F h ds l → fm F' h' ds l
  | [], _, hh => hh
  | d :: ds, _, hh => by simp only [fm] at hh ⊢;obtain ⟨a, r, h1, h2, h3⟩ := hh;exact ⟨a, r, h1, Rd.aD hF hk d a h2, fm.aA hF hk ds r h3⟩
theorem fY.aA {F F' : Nat → Prop} {h h' : eW} (hF : ∀ m, F m → F' m) (hk : gS F h h') : ∀ (ds : List (List D)) (l : List (List AV)), fY F h ds l → fY F' h' ds l
  | [], _, hh => hh
  | d :: ds, _, hh => by simp only [fY] at hh ⊢;obtain ⟨a, r, h1, h2, h3⟩ := hh;exact ⟨a, r, h1, fm.aA hF hk d a h2, fY.aA hF hk ds r h3⟩
end

mutual
theorem eX.aC : ∀ (d : D) {F F' : Nat → Prop} {h h' : eW} (_ : ∀ m, F m → F' m) (_ : gS F h h') (av : AV), eX d F h av → eX d F' h' av
  | .aA _ _, _, _, _, _, _, _, _, hh => hh
  | .aE _, _, _, _, _, _, _, _, hh => hh
  | .aF _, _, _, _, _, _, _, _, hh => hh
  | .sl _ ds, F, F', h, h', hF, hk, _, hh => by
    simp only [eX] at hh ⊢;rcases hh with hh | hh | ⟨n, off, cap, row, g, h1, h2, h3, h4, hc, h5⟩
    · exact .inl hh
    · exact .inr (.inl hh)
    · exact .inr (.inr ⟨n, off, cap, row, g, h1, hF n h2, hk n h2 _ h3, h4, hc, fG.aA ds (λm hm => ⟨hF m hm.1, hm.2⟩) (λm hm => hk m hm.1) _ h5⟩)
theorem fI.aA : ∀ (ds : List D) {F F' : Nat → Prop} {h h' : eW} (_ : ∀ m, F m → F' m) (_ : gS F h h') (l : List AV), fI ds F h l → fI ds F' h' l
  | [], _, _, _, _, _, _, _, hh => hh
  | d :: ds, _, _, _, _, hF, hk, _, hh => by simp only [fI] at hh ⊢;obtain ⟨a, r, h1, h2, h3⟩ := hh;exact ⟨a, r, h1, eX.aC d hF hk a h2, fI.aA ds hF hk r h3⟩
theorem fG.aA : ∀ (ds : List (List D)) {F F' : Nat → Prop} {h h' : eW} (_ : ∀ m, F m → F' m) (_ : gS F h h') (l : List (List AV)), fG ds F h l → fG ds F' h' l
  | [], _, _, _, _, _, _, _, hh => hh
  | d :: ds, _, _, _, _, hF, hk, _, hh => by simp only [fG] at hh ⊢;obtain ⟨a, r, h1, h2, h3⟩ := hh;exact ⟨a, r, h1, fI.aA d hF hk a h2, fG.aA ds hF hk r h3⟩
end

mutual
theorem eX.rd : ∀ (d : D) {F F' : Nat → Prop} {h : eW} (_ : ∀ m, F m → F' m) (av : AV), eX d F h av → Rd F' h d av
  | .aA _ _, _, _, _, _, _, hh => hh
  | .aE _, _, _, _, _, _, hh => hh
  | .aF _, _, _, _, _, _, hh => hh
  | .sl sz ds, F, F', h, hF, _, hh => by
    simp only [eX, Rd] at hh ⊢;rcases hh with ⟨rfl, rfl⟩ | ⟨t, c, rfl, rfl⟩ | ⟨n, off, cap, row, g, h1, h2, h3, h4, hc, h5⟩
    · exact ⟨[], .inl ⟨rfl, rfl⟩, rfl⟩
    · exact ⟨[], .inr (.inl ⟨t, c, rfl⟩), rfl⟩
    · exact ⟨_, .inr (.inr ⟨n, off, _, cap, row, g, h1, hF n h2, h3, h4, hc, rfl⟩), fG.rd ds (λm hm => hF m hm.1) _ h5⟩
theorem fI.rd : ∀ (ds : List D) {F F' : Nat → Prop} {h : eW} (_ : ∀ m, F m → F' m) (l : List AV), fI ds F h l → fm F' h ds l
  | [], _, _, _, _, _, hh => hh
  | d :: ds, _, _, _, hF, _, hh => by simp only [fI, fm] at hh ⊢;obtain ⟨a, r, h1, h2, h3⟩ := hh;exact ⟨a, r, h1, eX.rd d hF a h2, fI.rd ds hF r h3⟩
theorem fG.rd : ∀ (ds : List (List D)) {F F' : Nat → Prop} {h : eW} (_ : ∀ m, F m → F' m) (l : List (List AV)), fG ds F h l → fY F' h ds l
  | [], _, _, _, _, _, hh => hh
  | d :: ds, _, _, _, hF, _, hh => by simp only [fG, fY] at hh ⊢;obtain ⟨a, r, h1, h2, h3⟩ := hh;exact ⟨a, r, h1, fI.rd d hF a h2, fG.rd ds hF r h3⟩
end

/-- only names that are there count -/
theorem gS.lt (F : Nat → Prop) (h : eW) : ∀ m, F m → ∀ x, h[m]? = some x → h[m]? = some x := λ_ _ _ hx => hx

mutual
theorem eX.lt : ∀ (d : D) {F : Nat → Prop} {h : eW} (av : AV), eX d F h av → eX d (λm => F m ∧ m < h.length) h av
  | .aA _ _, _, _, _, hh => hh
  | .aE _, _, _, _, hh => hh
  | .aF _, _, _, _, hh => hh
  | .sl sz ds, F, h, _, hh => by
    simp only [eX] at hh ⊢;rcases hh with hh | hh | ⟨n, off, cap, row, g, h1, h2, h3, h4, hc, h5⟩
    · exact .inl hh
    · exact .inr (.inl hh)
    · exact .inr (.inr ⟨n, off, cap, row, g, h1, ⟨h2, (Up.1 h3).1⟩, h3, h4, hc,
        fG.aA ds (λm hm => ⟨⟨hm.1.1, hm.2⟩, hm.1.2⟩) (λ_ _ _ hx => hx) _ (fG.lt ds _ h5)⟩)
theorem fI.lt : ∀ (ds : List D) {F : Nat → Prop} {h : eW} (l : List AV), fI ds F h l → fI ds (λm => F m ∧ m < h.length) h l
  | [], _, _, _, hh => hh
  | d :: ds, _, _, _, hh => by simp only [fI] at hh ⊢;obtain ⟨a, r, h1, h2, h3⟩ := hh;exact ⟨a, r, h1, eX.lt d a h2, fI.lt ds r h3⟩
theorem fG.lt : ∀ (ds : List (List D)) {F : Nat → Prop} {h : eW} (l : List (List AV)), fG ds F h l → fG ds (λm => F m ∧ m < h.length) h l
  | [], _, _, _, hh => hh
  | d :: ds, _, _, _, hh => by simp only [fG] at hh ⊢;obtain ⟨a, r, h1, h2, h3⟩ := hh;exact ⟨a, r, h1, fI.lt d a h2, fG.lt ds r h3⟩
end

/-! reading -/

/-- the cells at a pointer -/
def jA (h : eW) : AV → Option (List AV)
  | .aC m sz i o => match h[m]? with
    | some (some (.aA sz' es _)) => if sz = sz' then (es[i]?).map (·.drop o) else none
    | _ => none
  | .aO _ cs => some cs
  | _ => none

def pO (o : Nat) : AV → AV
  | .aC m sz i o' => .aC m sz i (o' + o)
  | .aO t cs => .aO t (cs.drop o)
  | v => v

theorem ju {h p cs} (hp : jA h p = some cs) (agg : Bool) (n : Nat) : ir h agg n p = pQ agg n cs := by
  unfold jA at hp;split at hp
  · rename_i m sz i o
    simp only [ir];split at hp
    · rename_i sz' es g hm
      simp only [hm];split at hp
      · rename_i e
        rw [Uv e];cases he : es[i]? with
        | none => simp [he] at hp
        | some e' => simp [he] at hp; subst hp; rfl
      · cases hp
    · cases hp
  · cases hp; rfl
  · cases hp

theorem py {h p cs} (hp : jA h p = some cs) (o : Nat) : sP o p = some (pO o p) := by
  unfold jA at hp;split at hp
  · rfl
  · rfl
  · cases hp

theorem Cv {h p cs} (hp : jA h p = some cs) (o : Nat) : jA h (pO o p) = some (cs.drop o) := by
  unfold jA at hp;split at hp
  · rename_i m sz i o'
    simp only [pO, jA];split at hp
    · rename_i sz' es g hm
      (try simp only [hm])
      split at hp
      · rename_i e
        (try rw [Uv e])
        cases he : es[i]? with
        | none => simp [he] at hp
        | some e' => simp [he] at hp; subst hp; simp [List.drop_drop]
      · cases hp
    · cases hp
  · cases hp; rfl
  · cases hp

theorem pB {h p cs} (hp : jA h p = some cs) (o : Nat) (agg : Bool) (n : Nat) : ir h agg n (pO o p) = pQ agg n (cs.drop o) := ju (Cv hp o) agg n

theorem Pg {F : Nat → Prop} {h h' : eW} (hk : gS F h h') {m sz i o cs} (hm : F m) (hp : jA h (.aC m sz i o) = some cs) : jA h' (.aC m sz i o) = some cs := by
  simp only [jA] at hp ⊢;split at hp
  · rename_i sz' es g hx; rw [hk m hm _ hx]; exact hp
  · cases hp

theorem mS.aD {F h sz av es} (hh : mS F h sz av es) : ik av = some (.aA .i64 es.length) := by
  rcases hh with ⟨rfl, rfl⟩ | ⟨t, c, rfl⟩ | ⟨n, off, len, cap, row, g, rfl, _, _, h4, _, rfl⟩
  · rfl
  · rfl
  · simp only [ik, UD, UP]; congr 2; omega

theorem mS.aA {F h sz av es} (hh : mS F h sz av es) : iK h sz av = some es := by
  rcases hh with ⟨rfl, rfl⟩ | ⟨t, c, rfl⟩ | ⟨n, off, len, cap, row, g, rfl, _, h3, h4, _, rfl⟩
  · rfl
  · simp [iK]
  · simp [iK, h3, h4]

theorem mS.aC {F h sz av es} (hh : mS F h sz av es) (k : IntKind) {i : Int} {e : List AV} (h0 : 0 ≤ i) (he : es[i.toNat]? = some e) :
    ∃ p, jg sz av (.aA k i) = some p ∧ jA h p = some e := by
  rcases hh with ⟨rfl, rfl⟩ | ⟨t, c, rfl⟩ | ⟨n, off, len, cap, row, g, rfl, _, h3, h4, _, rfl⟩
  · simp at he
  · exact ⟨.aO t e, by simp [jg, h0, he], rfl⟩
  · have hlt := (Up.1 he).1
    simp only [UD, UP] at hlt;rw [Vh (by omega), UR] at he;refine ⟨.aC n sz (off + i.toNat) 0, ?_, ?_⟩
    · simp only [jg]; rw [Uv ⟨UF, h0, by omega⟩]
    · simp [jA, h3, he]

theorem mS.aF {F h sz av es} (hh : mS F h sz av es) {lo hi mx : Option Int} (h0 : 0 ≤ lo.getD 0) (h1 : lo.getD 0 ≤ hi.getD es.length) (h2 : hi.getD es.length ≤ (es.length : Int))
    (h3 : hi.getD es.length ≤ mx.getD (hi.getD es.length)) (h4 : mx.getD (hi.getD es.length) ≤ (es.length : Int)) (h5 : mx.isSome → hi.isSome) :
    ∃ I, iB sz av lo hi mx = some I ∧ mS F h sz I ((es.take (hi.getD es.length).toNat).drop (lo.getD 0).toNat) := by
  rcases hh with ⟨rfl, rfl⟩ | ⟨t, c, rfl⟩ | ⟨n, off, len, cap, row, g, rfl, hF, hm, hle, u, rfl⟩
  · simp only [UJ, Wz] at h1 h2 h3 h4
    have e0 : lo.getD 0 = 0 := by omega
    have e1 : hi.getD 0 = 0 := by omega
    have e2 : mx.getD 0 = 0 := by cases mx with
      | none => rfl
      | some m => simp at h3 h4 ⊢; omega
    exact ⟨.aD, by simp [iB, e0, e1, e2], .inl ⟨rfl, by simp⟩⟩
  · refine ⟨.aM t (qH mx (hi.getD es.length) es.length c) sz ((es.take (hi.getD es.length).toNat).drop (lo.getD 0).toNat), ?_, .inr (.inl ⟨t, _, rfl⟩)⟩
    simp only [iB];rw [Uv ⟨UF, h0, h1, h2, h3, h4⟩]
  · have hl : ((row.drop off).take len).length = len := by simp; omega
    rw [hl] at h1 h2 h3 h4 ⊢;simp only [iB];have hcl : (len : Int) ≤ ((cap.getD len : Nat) : Int) := by
      cases cap with
      | none => simp
      | some c => have := u c rfl; simp; omega
    generalize lo.getD 0 = l at *;have M : mx.isSome → jB mx l.toNat cap = some ((mx.getD (hi.getD (len : Int))).toNat - l.toNat) := by
      intro hm; cases mx with
      | none => simp at hm
      | some m => rfl
    have O : mx = none → jB mx l.toNat cap = cap.map (· - l.toNat) := by rintro rfl; rfl
    generalize hi.getD (len : Int) = hh at *;have e : sZ (jB mx l.toNat cap) (hh.toNat - l.toNat) := by
      intro c hc;cases E : mx with
      | none => rw [O E] at hc; cases cap with
        | none => simp at hc
        | some q => have := u q rfl; simp at hc; omega
      | some m => rw [M (by simp [E])] at hc; simp at hc; omega
    rw [Uv ⟨UF, h0, h1, .inl h2, h3, by omega⟩];by_cases e0 : l = 0
    · rw [Uv e0]
      subst e0;refine ⟨_, rfl, .inr (.inr ⟨n, off, _, _, row, g, rfl, hF, hm, by omega, by simpa using e, ?_⟩)⟩;rw [Int.toNat_zero, Vy, Va, Vk (by omega)]
    · rw [Uw e0]
      by_cases e1 : l < hh
      · rw [Uv e1]
        refine ⟨_, rfl, .inr (.inr ⟨n, off + l.toNat, _, _, row, g, rfl, hF, hm, by omega, e, ?_⟩)⟩;rw [Va, List.drop_take, List.drop_drop];congr 1; omega
      · rw [Uw e1]
        refine ⟨_, rfl, .inr (.inl ⟨0, false, ?_⟩)⟩;have : (((row.drop off).take len).take hh.toNat).drop l.toNat = [] := by apply Uz; simp; omega
        rw [this]

theorem Rd.aC {F h sz ds av} (hh : Rd F h (.sl sz ds) av) : ik av = some (.aA .i64 ds.length) := by simp only [Rd] at hh;obtain ⟨es, h1, h2⟩ := hh;rw [h1.aD, lF h2]

theorem Rd.aE {F h sz ds av} (hh : Rd F h (.sl sz ds) av) (k : IntKind) {i : Int} {d : List D} (h0 : 0 ≤ i) (hd : ds[i.toNat]? = some d) :
    ∃ p cs, jg sz av (.aA k i) = some p ∧ jA h p = some cs ∧ fm F h d cs := by
  simp only [Rd] at hh;obtain ⟨es, h1, h2⟩ := hh;obtain ⟨e, he, hr⟩ := sH h2 _ _ hd;obtain ⟨p, h3, h4⟩ := h1.aC k h0 he;exact ⟨p, e, h3, h4, hr⟩

theorem Rd.aJ {F h sz ds av} (hh : Rd F h (.sl sz ds) av) {lo hi mx : Option Int} (h0 : 0 ≤ lo.getD 0) (h1 : lo.getD 0 ≤ hi.getD ds.length) (h2 : hi.getD ds.length ≤ (ds.length : Int))
    (h3 : hi.getD ds.length ≤ mx.getD (hi.getD ds.length)) (h4 : mx.getD (hi.getD ds.length) ≤ (ds.length : Int)) (h5 : mx.isSome → hi.isSome) :
    ∃ e, iB sz av lo hi mx = some e ∧ Rd F h (.sl sz ((ds.take (hi.getD ds.length).toNat).drop (lo.getD 0).toNat)) e := by
  simp only [Rd] at hh ⊢;obtain ⟨es, e1, e2⟩ := hh;have hl := lF e2;obtain ⟨e, e3, e4⟩ := e1.aF (lo := lo) (hi := hi) (mx := mx) h0 (by rw [hl]; exact h1) (by rw [hl]; exact h2) (by rw [hl]; exact h3) (by rw [hl]; exact h4) h5;rw [hl] at e4;exact ⟨e, e3, _, e4, yS (yT e2 _) _⟩

theorem Rd.aH {F h sz ds av} (hh : Rd F h (.sl sz ds) av) : ∃ es, iK h sz av = some es ∧ fY F h ds es := by simp only [Rd] at hh;obtain ⟨es, h1, h2⟩ := hh;exact ⟨es, h1.aA, h2⟩

theorem Rd.aK {F h} (sz : Nat) : Rd F h (.sl sz []) .aD := by simp only [Rd, fY]; exact ⟨[], .inl ⟨rfl, rfl⟩, rfl⟩

theorem eX.aD {F h} (sz : Nat) : eX (.sl sz []) F h .aD := by simp only [eX]; exact .inl ⟨UF, UF⟩

theorem eX.aE {sz ds F h a} (hh : eX (.sl sz ds) F h a) : ∃ ys, iK h sz a = some ys ∧ fG ds F h ys := by
  simp only [eX] at hh;rcases hh with ⟨rfl, rfl⟩ | ⟨t, c, rfl, rfl⟩ | ⟨n, off, cap, row, g, rfl, h2, h3, h4, hc, h5⟩
  · exact ⟨[], rfl, rfl⟩
  · exact ⟨[], by simp [iK], rfl⟩
  · exact ⟨_, by simp [iK, h3, h4], fG.aA ds (λm hm => hm.1) (λ_ _ _ x => x) _ h5⟩

/-! a list of one's own that is appended to -/

/-- may it be appended to: nothing lies behind it that is not known -/
def gP (h : eW) : AV → Prop
  | .aD => True
  | .aG n sz off len cap => ∃ row g, h[n]? = some (some (.aA sz row g)) ∧ (cap = none → off = 0) ∧ ∀ c, cap = some c → off + c ≤ row.length
  | .aM _ clip _ _ => clip = true
  | _ => False

theorem gP.aA {F : Nat → Prop} {h h' av d} (hc : gP h av) (ho : eX d F h av) (hk : gS F h h') : gP h' av := by
  unfold gP at hc ⊢;split
  · trivial
  · rename_i n sz off len cap
    obtain ⟨row, g, h1, h2⟩ := hc;refine ⟨row, g, hk n ?_ _ h1, h2⟩;cases d with
    | sl sz' ds =>
      simp only [eX] at ho;rcases ho with ⟨e, _⟩ | ⟨t, c, e, _⟩ | ⟨n', off', cap', row', g', e, hF, _⟩
      · cases e
      · cases e
      · cases e; exact hF
    | aA k n => simp only [eX] at ho; cases ho
    | aE b => simp only [eX] at ho; cases ho
    | aF s => simp only [eX] at ho; cases ho
  · exact hc
  · simp_all

theorem m7 {lo sz bytes : Nat} {ds es : List (List D)} {h0 h : eW} {av : AV} {ys : List (List AV)} (ho : eX (.sl sz ds) (fun m => lo ≤ m) h0 av) (hc : gP h0 av)
    (hx : eV eY h0 h) (hy : fG es (λm => h0.length ≤ m) h ys) (hlo : lo ≤ h0.length) (hb : (ds.length + es.length) * bytes ≤ 2 ^ 46) :
    ∃ av' h', ij h sz bytes av ys = some (av', h') ∧ eX (.sl sz (ds ++ es)) (λm => lo ≤ m) h' av' ∧ gP h' av' ∧ eV (λm => lo ≤ m) h h' := by
  have hyl := oE hy;have new : ∀ (hh : eW) (es' : List (List AV)), gS (λm => lo ≤ m ∧ m ≠ hh.length) hh (hh ++ [some (.aA sz es' true)]) := λhh es' m hm x hx => by rw [UZ (Up.1 hx).1]; exact hx
  have fresh : ∀ (hh : eW) (dd : List (List D)) (es' : List (List AV)), lo ≤ hh.length → fG dd (fun m => lo ≤ m) hh es' →
      eX (.sl sz dd) (λm => lo ≤ m) (gM hh sz es').2 (gM hh sz es').1 ∧ gP (gM hh sz es').2 (gM hh sz es').1 := by
    intro hh dd es' hl hd;have hlen := oE hd;refine ⟨?_, ⟨es', true, by simp [gM], (λ_ => rfl), (λc hc => by cases hc)⟩⟩;simp only [eX, gM];refine .inr (.inr ⟨hh.length, 0, none, es', true, by rw [hlen], hl, by simp, by omega, (λc hc => by cases hc), ?_⟩);have : (es'.drop 0).take dd.length = es' := by rw [Vy, UU (by omega)]
    rw [this];refine fG.aA dd (λm hm => ⟨hm.1, by have := hm.2; omega⟩) ?_ _ (fG.lt dd _ hd);intro m hm x hx;rw [UZ hm.2]; exact hx
  simp only [eX] at ho;rcases ho with ⟨rfl, rfl⟩ | ⟨t, c, rfl, rfl⟩ | ⟨n, off, cap, row, g, rfl, hn, hrow, hle, hcl, hd⟩
  · -- nothing yet
    have hy' : fG es (λm => lo ≤ m) h ys := fG.aA es (λm hm => UH hlo hm) (λ_ _ _ x => x) _ hy;obtain ⟨a, b⟩ := fresh h es ys (UH hlo hx.1) hy';refine ⟨_, _, ?_, by simpa using a, b, ?_⟩
    · simp only [ij]; rw [Uv (by rw [hyl]; simpa using hb)]
    · exact eV.aF _ _ _
  · have hc1 : c = true := hc
    subst hc1;have hy' : fG es (λm => lo ≤ m) h ys := fG.aA es (λm hm => UH hlo hm) (λ_ _ _ x => x) _ hy;simp only [ij];rw [Uv ⟨UF, by rw [hyl]; simpa using hb⟩];by_cases hy0 : ys.length = 0
    · rw [Uv hy0]
      have hes : es = [] := Uz (by omega);subst hes;refine ⟨_, _, rfl, ?_, rfl, eV.aC _ _⟩;simp only [eX];exact .inr (.inl ⟨t, true, rfl, rfl⟩)
    · rw [Uw hy0, Uv UF]
      obtain ⟨a, b⟩ := fresh h es ys (UH hlo hx.1) hy';exact ⟨_, _, rfl, by simpa [gM] using a, b, eV.aF _ _ _⟩
  · obtain ⟨row', g', hrow', hcn, hcs⟩ := hc
    rw [hrow] at hrow';obtain ⟨rfl, rfl⟩ : row = row' ∧ g = g' := by simpa using hrow'
    have hnlt := (Up.1 hrow).1;have hrow1 : h[n]? = some (some (.aA sz row g)) := hx.aA hrow;have hnlt1 := (Up.1 hrow1).1;have hd1 : fG ds (λm => lo ≤ m ∧ m ≠ n) h ((row.drop off).take ds.length) := fG.aA ds (λm hm => hm) (hx.aE _) _ hd;have hy1 : fG es (λm => lo ≤ m ∧ m ≠ n) h ys := fG.aA es (λm hm => ⟨UH hlo hm, by omega⟩) (λ_ _ _ x => x) _ hy;have both : fG (ds ++ es) (λm => lo ≤ m) h ((row.drop off).take ds.length ++ ys) := fG.aA _ (λm hm => hm.1) (λ_ _ _ x => x) _ (ni hd1 hy1);simp only [ij, hrow1];rw [Uv ⟨UF, UF, hle, by rw [hyl]; exact hb⟩];cases cap with
    | none =>
      obtain rfl := hcn rfl;simp only [Vm];have both' : fG (ds ++ es) (λm => lo ≤ m) (h.set n none) (row.take ds.length ++ ys) := by have := ni hd1 hy1;rw [Vy] at this;exact fG.aA _ (λm hm => hm.1) (λm hm x hx => by rw [Uq (λe => hm.2 e.symm)]; exact hx) _ this
      obtain ⟨a, b⟩ := fresh (h.set n none) (ds ++ es) (row.take ds.length ++ ys) (by simp; omega) both';exact ⟨_, _, rfl, a, b, (eV.aI none (λ_ => hn)).aD (eV.aF (λm => lo ≤ m) _ _) (λ_ _ x => x) (λ_ _ x => x)⟩
    | some c =>
      have hc1 := hcl c rfl;have hc2 := hcs c rfl;cases c with
      | zero =>
        have h0 : ds.length = 0 := by omega
        have hds : ds = [] := Uz h0;subst hds;simp only [UJ, Vm];by_cases hy0 : ys.length = 0
        · rw [Uv hy0]
          have hes : es = [] := Uz (by omega);subst hes;refine ⟨_, _, rfl, ?_, ⟨row, g, hrow1, (λe => by cases e), (λc hc => by cases hc; omega)⟩, eV.aC _ _⟩;simp only [eX];exact .inr (.inr ⟨n, off, some 0, row, g, rfl, hn, hrow1, by simpa using hle, (λc hc => by cases hc; simp), by simp [fG]⟩)
        · rw [Uw hy0]
          have hy2 : fG es (λm => lo ≤ m) h ys := fG.aA es (λm hm => hm.1) (λ_ _ _ x => x) _ hy1;obtain ⟨a, b⟩ := fresh h es ys (by omega) hy2;exact ⟨_, _, rfl, by simpa [gM] using a, b, eV.aF _ _ _⟩
      | succ c =>
        simp only;by_cases hcap : c + 1 < ds.length + ys.length
        · rw [Uv hcap]
          obtain ⟨a, b⟩ := fresh h (ds ++ es) _ (by omega) both;exact ⟨_, _, rfl, a, b, eV.aF _ _ _⟩
        · rw [Uw hcap, Uv (by omega)]
          have hsl : (gZ row (off + ds.length) ys).length = row.length := by simp [gZ]; omega
          refine ⟨_, _, rfl, ?_, ⟨_, g, by rw [Ux hnlt1], (λe => by cases e), (λc' hc' => by cases hc'; rw [hsl]; exact hc2)⟩, eV.aI _ (λ_ => hn)⟩;simp only [eX];refine .inr (.inr ⟨n, off, some (c + 1), gZ row (off + ds.length) ys, g, by rw [Ut, hyl], hn, by rw [Ux hnlt1], by rw [hsl, Ut]; omega,
            (λc' hc' => by cases hc'; rw [Ut]; omega), ?_⟩)
          have e : ((gZ row (off + ds.length) ys).drop off).take (ds ++ es).length = (row.drop off).take ds.length ++ ys := by
            apply Vf;intro i;simp only [Vp, UR, Ut, gZ, Vu, UD, Ut, UP];rw [show min (off + ds.length) row.length = off + ds.length by omega, show min ds.length (row.length - off) = ds.length by omega];by_cases h1 : i < ds.length
            · rw [Uv (by omega), Uv (by omega), Uv (by omega), Uv (by omega), Uv h1]
              simp [h1]
            · by_cases h2 : i < ds.length + es.length
              · rw [Uv h2, Uv (by omega), Uw (by omega), Uw h1]
                congr 1; omega
              · rw [Uw h2, Uw h1, U8 (by omega)]
          rw [e];refine fG.aA _ (λm hm => hm) ?_ _ (ni hd1 hy1);intro m hm x hx;rw [Uq (λe => hm.2 e.symm)]; exact hx

/-- a list of one's own, cut and clipped -/
theorem tM {F : Nat → Prop} {sz : Nat} {ds : List (List D)} {h : eW} {av : AV} (ho : eX (.sl sz ds) F h av) {k : Int} (h0 : 0 ≤ k) (hk : k ≤ ds.length) :
    ∃ E, iB sz av none (some k) (some k) = some E ∧ eX (.sl sz (ds.take k.toNat)) F h E ∧ gP h E := by
  simp only [eX] at ho;rcases ho with ⟨rfl, rfl⟩ | ⟨t, c, rfl, rfl⟩ | ⟨n, off, cap, row, g, rfl, hn, u, hle, I, hd⟩
  · have : k = 0 := by simpa using (by simp at hk; omega : k = 0)
    subst this;exact ⟨.aD, by simp [iB], eX.aD sz, UF⟩
  · have : k = 0 := by simpa using (by simp at hk; omega : k = 0)
    subst this;refine ⟨.aM t true sz [], by simp [iB, qH], ?_, rfl⟩;simp only [eX];exact .inr (.inl ⟨t, true, rfl, by simp⟩)
  · have hcl' : (ds.length : Int) ≤ ((cap.getD ds.length : Nat) : Int) := by
      cases cap with
      | none => simp
      | some c => have := I c rfl; simp; omega
    have hl : (ds.take k.toNat).length = k.toNat := by simp; omega
    refine ⟨.aG n sz off k.toNat (some k.toNat), ?_, ?_, ⟨row, g, u, (λe => by cases e), (λc hc => by cases hc; omega)⟩⟩
    · simp only [iB, Vv, U6]
      rw [Uv ⟨UF, by omega, by omega, .inl (by omega), by omega, by omega⟩, Uv UF];simp [jB]
    · simp only [eX]
      refine .inr (.inr ⟨n, off, some k.toNat, row, g, by rw [hl], hn, u, by omega, (λc hc => by cases hc; omega), ?_⟩);rw [hl];have := IN hd k.toNat;rw [Va, Vk (by omega)] at this;exact this

/-! a list whose cells are somebody else's -/

/-- a row of one's own with these cells, that may be appended to -/
def kJ (lo : Nat) (h : eW) (sz : Nat) (av : AV) (es : List (List AV)) : Prop :=
  (av = .aD ∧ es = []) ∨ ∃ n off cap row g, av = .aG n sz off es.length cap ∧ lo ≤ n ∧ h[n]? = some (some (.aA sz row g)) ∧ off + es.length ≤ row.length ∧ sZ cap es.length ∧
    (cap = none → off = 0) ∧ (∀ c, cap = some c → off + c ≤ row.length) ∧ (row.drop off).take es.length = es

theorem DW {lo sz bytes : Nat} {h0 h : eW} {av : AV} {es ys : List (List AV)} (ho : kJ lo h0 sz av es) (hx : eV eY h0 h) (a6 : lo ≤ h0.length)
    (hb : (es.length + ys.length) * bytes ≤ 2 ^ 46) : ∃ a4 h', ij h sz bytes av ys = some (a4, h') ∧ kJ lo h' sz a4 (es ++ ys) ∧ eV (λm => lo ≤ m) h h' := by
  have u : ∀ (hh : eW) (O : List (List AV)), lo ≤ hh.length → kJ lo (gM hh sz O).2 sz (gM hh sz O).1 O := by intro hh O hl;exact .inr ⟨hh.length, 0, none, O, true, rfl, hl, by simp [gM], by omega, (λc hc => by cases hc), (λ_ => rfl), (λc hc => by cases hc), by simp⟩
  rcases ho with ⟨rfl, rfl⟩ | ⟨n, off, cap, row, g, rfl, hn, I, Z, a3, a2, a1, he⟩
  · refine ⟨(gM h sz ys).1, (gM h sz ys).2, ?_, u h ys (UH a6 hx.1), eV.aF _ _ _⟩
    simp only [ij]; rw [Uv (by simpa using hb)]
  · have hnlt := (Up.1 I).1
    have E : h[n]? = some (some (.aA sz row g)) := hx.aA I;have M := (Up.1 E).1;simp only [ij, E];rw [Uv ⟨UF, UF, Z, hb⟩];cases cap with
    | none =>obtain rfl := a2 rfl;simp only [Vm];rw [Vy] at he;refine ⟨_, _, rfl, ?_, (eV.aI none (λ_ => hn)).aD (eV.aF (λm => lo ≤ m) _ _) (λ_ _ x => x) (λ_ _ x => x)⟩;rw [he];exact u _ _ (by simp; omega)
    | some c =>
      have hc1 := a3 c rfl;have a9 := a1 c rfl;cases c with
      | zero =>
        have a7 : es = [] := Uz (by omega);subst a7;simp only [UJ, Vm];by_cases hy0 : ys.length = 0
        · rw [Uv hy0]
          have a5 : ys = [] := Uz hy0;subst a5;exact ⟨_, _, rfl, .inr ⟨n, off, some 0, row, g, rfl, hn, E, Z, a3, a2, a1, he⟩, eV.aC _ _⟩
        · rw [Uw hy0]
          exact ⟨(gM h sz ys).1, (gM h sz ys).2, rfl, u h ys (by omega), eV.aF _ _ _⟩
      | succ c =>
        simp only;by_cases hcap : c + 1 < es.length + ys.length
        · rw [Uv hcap, he]
          exact ⟨_, _, rfl, u _ _ (by omega), eV.aF _ _ _⟩
        · rw [Uw hcap, Uv (by omega)]
          have W : (gZ row (off + es.length) ys).length = row.length := by simp [gZ]; omega
          refine ⟨_, _, rfl, .inr ⟨n, off, some (c + 1), gZ row (off + es.length) ys, g, by rw [Ut], hn, by rw [Ux M], by rw [W, Ut]; omega,
            (λc' U => by cases U; rw [Ut]; omega), (λe => by cases e), (λc' U => by cases U; rw [W]; exact a9), ?_⟩, eV.aI _ (λ_ => hn)⟩
          apply Vf;intro i;have a8 : ∀ i, i < es.length → row[off + i]? = es[i]? := λi hi => by
            have : es[i]? = ((row.drop off).take es.length)[i]? := by rw [he]
            rw [this, Vh hi, UR]
          simp only [Vp, UR, Ut, gZ, Vu, UD, Ut];rw [show min (off + es.length) row.length = off + es.length by omega];by_cases h1 : i < es.length
          · rw [Uv (by omega), Uv (by omega), Uv (by omega), Uv (by omega), Uv h1]
            exact a8 i h1
          · by_cases h2 : i < es.length + ys.length
            · rw [Uv h2, Uv (by omega), Uw (by omega), Uw h1]
              congr 1; omega
            · rw [Uw h2, Uw h1, U8 (by omega)]

mutual
theorem Rd.lt : ∀ (d : D) {F : Nat → Prop} {h : eW} (av : AV), Rd F h d av → Rd (λm => F m ∧ m < h.length) h d av
  | .aA _ _, _, _, _, hh => hh
  | .aE _, _, _, _, hh => hh
  | .aF _, _, _, _, hh => hh
  | .sl sz ds, F, h, _, hh => by
    simp only [Rd] at hh ⊢;obtain ⟨es, h1, h2⟩ := hh;refine ⟨es, ?_, fY.lt ds es h2⟩;rcases h1 with h1 | h1 | ⟨n, off, len, cap, row, g, h1, h2, h3, h4⟩
    · exact .inl h1
    · exact .inr (.inl h1)
    · exact .inr (.inr ⟨n, off, len, cap, row, g, h1, ⟨h2, (Up.1 h3).1⟩, h3, h4⟩)
theorem fm.lt : ∀ (ds : List D) {F : Nat → Prop} {h : eW} (l : List AV), fm F h ds l → fm (λm => F m ∧ m < h.length) h ds l
  | [], _, _, _, hh => hh
  | d :: ds, _, _, _, hh => by simp only [fm] at hh ⊢;obtain ⟨a, r, h1, h2, h3⟩ := hh;exact ⟨a, r, h1, Rd.lt d a h2, fm.lt ds r h3⟩
theorem fY.lt : ∀ (ds : List (List D)) {F : Nat → Prop} {h : eW} (l : List (List AV)), fY F h ds l → fY (λm => F m ∧ m < h.length) h ds l
  | [], _, _, _, hh => hh
  | d :: ds, _, _, _, hh => by simp only [fY] at hh ⊢;obtain ⟨a, r, h1, h2, h3⟩ := hh;exact ⟨a, r, h1, fm.lt d a h2, fY.lt ds r h3⟩
end

end Glb

/-
  A library of its own, for whatever program: the steps, in one.
-/
namespace Glb
open Go

theorem QQ (g : fB → AV) (h : eW) (x : fB) : gx g h (.aF x) = some (g x) := UE rfl rfl
theorem QP (g : fB → AV) (h : eW) (agg : Bool) (n : Nat) (x : fB) : gx g h (.aA agg n x) = ir h agg n (g x) := UE rfl rfl
theorem QH (g : fB → AV) (h : eW) (op : BinOp) (x y : fB) : gx g h (.aI op x y) = jx op (g x) (g y) := UE rfl rfl
theorem QO (g : fB → AV) (h : eW) (x : fB) : gx g h (.aN x) = ik (g x) := UE rfl rfl
theorem QT (g : fB → AV) (h : eW) (o : Nat) (x : fB) : gx g h (.aQ o x) = sP o (g x) := UE rfl rfl
theorem QN (g : fB → AV) (h : eW) (sz : Nat) (x i : fB) : gx g h (.aD sz x i) = jg sz (g x) (g i) := UE rfl rfl
def Eg (c a b : AV) : Option AV := match c with
  | .aE t => some (if t then a else b)
  | _ => none
theorem QV (g : fB → AV) (h : eW) (c a b : fB) : gx g h (.aR c a b) = Eg (g c) (g a) (g b) := UE rfl rfl
theorem Jt (t : Bool) (a b : AV) : Eg (.aE t) a b = some (if t then a else b) := UE rfl rfl
def Ef : AV → Option AV
  | .aE b => some (.aE !b)
  | _ => none
theorem QS (g : fB → AV) (h : eW) (x : fB) : gx g h (.aP x) = Ef (g x) := UE rfl rfl
theorem Jq (b : Bool) : Ef (.aE b) = some (.aE !b) := UE rfl rfl
def D7 (i : Nat) : AV → Option AV
  | .aI cs => cs[i]?
  | _ => none
theorem QL (g : fB → AV) (h : eW) (x : fB) (i : Nat) : gx g h (.aM x i) = D7 i (g x) := UE rfl rfl
theorem I9 (i : Nat) (cs : List AV) : D7 i (.aI cs) = cs[i]? := UE rfl rfl
def yY (op : BinOp) : AV → AV → Option AV
  | .aE a, .aE b => wG op a b
  | _, _ => none
theorem QG (g : fB → AV) (h : eW) (op : BinOp) (x y : fB) : gx g h (.aH op x y) = yY op (g x) (g y) := UE rfl rfl
theorem I3 (a b : Bool) : yY .eql (.aE a) (.aE b) = some (.aE (a == b)) := UE rfl rfl
theorem I4 (a b : Bool) : yY .neq (.aE a) (.aE b) = some (.aE (!(a == b))) := UE rfl rfl
def DX : AV → Option AV
  | .aC n sz i o => some (.aC n sz i o)
  | .aO t cs => some (.aO t cs)
  | .aT t v => some (.aT t v)
  | .aL f fs cs => some (.aL f fs cs)
  | _ => none
theorem QJ (g : fB → AV) (h : eW) (x : fB) : gx g h (.aK x) = DX (g x) := by simp only [gx]; generalize g x = v; cases v <;> rfl
def DY (k : IntKind) : AV → Option AV
  | .aA _ n => some (.aA k (k.wrap n))
  | _ => none
theorem QK (g : fB → AV) (h : eW) (k : IntKind) (x : fB) : gx g h (.aL k x) = DY k (g x) := UE rfl rfl
theorem DZ (k k' : IntKind) (n : Int) : DY k (.aA k' n) = some (.aA k (k.wrap n)) := UE rfl rfl
def Ee : AV → Option AV
  | .aA k n => some (.aA k (k.wrap (0 - n)))
  | _ => none
theorem QR (g : fB → AV) (h : eW) (x : fB) : gx g h (.aO x) = Ee (g x) := UE rfl rfl
theorem Jo (k : IntKind) (n : Int) : Ee (.aA k n) = some (.aA k (k.wrap (0 - n))) := UE rfl rfl
def nv (sz : Nat) (x : AV) : Option (Option Int) → Option (Option Int) → Option (Option Int) → Option AV
  | some lo, some hi, some mx => iB sz x lo hi mx
  | _, _, _ => none
theorem Hj (g : fB → AV) (h : eW) (sz : Nat) (x : fB) (lo hi mx : Option fB) : gx g h (.aS sz x lo hi mx) = nv sz (g x) (lV g lo) (lV g hi) (lV g mx) := by simp only [gx, nv]; generalize lV g lo = a; generalize lV g hi = b; generalize lV g mx = c; cases a <;> cases b <;> cases c <;> rfl
theorem JF (sz : Nat) (x : AV) (lo hi mx : Option Int) : nv sz x (some lo) (some hi) (some mx) = iB sz x lo hi mx := UE rfl rfl
def Cl : AV → Option (Option Int)
  | .aA _ n => some (some n)
  | _ => none
theorem OZ (g : fB → AV) (x : fB) : lV g (some x) = Cl (g x) := by simp only [lV, Cl]; generalize g x = v; cases v <;> rfl
theorem OX (k : IntKind) (n : Int) : Cl (.aA k n) = some (some n) := UE rfl rfl
theorem OY (g : fB → AV) : lV g none = some none := UE rfl rfl
theorem I8 (a b : Int) : jx .add (.aA .i64 a) (.aA .i64 b) = some (.aA .i64 (IntKind.i64.wrap (a + b))) := UE rfl rfl
theorem Sx (a b : Int) : jx .sub (.aA .i64 a) (.aA .i64 b) = some (.aA .i64 (IntKind.i64.wrap (a - b))) := UE rfl rfl
theorem OC (a b : Int) : jx .mul (.aA .i64 a) (.aA .i64 b) = some (.aA .i64 (IntKind.i64.wrap (a * b))) := UE rfl rfl
theorem Ld (k : IntKind) (a b : Int) : jx .lss (.aA k a) (.aA k b) = some (.aE (decide (a < b))) := by simp [jx, pI]
theorem Lc (k : IntKind) (a b : Int) : jx .leq (.aA k a) (.aA k b) = some (.aE (decide (a ≤ b))) := by simp [jx, pI]
theorem Lb (k : IntKind) (a b : Int) : jx .gtr (.aA k a) (.aA k b) = some (.aE (decide (b < a))) := by simp [jx, pI]
theorem K_ (k : IntKind) (a b : Int) : jx .geq (.aA k a) (.aA k b) = some (.aE (decide (b ≤ a))) := by simp [jx, pI]
theorem K9 (k : IntKind) (a b : Int) : jx .eql (.aA k a) (.aA k b) = some (.aE (decide (a = b))) := by simp [jx, pI]; rfl
theorem Lf (k : IntKind) (a b : Int) : jx .neq (.aA k a) (.aA k b) = some (.aE (!decide (a = b))) := by simp [jx, pI, bne]; rfl
theorem gi {x : Int} (h : -9223372036854775808 ≤ x ∧ x ≤ 9223372036854775807) : IntKind.i64.wrap x = x := by simp only [IntKind.wrap, IntKind.bits, IntKind.signed];simp;split <;> omega
theorem CN (n : Nat) (cs : List AV) : pQ true n cs = if n ≤ cs.length then some (.aF (cs.take n)) else none := UE rfl rfl
theorem xN (n : Nat) (c : AV) (cs : List AV) : pQ false n (c :: cs) = some c := UE rfl rfl
theorem QA (st : St) : lj st [] = some [] := UE rfl rfl
theorem QC (st : St) (x : fB) (r : List kh) : lj st (.aC x :: r) = (lj st r).map (st.aA x :: ·) := UE rfl rfl
theorem OV (x : AV) : pM [x] = x := UE rfl rfl
theorem OU : pM [] = .aI [] := UE rfl rfl
theorem OW (x y : AV) (l : List AV) : pM (x :: y :: l) = .aI (x :: y :: l) := UE rfl rfl

theorem KT (k : IntKind) (n : Int) : (AV.aA k n).aK = some [.aA k n] := UE rfl rfl
theorem KS (b : Bool) : (AV.aE b).aK = some [.aE b] := UE rfl rfl
theorem KX (s : ByteArray) : (AV.aQ s).aK = some [.aQ s] := UE rfl rfl
theorem KU : AV.aD.aK = some [.aD] := UE rfl rfl
theorem KO (cs : List AV) : (AV.aF cs).aK = some cs := UE rfl rfl
theorem KW (n sz off len : Nat) (cap : Option Nat) : (AV.aG n sz off len cap).aK = some [.aG n sz off len cap] := UE rfl rfl
theorem KY (t : Nat) (c : Bool) (sz : Nat) (es : List (List AV)) : (AV.aM t c sz es).aK = some [.aM t c sz es] := UE rfl rfl
theorem KV (n sz i o : Nat) : (AV.aC n sz i o).aK = some [.aC n sz i o] := UE rfl rfl
theorem gC {a : AV} (h : a.aH = true) : a.aK = some [a] := by cases a <;> first | rfl | simp_all [AV.aK, AV.aH]
theorem RR (k : IntKind) (n : Int) : (AV.aA k n).aH = true := UE rfl rfl
theorem RQ (b : Bool) : (AV.aE b).aH = true := UE rfl rfl
theorem RW (s : ByteArray) : (AV.aQ s).aH = true := UE rfl rfl
theorem RT : AV.aD.aH = true := UE rfl rfl
theorem RV (n sz off len : Nat) (cap : Option Nat) : (AV.aG n sz off len cap).aH = true := UE rfl rfl
theorem RY (t : Nat) (c : Bool) (sz : Nat) (es : List (List AV)) : (AV.aM t c sz es).aH = true := UE rfl rfl
theorem RU (n sz i o : Nat) : (AV.aC n sz i o).aH = true := UE rfl rfl
theorem Jc (cs : List AV) : oI cs [] = some cs := UE rfl rfl
theorem Jb (cs : List AV) (o n : Nat) (x : AV) (r : List (Nat × Nat × AV)) :
    oI cs ((o, n, x) :: r) = x.aK.bind λl => if l.length = n ∧ o + n ≤ cs.length then oI (jS cs o l) r else none := by
  simp only [oI]; generalize x.aK = q; cases q <;> rfl
theorem Sd (cs : List AV) (o : Nat) : jS cs o [] = cs := UE rfl rfl
theorem Sc (cs : List AV) (o : Nat) (c : AV) (r : List AV) : jS cs o (c :: r) = jS (cs.set o c) (o + 1) r := UE rfl rfl
theorem QI (g : fB → AV) (h : eW) (z : List AV) (ps : List (Nat × Nat × fB)) : gx g h (.aJ z ps) = (oI z (ps.map λp => (p.1, p.2.1, g p.2.2))).map .aF := UE rfl rfl
theorem KI (sz : Nat) : mE sz [] = some [] := UE rfl rfl
theorem KH (sz : Nat) (x : AV) (r : List AV) :
    mE sz (x :: r) = x.aK.bind λcs => (mE sz r).bind λes => if cs.length = sz ∧ cs.all AV.aH = true then some (cs :: es) else none := by
  simp only [mE]; cases x.aK <;> cases mE sz r <;> rfl
theorem N9 (g : fB → AV) (nm : Nat) (cs : List AV) : jy g nm (.mk cs) = some (.aC nm cs.length 0 0, .aA cs.length [cs] false) := UE rfl rfl
theorem N7 (g : fB → AV) (nm : Nat) (x : fB) :
    jy g nm (.aD x) = (g x).aK.bind λcs => if cs.all AV.aH = true then some (.aC nm cs.length 0 0, .aA cs.length [cs] false) else none := by
  simp only [jy]; cases (g x).aK <;> rfl
theorem N8 (g : fB → AV) (nm sz : Nat) (xs : List fB) :
    jy g nm (.aA sz xs) = (mE sz (xs.map g)).map λes => (.aG nm sz 0 xs.length (some xs.length), .aA sz es false) := by
  simp only [jy]; cases mE sz (xs.map g) <;> rfl
theorem MM (g : fB → AV) (h : eW) (cs : List AV) : jX g h (.mk cs) = some (.aC h.length cs.length 0 0, h ++ [some (.aA cs.length [cs] false)]) := UE rfl rfl
theorem MJ (g : fB → AV) (h : eW) (x : fB) :
    jX g h (.aD x) = (g x).aK.bind λcs => if cs.all AV.aH = true then some (.aC h.length cs.length 0 0, h ++ [some (.aA cs.length [cs] false)]) else none := by
  simp only [jX, jy]; generalize (g x).aK = q; cases q with
  | none => rfl
  | some cs => simp only [VE]; by_cases e : cs.all AV.aH = true <;> simp [e]
theorem MK (g : fB → AV) (h : eW) (sz : Nat) (xs : List fB) :
    jX g h (.aA sz xs) = (mE sz (xs.map g)).map λes => (.aG h.length sz 0 xs.length (some xs.length), h ++ [some (.aA sz es false)]) := by
  simp only [jX, jy]; generalize mE sz (xs.map g) = q; cases q <;> rfl
theorem MN (g : fB → AV) (h : eW) (n : Nat) (a x : fB) : jX g h (.aE n a x) = (pD h n (g a) (g x)).map λh' => (.aR, h') := UE rfl rfl
theorem MH (g : fB → AV) (h : eW) (sz bytes : Nat) (x y : fB) : jX g h (.aC sz bytes x y) = oG h sz bytes (g x) (g y) := UE rfl rfl
theorem iq {h : eW} {sz : Nat} {y : AV} {ys : List (List AV)} (hy : iK h sz y = some ys) (bytes : Nat) (x : AV) : oG h sz bytes x y = ij h sz bytes x ys := by simp only [oG, hy]
/-- the elements of a new row -/
theorem lR (h : eW) (sz : Nat) (es : List (List AV)) (g : Bool) (cap : Option Nat) {len : Nat} (hl : len = es.length) : iK (h ++ [some (.aA sz es g)]) sz (.aG h.length sz 0 len cap) = some es := by subst hl; simp [iK]
theorem Hv : ∀ (r a : List AV) (cs : List AV), cs.length = r.length → jS (a ++ cs) a.length r = a ++ r := by
  intro r;induction r with
  | nil => intro a cs h; simp at h; subst h; rfl
  | cons c r ih =>
    intro a cs h;cases cs with
    | nil => simp at h
    | cons d cs =>
      simp only [jS];have : (a ++ d :: cs).set a.length c = (a ++ [c]) ++ cs := by simp
      rw [this];have := ih (a ++ [c]) cs (by simpa using h);simpa using this

/-- an element written over -/
theorem wE {h : eW} {n sz j : Nat} {row : List (List AV)} {g : Bool} {cs cs' : List AV} {x : AV} (h7 : h[n]? = some (some (.aA sz row g))) (h8 : row[j]? = some cs)
    (hc : x.aK = some cs') (hl : cs.length = cs'.length) (u : cs'.length = sz) (hs : cs'.all AV.aH = true) :
    pD h sz (.aC n sz j 0) x = some (h.set n (some (.aA sz (row.set j cs') g))) := by
  have hj := (Up.1 h8).1;simp only [pD, h7, hc];rw [Uv ⟨UF, u, by omega, hj, hs⟩];have : row.modify j (λx => jS x 0 cs') = row.set j cs' := by
    apply Vf;intro i;rw [We, VJ];by_cases e : j = i
    · subst e
      have := Hv cs' [] cs hl;simp only [VH, UJ] at this;obtain ⟨_, rfl⟩ := Up.1 h8;simp [hj, this]
    · simp [e]
  rw [this]

def H_ (k : IntKind) (a b : Int) : Int := k.wrap (BitVec.ofInt k.bits a ^^^ BitVec.ofInt k.bits b).toNat
theorem J4 (k : IntKind) (a b : Int) : jx .xor (.aA k a) (.aA k b) = some (.aA k (H_ k a b)) := by simp [jx, pI, H_]

/-! blocks at the end of the heap -/

def xJ (b : Option (Option e_)) (sz i : Nat) : Option (List AV) :=
  match b with
  | some (some (.aA sz' es _)) => if sz = sz' then es[i]? else none
  | _ => none
theorem Hq (sz i : Nat) (es : List (List AV)) (g : Bool) : xJ (some (some (.aA sz es g))) sz i = es[i]? := by simp [xJ]
theorem Eb (h : eW) (agg : Bool) (n m sz i o : Nat) : ir h agg n (.aC m sz i o) = (xJ h[m]? sz i).bind λe => pQ agg n (e.drop o) := by
  simp only [ir, xJ];split
  · rename_i u es g hm
    simp only [hm];split <;> rfl
  · rename_i hm
    split
    · rename_i u es g E; exact absurd E (hm _ _ _)
    · rfl
theorem I_ (o m sz i o' : Nat) : sP o (.aC m sz i o') = some (.aC m sz i (o' + o)) := UE rfl rfl
theorem I6 (m sz i o : Nat) : DX (.aC m sz i o) = some (.aC m sz i o) := UE rfl rfl
def CL (h : eW) (m n sz i o : Nat) (cs : List AV) (b : Option (Option e_)) : Option eW :=
  match b with
  | some (some (.aA sz' es g)) => if sz = sz' ∧ cs.length = n ∧ o + n ≤ sz ∧ i < es.length ∧ cs.all AV.aH = true then some (h.set m (some (.aA sz (es.modify i (jS · o cs)) g))) else none
  | _ => none
theorem JH (h : eW) (n m sz i o : Nat) (x : AV) : pD h n (.aC m sz i o) x = x.aK.bind λcs => CL h m n sz i o cs h[m]? := by
  simp only [pD];generalize hb : h[m]? = b;generalize hc : x.aK = c;cases c with
  | none => cases b with
    | none => rfl
    | some b => cases b with
      | none => rfl
      | some b => cases b <;> rfl
  | some cs => cases b with
    | none => rfl
    | some b => cases b with
      | none => rfl
      | some b => cases b <;> rfl
theorem Sv (h : eW) (m n sz i o : Nat) (cs : List AV) (es : List (List AV)) (g : Bool) :
    CL h m n sz i o cs (some (some (.aA sz es g))) = if cs.length = n ∧ o + n ≤ sz ∧ i < es.length ∧ cs.all AV.aH = true then some (h.set m (some (.aA sz (es.modify i (jS · o cs)) g))) else none := by
  simp [CL]
theorem Ot (e : List AV) (f : List AV → List AV) : [e].modify 0 f = [f e] := UE rfl rfl
theorem gH (h : eW) (x : Option e_) : (h ++ [x])[h.length]? = some x := by rw [show h ++ [x] = h ++ [x] by simp, show h.length = h.length + 0 from rfl, U1 (VG _ _), Wf]; rfl
theorem jJ (h : eW) (x y : Option e_) : (h ++ [x] ++ [y])[h.length]? = some x := by rw [show h ++ [x] ++ [y] = h ++ [x, y] by simp, show h.length = h.length + 0 from rfl, U1 (VG _ _), Wf]; rfl
theorem iO (h : eW) (x y : Option e_) : (h ++ [x] ++ [y])[h.length + 1]? = some y := by rw [show h ++ [x] ++ [y] = h ++ [x, y] by simp, show h.length + 1 = h.length + 1 from rfl, U1 (VG _ _), Wf]; rfl
theorem oJ (h : eW) (x y z : Option e_) : (h ++ [x] ++ [y] ++ [z])[h.length]? = some x := by rw [show h ++ [x] ++ [y] ++ [z] = h ++ [x, y, z] by simp, show h.length = h.length + 0 from rfl, U1 (VG _ _), Wf]; rfl
theorem pF (h : eW) (x y z : Option e_) : (h ++ [x] ++ [y] ++ [z])[h.length + 1]? = some y := by rw [show h ++ [x] ++ [y] ++ [z] = h ++ [x, y, z] by simp, show h.length + 1 = h.length + 1 from rfl, U1 (VG _ _), Wf]; rfl
theorem rk (h : eW) (x y z : Option e_) : (h ++ [x] ++ [y] ++ [z])[h.length + 1 + 1]? = some z := by rw [show h ++ [x] ++ [y] ++ [z] = h ++ [x, y, z] by simp, show h.length + 1 + 1 = h.length + 2 from rfl, U1 (VG _ _), Wf]; rfl
theorem J_ (h : eW) (x : Option e_) : (h ++ [x])[h.length]? = some x := by simp
theorem xw (h : eW) (x : Option e_) : (h ++ [x]).length = h.length + 1 := by simp
theorem Qz (st : St) (x : fB) (agg : Bool) (n : Nat) (r : List kh) : lj st (.aA x agg n :: r) = (ir st.h agg n (st.aA x)).bind λv => (lj st r).map (v :: ·) := by simp only [lj]; cases ir st.h agg n (st.aA x) <;> cases lj st r <;> rfl
theorem eV.b1 {h : eW} (x : Option e_) : eV eY h (h ++ [x]) := eV.aF _ _ _
theorem eV.b2 {h : eW} (x y : Option e_) : eV eY h (h ++ [x] ++ [y]) := (eV.aF eY h [x]).tr (eV.aF _ _ _)
theorem eV.b3 {h : eW} (x y z : Option e_) : eV eY h (h ++ [x] ++ [y] ++ [z]) := (eV.b2 x y).tr (eV.aF _ _ _)
theorem eV.b4 {h : eW} (x y z u : Option e_) : eV eY h (h ++ [x] ++ [y] ++ [z] ++ [u]) := (eV.b3 x y z).tr (eV.aF _ _ _)
theorem eV.aM {h h' : eW} (e : eV eY h h') (x : Option e_) : eV eY h (h' ++ [x]) := e.tr (eV.aF _ _ _)

theorem Rd.aA {F h} : ∀ {d : D} {a : AV}, Rd F h d a → a.aH = true := by
  intro d a hh;cases d with
  | aA k n => simp only [Rd] at hh; subst hh; rfl
  | aE b => simp only [Rd] at hh; subst hh; rfl
  | aF s => simp only [Rd] at hh; subst hh; rfl
  | sl sz ds =>simp only [Rd] at hh;obtain ⟨es, (⟨rfl, _⟩ | ⟨t, c, rfl⟩ | ⟨n, off, len, cap, row, g, rfl, _⟩), _⟩ := hh <;> rfl
theorem Qv (x : Option e_) : List.replicate 1 x = [x] := UE rfl rfl
theorem Qw (h : eW) (x : Option e_) : h ++ List.replicate 2 x = h ++ [x] ++ [x] := by simp [List.replicate]
theorem Qx (h : eW) (x : Option e_) : h ++ List.replicate 3 x = h ++ [x] ++ [x] ++ [x] := by simp [List.replicate]
theorem Qy (h : eW) (x : Option e_) : h ++ List.replicate 4 x = h ++ [x] ++ [x] ++ [x] ++ [x] := by simp [List.replicate]
theorem Of (dep : Nat → Nat → Bool) (i j n : Nat) (b : e_) : lN dep i [(j, n, b)] = if dep i j = true then [] else [(j, n, b)] := by simp only [lN, List.filter_cons, List.filter_nil]; cases dep i j <;> rfl
theorem jK (dep : Nat → Nat → Bool) (i j n : Nat) (b : e_) (r : List (Nat × Nat × e_)) : lN dep i ((j, n, b) :: r) = if dep i j = true then lN dep i r else (j, n, b) :: lN dep i r := by simp only [lN, List.filter_cons]; cases dep i j <;> rfl
theorem Oh (masks : List Nat) (i j : Nat) : Cc masks i j = decide (masks.getD i 0 / 2 ^ j % 2 = 1) := by simp only [Cc, Nat.testBit_eq_decide_div_mod_eq]
theorem Mc (dep : Nat → Nat → Bool) (lo i : Nat) (l : List (Nat × Nat × e_)) (h : eW) :
    mF dep lo 1 i l h = ((l.any λx => dep i x.1 && x.2.1 == lo) || mY h[lo]?) := by simp [mF]
theorem BP (dep : Nat → Nat → Bool) (lo i : Nat) (l : List (Nat × Nat × e_)) (h : eW) :
    mF dep lo 2 i l h = (((l.any λx => dep i x.1 && x.2.1 == lo) || mY h[lo]?) && ((l.any λx => dep i x.1 && x.2.1 == lo + 1) || mY h[lo + 1]?)) := by
  simp [mF, List.range_succ]
theorem Me (dep : Nat → Nat → Bool) (lo i : Nat) (l : List (Nat × Nat × e_)) (h : eW) : mF dep lo 0 i l h = true := by simp [mF]
theorem Nc : mY (some none) = true := UE rfl rfl
theorem rP {h h' : eW} {p : AV} {cs : List AV} (hp : jA h p = some cs) (e : eV eY h h') : jA h' p = some cs := by
  cases p with
  | aC m sz i o => exact Pg (F := λ_ => True) (e.aE _) UF hp
  | aO t cs' => exact hp
  | _ => simp [jA] at hp
theorem Gs {h : eW} {p : AV} {cs : List AV} (hp : jA h p = some cs) (k o : Nat) : gW h.length k (pO o p) = true := by
  cases p with
  | aC m sz i o' =>
    simp only [jA] at hp;split at hp
    · rename_i hm
      have := (Up.1 hm).1;simp [pO, gW, this]
    · cases hp
  | aO t cs' => rfl
  | _ => simp [jA] at hp
theorem Gt {h : eW} {p : AV} {cs : List AV} (hp : jA h p = some cs) (k : Nat) : gW h.length k p = true := by have := Gs hp k 0;cases p <;> simp_all [pO, gW]
theorem qc {h : eW} {m sz : Nat} {es : List (List AV)} {g : Bool} (hb : h[m]? = some (some (.aA sz es g))) (cap : Option Nat) {len : Nat} (hl : len = es.length) : iK h sz (.aG m sz 0 len cap) = some es := by subst hl; simp [iK, hb]
theorem eV.aJ {F : Nat → Prop} {h h1 h2 : eW} (e : eV eY h h1) (e' : eV F h1 h2) (hF : ∀ m, m < h.length → ¬ F m) : eV eY h h2 := e.aD e' (λ_ _ x => x) (λm hm u => hF m hm u)
/-- cells that are numbers are one's own -/
theorem O6 {F F' : Nat → Prop} {h h' : eW} {k : IntKind} : ∀ {l : List Int} {ys : List (List AV)}, fY F h (l.map λn => [.aA k n]) ys → fG (l.map λn => [.aA k n]) F' h' ys := by
  intro l;induction l with
  | nil => intro ys hh; exact hh
  | cons n l ih =>intro ys hh;simp only [U5, fY, fm, Rd] at hh;obtain ⟨_, r, rfl, ⟨_, _, rfl, rfl, rfl⟩, h2⟩ := hh;simp only [U5, fG, fI, eX];exact ⟨_, _, rfl, ⟨_, _, rfl, rfl, rfl⟩, ih h2⟩
theorem eV.aH {h h2 : eW} {n : Nat} (e : eV eY h h2) (hn : h.length ≤ n) (x : Option e_) : eV eY h (h2.set n x) :=
  e.aD (eV.aI (F := λm => h.length ≤ m) x (λ_ => hn)) (λ_ _ x => x) (λm hm hm' => by omega)
theorem Rd.up {F h h' d a} (hh : Rd F h d a) (e : eV eY h h') : Rd F h' d a := Rd.aD (λ_ x => x) (e.aE F) _ _ hh
theorem fm.up {F h h' d a} (hh : fm F h d a) (e : eV eY h h') : fm F h' d a := fm.aA (λ_ x => x) (e.aE F) _ _ hh
theorem eX.up {F h h'} {d : D} {a} (hh : eX d F h a) (e : eV eY h h') : eX d F h' a := eX.aC d (λ_ x => x) (e.aE F) _ hh
theorem eX.aA {F h} {d : D} {a : AV} (hh : eX d F h a) : a.aH = true := (eX.rd d (F' := F) (λ_ x => x) a hh).aA

/-- lower, of blocks -/
def uU (a b : Nat) : Prop := a < b
theorem MQ (n m : Nat) : uU n (m + 1) = (n = m ∨ uU n m) := by unfold uU; exact propext ⟨λ_ => by omega, λ_ => by omega⟩
theorem Ms {H j : eW} {n : Nat} (e : uU n H.length) : (H ++ j)[n]? = H[n]? := UZ e
theorem Mq {H : eW} {x : Option e_} {n : Nat} (e : n = H.length) : (H ++ [x])[n]? = some x := by subst e; simp
theorem Sf {H j : eW} {y : Option e_} {n : Nat} (e : uU n H.length) : (H ++ j).set n y = H.set n y ++ j := List.set_append_left _ _ e
theorem Se {H : eW} {x y : Option e_} {n : Nat} (e : n = H.length) : (H ++ [x]).set n y = H ++ [y] := by subst e; simp
attribute [go_sem] List.replicate_zero Vo U5 Vl VP VH TL TK TI TJ tX TF TG TH qz NA NC Nh Ng Ni BY Nt Nr Nq Ns CV TE TD TA TB TC OO OM Nw Nv Nx Nu FT FU Mr Mt Mp Oc h_ fj Ud Ua Uc Ub Ue Py Px Pz TV TU TT JN JM Nn LW LV Tq To Tu S9 Tc S8 S7 Tr Ts Tp Te Tv Tt Ti Tf Tj Tw Tm Td Tx Tl Tk Th S_ Tb Tg ON Np No Nm OJ Lp Lq Lo SZ Jh Jg TZ TW TY TX T_ QQ Hj JF OY OZ OX QP QH QO QT QN QV Jt QS Jq QL I9 QG I3 I4 QJ QK DZ QR Jo I8 Sx OC Ld Lc Lb K_ K9 Lf xN QA QC OV OU OW KT KS KX KU KO KW KY KV RR RQ RW RT RV RY RU Jc Jb Sd Sc QI KI KH N9 N7 N8 MM MJ MK MN MH J4 Hq Eb I_ I6 JH Sv Ot gH jJ iO oJ pF rk xw Qz VJ Nat.left_eq_add Nat.zero_lt_one Nat.lt_add_one Nat.add_eq_left Nat.add_left_cancel_iff Nat.add_right_cancel_iff Qv Qw Qx Qy Of Oh Mc BP Nc Oe MO Sl Nl V_ List.getD_cons_zero List.getD_cons_succ List.any_nil List.any_cons Bool.false_or Bool.or_false WO Bool.and_true Bool.true_or beq_self_eq_true true_or or_true Me CN List.drop_succ_cons Vy Wv List.take_zero UG UJ List.set_cons_zero List.set_cons_succ UY Vr VE and_true true_and and_self Vm List.all_cons List.all_nil Bool.and_true Bool.and_self UQ Vd U2 Vc Wo MQ Ms Mq Sf Se n6 nG List.contains_cons List.contains_nil Nat.reduceBEq WK

end Glb

/-
  A library of its own, for whatever program: values of a shape in rows of one's own, whatever numbers they hold, and changes that leave all shapes az they are.
-/
namespace Glb
open Go

inductive Ty where
  | aA (k : IntKind)
  | aC
  | aD
  | sl (sz : Nat) (ts : List Ty)

mutual
def IH : D → Ty → Prop
  | .aA k _, t => t = .aA k
  | .aE _, t => t = .aC
  | .aF _, t => t = .aD
  | .sl sz ds, t => ∃ ts, t = .sl sz ts ∧ ds.length ≤ 2 ^ 40 ∧ Dt ds ts
def Ds : List D → List Ty → Prop
  | [], ts => ts = []
  | d :: ds, l => ∃ t ts, l = t :: ts ∧ IH d t ∧ Ds ds ts
def Dt : List (List D) → List Ty → Prop
  | [], _ => True
  | e :: ds, ts => Ds e ts ∧ Dt ds ts
end

section
variable {h : eW} {n sz i : Nat} {row : List (List AV)} {g : Bool} {cs cs' : List AV}

end

/-- how many elements a slice has -/
def Uo : AV → Nat
  | .aG _ _ _ len _ => len
  | _ => 0

end Glb

/-
  A library of its own, for whatever program: a closed call that was run answers the same in whatever state, and leaves it az it is.
-/
namespace Glb
open Go

end Glb

/-
  A library of its own, for whatever program: arguments that read az plain data are data in memory that stays.
-/
namespace Glb
open Go

mutual
/-- data, in memory that stays -/
def D.av : D → AV
  | .aA k n => .aA k n
  | .aE b => .aE b
  | .aF s => .aQ s
  | .sl sz es => .aM 0 false sz (D.aD es)
def D.aC : List D → List AV
  | [] => []
  | d :: r => D.av d :: D.aC r
def D.aD : List (List D) → List (List AV)
  | [] => []
  | e :: r => D.aC e :: D.aD r
end

theorem ri : ∀ l : List D, D.aC l = l.map D.av
  | [] => rfl
  | d :: r => by simp only [D.aC, U5, ri r]
theorem sQ : ∀ l : List (List D), D.aD l = l.map D.aC
  | [] => rfl
  | d :: r => by simp only [D.aD, U5, sQ r]

theorem lS (d : D) : d.av.aH = true := by cases d <;> simp only [D.av] <;> rfl

mutual
theorem vv (F : Nat → Prop) (h : eW) : ∀ d : D, Rd F h d d.av
  | .aA k n => by simp only [Rd, D.av]
  | .aE b => by simp only [Rd, D.av]
  | .aF s => by simp only [Rd, D.av]
  | .sl sz es => by simp only [Rd, D.av];exact ⟨_, .inr (.inl ⟨0, false, rfl⟩), G5 F h es⟩
theorem rQ (F : Nat → Prop) (h : eW) : ∀ l : List D, fm F h l (D.aC l)
  | [] => by simp only [fm, D.aC]
  | d :: r => by simp only [fm, D.aC]; exact ⟨_, _, rfl, vv F h d, rQ F h r⟩
theorem G5 (F : Nat → Prop) (h : eW) : ∀ l : List (List D), fY F h l (D.aD l)
  | [] => by simp only [fY, D.aD]
  | d :: r => by simp only [fY, D.aD]; exact ⟨_, _, rfl, rQ F h d, G5 F h r⟩
end

def tV (P : Program) (g : TypeId → Option (List Ty)) : List Field → Nat → Option (List Ty)
  | [], _ => some []
  | f :: r, o => match g f.type with
    | some ts => if f.offset = o ∧ P.cellsOf f.type = ts.length then (tV P g r (o + ts.length)).map (ts ++ ·) else none
    | none => none

/-- the cells of a type, where it is one of plain data -/
def oj (P : Program) : Nat → TypeId → Option (List Ty)
  | 0, _ => none
  | n + 1, t =>
    match P.underlying t with
    | some .bool => some [.aC]
    | some (.int k) => some [.aA k]
    | some .string => some [.aD]
    | some (.slice e) => match oj P n e with
      | some (x :: ts) => if P.cellsOf e = (x :: ts).length then some [.sl (P.cellsOf e) (x :: ts)] else none
      | _ => none
    | some (.struct fs) => match tV P (oj P n) fs.toList 0 with
      | some ts => if P.cellsOf t = ts.length then some ts else none
      | none => none
    | _ => none

mutual
def lA : D → Ty → Prop
  | .aA k n, t => t = .aA k ∧ (Lit.int k n).wf = true
  | .aE _, t => t = .aC
  | .aF _, t => t = .aD
  | .sl sz ds, t => ∃ ts, t = .sl sz ts ∧ sw ds ts
def iY : List D → List Ty → Prop
  | [], ts => ts = []
  | d :: ds, l => ∃ t ts, l = t :: ts ∧ lA d t ∧ iY ds ts
def sw : List (List D) → List Ty → Prop
  | [], _ => True
  | e :: ds, ts => iY e ts ∧ sw ds ts
end

theorem Dk : ∀ {ds : List D} {ts : List Ty}, iY ds ts → ds.length = ts.length := by
  intro ds;induction ds with
  | nil => intro ts h; simp only [iY] at h; subst h; rfl
  | cons d ds ih => intro ts h; simp only [iY] at h; obtain ⟨t, ts', rfl, _, h⟩ := h; simp [ih h]

theorem Iz : ∀ {ds u : List D} {ts e : List Ty}, iY ds ts → iY u e → iY (ds ++ u) (ts ++ e) := by
  intro ds;induction ds with
  | nil => intro u ts e h h'; simp only [iY] at h; subst h; exact h'
  | cons d ds ih => intro u ts e h h'; simp only [iY] at h; obtain ⟨t, ts1, rfl, h1, h2⟩ := h; simp only [Wo, iY]; exact ⟨t, _, rfl, h1, ih h2 h'⟩

theorem Iy : ∀ {ds : List (List D)} {ts : List Ty}, (∀ d ∈ ds, iY d ts) → sw ds ts := by
  intro ds;induction ds with
  | nil => intro ts _; trivial
  | cons e ds ih => intro ts h; exact ⟨h e (by simp), ih λd hd => h d (by simp [hd])⟩

/-- all that is there stays -/
def Gh.aJ (w : World) : Gh := { N := 0, aA := λ_ => none, aE := λ_ => False, aD := λ_ => False, aF := λ_ _ => False, S := λb => b < w.heap.size }

theorem fO.bC (w : World) : fO (Gh.aJ w) w [] where
  aA := rfl
  aD n := ⟨λh => h.elim, fun ⟨⟨_, _, _, h⟩, _⟩ => by simp at h⟩
  aE _ _ h := h.elim
  inj _ _ _ h := h.elim
  aF _ _ _ h := h.elim
  aG _ _ h := h.elim
  aL _ _ _ h := h.elim
  aM _ _ h := h.elim
  aH _ _ h := h.elim
  aJ _ h := h
  aC _ _ _ _ _ h := by simp at h
  aI _ _ _ _ h := by simp at h
  aK _ h := h.elim

theorem KF {w : World} {a : Addr} {v : Value} (h : w.cell? a = some v) : a.block < w.heap.size := by
  simp only [World.cell?] at h;split at h
  · rename_i hh; exact (VA.1 hh).1
  · cases h

theorem KG {w : World} {a : Addr} {v : Value} (h : w.cell? a = some v) : a.spot = none := by
  simp only [World.cell?] at h;split at h
  · split at h
    · cases h
    · rename_i hs; simpa using hs
  · cases h

section
variable {H : Type} {enc : TypeId × Value → H} {P : Program} {w : World} {held : Bool}

theorem wW {a : Addr} {n : Nat} {cs : List Value} (h : w.cells? 0 a n = some cs) : cs.length = n ∧ ∀ j, j < n → w.cell? (a.add j) = cs[j]? := by simp only [World.cells?, UK, Vm] at h;have hl := mapM_some_length h;refine ⟨by simpa using hl, λj hj => ?_⟩;exact mapM_some_get h j j (by simp [hj])

theorem SN : ∀ (fuel n : Nat) (t : TypeId) (cs : List Value) (x : DataW H × List MemPlace) (ts : List Ty), DataW.trod enc P w 0 (fun _ => true) held fuel t cs = some x → oj P n t = some ts →
    ∃ ds : List D, iY ds ts ∧ ds.length = cs.length ∧ ∀ (j : Nat) (d : D) (v : Value), ds[j]? = some d → cs[j]? = some v → V (Gh.aJ w) w d.av v := by
  intro fuel;induction fuel with
  | zero => intro n t cs x ts h _; simp [DataW.trod] at h
  | succ m ih =>
    intro n t cs x ts h ht;cases n with
    | zero => simp [oj] at ht
    | succ n =>
      simp only [oj] at ht;split at ht
      · rename_i hu
        cases ht;unfold DataW.trod at h;rw [hu] at h;split at h <;> simp_all;rename_i b;refine ⟨[.aE b], by simp [iY, lA], rfl, λj d v hd hv => ?_⟩;cases j <;> simp at hd hv;subst hd hv; simp only [D.av]; exact .aF b
      · rename_i k hu
        cases ht;unfold DataW.trod at h;rw [hu] at h;split at h <;> simp_all;rename_i z heq;obtain ⟨⟨hk, hw⟩, _⟩ := h;subst heq;subst hk;refine ⟨[.aA _ z], by simp only [iY, lA]; exact ⟨_, _, rfl, ⟨rfl, hw⟩, rfl⟩, rfl, λj d v hd hv => ?_⟩;cases j <;> simp at hd hv;subst hd hv; simp only [D.av]; exact .aC _ _
      · rename_i hu
        cases ht;unfold DataW.trod at h;rw [hu] at h;split at h <;> simp_all;rename_i s;refine ⟨[.aF s], by simp [iY, lA], rfl, λj d v hd hv => ?_⟩;cases j <;> simp at hd hv;subst hd hv; simp only [D.av]; exact .aQ s
      · rename_i e hu
        split at ht
        · rename_i x0 ts0 hte
          split at ht
          · rename_i hsz
            cases ht;rcases DataW.trod_slice hu h with ⟨rfl, _⟩ | ⟨a, len, cap, elems, rest, n', hfe, rfl, _, _, hlc, _, hel, hget, hrest, _⟩
            · refine ⟨[.sl (P.cellsOf e) []], by simp only [iY, lA]; exact ⟨_, _, rfl, ⟨_, rfl, UF⟩, rfl⟩, rfl, λj d v hd hv => ?_⟩
              cases j <;> simp at hd hv;subst hd hv; simp only [D.av, D.aD]; exact .aG _ _ _
            · have hn' : n' = m := by omega
              subst hn';generalize hq : P.cellsOf e = q at *;have hq0 : 0 < q := by rw [hsz]; simp
              have one : ∀ i, i < len → ∃ ds : List D, iY ds (x0 :: ts0) ∧ ∃ cs' : List Value, w.cells? 0 (a.add (i * q)) q = some cs' ∧ ds.length = cs'.length ∧
                  ∀ (j : Nat) (d : D) (v : Value), ds[j]? = some d → cs'[j]? = some v → V (Gh.aJ w) w d.av v := by
                intro i hi;have := hget i hi;have he : elems[i]? = some (elems[i]'(by omega)) := by rw [Ur]
                rw [he] at this;obtain ⟨cs', hcs, htr⟩ := Option.bind_eq_some_iff.1 this;obtain ⟨ds, h1, h2, h3⟩ := ih n e cs' _ _ htr hte;exact ⟨ds, h1, cs', hcs, h2, h3⟩
              let f : Nat → List D := λi => if hi : i < len then Classical.choose (one i hi) else []
              have hf : ∀ i (hi : i < len), iY (f i) (x0 :: ts0) ∧ ∃ cs' : List Value, w.cells? 0 (a.add (i * q)) q = some cs' ∧ (f i).length = cs'.length ∧
                  ∀ (j : Nat) (d : D) (v : Value), (f i)[j]? = some d → cs'[j]? = some v → V (Gh.aJ w) w d.av v := by
                intro i hi;have := Classical.choose_spec (one i hi);simp only [f, dif_pos hi]; exact this
              have hspot : cap ≠ 0 → a.spot = none := by
                intro hc;have some0 : ∃ cs', w.cells? 0 (a.add (0 * q)) q = some cs' := by
                  rcases Nat.eq_zero_or_pos len with h0 | h0
                  · obtain ⟨hr1, hr2⟩ := hrest rfl
                    have := hr2 0 (by omega);rw [h0, Wp] at this;have he : rest[0]? = some (rest[0]'(by omega)) := by rw [Ur]
                    rw [he] at this;obtain ⟨cs', hcs, _⟩ := Option.bind_eq_some_iff.1 this;exact ⟨cs', hcs⟩
                  · obtain ⟨_, cs', hcs, _⟩ := hf 0 h0
                    exact ⟨cs', hcs⟩
                obtain ⟨cs', hcs⟩ := some0;obtain ⟨hl, hg⟩ := wW hcs;have := hg 0 hq0;rw [Ur (by omega)] at this;have := KG this;simpa [Addr.add] using this
              have hgc : ∀ i j c, gn (D.aD ((List.range len).map f)) i j = some c → i < len ∧ ∃ d, (f i)[j]? = some d ∧ c = d.av := by
                intro i j c hc;simp only [gn, sQ, U_, List.map_map] at hc;rcases VX i len with hi | hi
                · rw [List.getElem?_range hi] at hc
                  simp only [VP, VE, Function.comp, ri, U_, UN] at hc;obtain ⟨d, h1, h2⟩ := hc;exact ⟨hi, d, h1, h2.symm⟩
                · rw [U8 (by simpa using hi)] at hc; simp at hc
              have hcell : ∀ i j c, gn (D.aD ((List.range len).map f)) i j = some c → ∃ v, w.cell? ⟨a.block, a.off + (i * q + j), none⟩ = some v ∧ V (Gh.aJ w) w c v := by
                intro i j c hc;obtain ⟨hi, d, hd, rfl⟩ := hgc i j c hc;obtain ⟨_, cs', hcs, hl, hV⟩ := hf i hi;obtain ⟨hl', hg⟩ := wW hcs;have hj : j < q := by have := (Up.1 hd).1; omega
                have hcj : cs'[j]? = some (cs'[j]'(by omega)) := by rw [Ur]
                have hv := hg j hj;rw [hcj] at hv;have hs := hspot (by omega);rw [uE (a := a.add (i * q)) (by rw [uE hs]), uE hs] at hv;refine ⟨_, ?_, hV j d _ hd hcj⟩;rw [← hv]; simp [V5]
              refine ⟨[.sl q ((List.range len).map f)], ?_, rfl, λj d v hd hv => ?_⟩
              · simp only [iY, lA]
                refine ⟨_, _, rfl, ⟨_, rfl, Iy λd hd => ?_⟩, rfl⟩;obtain ⟨i, hi, rfl⟩ := Vz.1 hd;exact (hf i (by simpa using hi)).1
              · cases j <;> simp at hd hv
                subst hd hv;simp only [D.av];have hlen : (D.aD ((List.range len).map f)).length = len := by simp [sQ]
                have := V.aE (G := Gh.aJ w) (w := w) 0 false q (D.aD ((List.range len).map f)) a cap
                  (λi j => (w.cell? ⟨a.block, a.off + (i * q + j), none⟩).getD undef) (by omega) (by simp) hspot ?_ ?_ ?_ ?_
                · rw [hlen] at this; exact this
                · intro hne
                  have h0 : 0 < len := by
                    rcases Nat.eq_zero_or_pos len with h0 | h0
                    · exact absurd (Uz (by omega)) hne
                    · exact h0
                  obtain ⟨_, cs', hcs, hl, hV⟩ := hf 0 h0;obtain ⟨hl', hg⟩ := wW hcs;have := hg 0 hq0;rw [Ur (by omega)] at this;have := KF this;simpa [Addr.add, Gh.aL, Gh.aJ] using this
                · intro e' he'
                  rw [sQ] at he';simp only [List.map_map, Vz] at he';obtain ⟨i, hi, rfl⟩ := he';have hi' : i < len := by simpa using hi
                  obtain ⟨h1, cs', hcs, hl, _⟩ := hf i hi';obtain ⟨hl', _⟩ := wW hcs;simp only [Function.comp, ri];refine ⟨by simp; omega, ?_⟩;rw [VQ];intro z hz;obtain ⟨d, _, rfl⟩ := Vz.1 hz;exact lS d
                · intro i j c hc
                  obtain ⟨v, hv, _⟩ := hcell i j c hc;simp [hv]
                · intro i j c hc
                  obtain ⟨v, hv, hV⟩ := hcell i j c hc;simp [hv, hV]
          · cases ht
        · cases ht
      · rename_i fs hu
        obtain ⟨hts1, hcl⟩ : tV P (oj P n) fs.toList 0 = some ts ∧ P.cellsOf t = ts.length := by
          split at ht
          · split at ht
            · rename_i h1 h2; cases ht; exact ⟨h1, h2⟩
            · cases ht
          · cases ht
        obtain ⟨xs, n', hfe, _, hlen, hxl, hfd⟩ := DataW.trod_struct hu h;have hn' : n' = m := by omega
        subst hn'
        -- the fields from one on
        have key : ∀ (k : Nat) (r : List Field) (o : Nat) (ts : List Ty), fs.toList.drop k = r → tV P (oj P n) r o = some ts → o ≤ cs.length →
            ∃ ds : List D, iY ds ts ∧ o + ds.length ≤ cs.length ∧ ∀ (j : Nat) (d : D) (v : Value), ds[j]? = some d → cs[o + j]? = some v → V (Gh.aJ w) w d.av v := by
          intro k r;induction r generalizing k with
          | nil =>intro o ts _ hts ho;simp only [tV, UB] at hts;subst hts;exact ⟨[], by simp [iY], by simpa using ho, λj d v hd => by simp at hd⟩
          | cons f r ihr =>
            intro o ts hk hts ho;simp only [tV] at hts;split at hts
            · rename_i tf htf
              split at hts
              · rename_i hoff
                obtain ⟨h1, h2⟩ := hoff;simp only [UN] at hts;obtain ⟨tr, htr, rfl⟩ := hts;have hfk : fs[k]? = some f := by
                  have : (fs.toList.drop k)[0]? = some f := by rw [hk]; rfl
                  simpa using this
                have hklt : k < fs.size := (VA.1 hfk).1;have := hfd k f hfk;have hxk : xs[k]? = some (xs[k]'(by omega)) := by rw [Ur]
                rw [hxk] at this;obtain ⟨d1, g1, g2, g3⟩ := ih n f.type _ _ _ this htf;have hd1 := Dk g1;simp only [UD, UP, h1, h2] at g2;have ho' : o + tf.length ≤ cs.length := by omega
                have hk' : fs.toList.drop (k + 1) = r := by rw [← List.drop_drop, hk]; rfl
                obtain ⟨d2, q1, q2, q3⟩ := ihr (k + 1) (o + tf.length) tr hk' htr ho';refine ⟨d1 ++ d2, Iz g1 q1, by simp; omega, λj d v hd hv => ?_⟩;rw [Vu] at hd;split at hd
                · rename_i hj
                  refine g3 j d v hd ?_;rw [Vh (by rw [h2]; omega), UR, h1]; exact hv
                · rename_i hj
                  refine q3 (j - d1.length) d v hd ?_;rw [show o + tf.length + (j - d1.length) = o + j by omega]; exact hv
              · cases hts
            · cases hts
        obtain ⟨ds, g1, g2, g3⟩ := key 0 fs.toList 0 ts rfl hts1 (UK _);exact ⟨ds, g1, by rw [Dk g1, ← hcl, hlen], λj d v hd hv => g3 j d v hd (by rw [Wp]; exact hv)⟩
      · cases ht

/-! a whole list of arguments -/

def tB (P : Program) (t : TypeId) : Bool :=
  match P.underlying t with
  | some (.struct _) => true
  | _ => false

def tU (P : Program) (n : Nat) : List TypeId → Option (List (Bool × List Ty))
  | [] => some []
  | t :: r => match oj P n t, tU P n r with
    | some ts, some l => some ((tB P t, ts) :: l)
    | _, _ => none

def Eh (b : Bool) (ds : List D) : AV := if b then .aF (D.aC ds) else match ds with
  | [d] => d.av
  | _ => .aR

def oq : List (List D) → List (Bool × List Ty) → Prop
  | [], l => l = []
  | d :: ds, l => ∃ s r, l = s :: r ∧ iY d s.2 ∧ oq ds r

def wD : List (List D) → List (Bool × List Ty) → List AV
  | d :: ds, s :: r => Eh s.1 d :: wD ds r
  | _, _ => []

theorem OS {r : Reach} {b0 : Nat} {t : TypeId} {v : Value} (hs : tB P t = true) (hv : Value.okWide P w r b0 t v) : ∃ cs, v = .agg cs := by
  unfold tB at hs;unfold Value.okWide at hv;split at hs
  · rename_i fs hu
    rw [hu] at hv;obtain ⟨cs, rfl, _⟩ := hv;exact ⟨cs, rfl⟩
  · cases hs

theorem OR {r : Reach} {b0 : Nat} {t : TypeId} {v : Value} {n : Nat} {ts : List Ty} (ht : oj P n t = some ts) (hs : tB P t = false) (hv : Value.okWide P w r b0 t v) : v.cells = #[v] := by
  unfold tB at hs;cases n with
  | zero => simp [oj] at ht
  | succ n =>
    simp only [oj] at ht;unfold Value.okWide Cell.okWide Cell.ok at hv;split at ht
    · rename_i hu; rw [hu] at hv; simp only at hv; split at hv <;> simp_all [Value.cells]
    · rename_i k hu; rw [hu] at hv; simp only at hv; split at hv <;> simp_all [Value.cells]
    · rename_i hu; rw [hu] at hv; simp only at hv; split at hv <;> simp_all [Value.cells]
    · rename_i e hu; rw [hu] at hv; simp only at hv; split at hv <;> simp_all [Value.cells]
    · rename_i fs hu; rw [hu] at hs; cases hs
    · cases ht

theorem JB {r : Reach} {b0 n : Nat} : ∀ (tts : List TypeId) (vs : List Value) (ds : List (DataW H)) (ps : List MemPlace) (sh : List (Bool × List Ty)),
    DataW.TrodAll enc P w 0 (λ_ => true) held tts vs ds ps → (∀ (j : Nat) (t : TypeId) (v : Value), tts[j]? = some t → vs[j]? = some v → Value.okWide P w r b0 t v) → tU P n tts = some sh →
    ∃ dss, oq dss sh ∧ VL (Gh.aJ w) w (wD dss sh) vs.toArray := by
  intro tts;induction tts with
  | nil =>
    intro vs ds ps sh h _ hs;simp only [tU, UB] at hs;subst hs;cases vs with
    | nil => exact ⟨[], rfl, VL.aG _ _⟩
    | cons v vs => cases ds <;> simp [DataW.TrodAll] at h
  | cons t tts ih =>
    intro vs ds ps sh h hok hs;simp only [tU] at hs;split at hs
    · rename_i ts l ht hl
      cases hs;cases vs with
      | nil => cases ds <;> simp [DataW.TrodAll] at h
      | cons v vs =>
        cases ds with
        | nil => simp [DataW.TrodAll] at h
        | cons d ds =>
          obtain ⟨p, q, ⟨fuel, hd⟩, hrest, _⟩ := h;obtain ⟨dss, h1, h2⟩ := ih vs ds q l hrest (λj t v a b => hok (j + 1) t v (by simpa using a) (by simpa using b)) hl;obtain ⟨d1, g1, g2, g3⟩ := SN fuel n t _ _ ts hd ht;refine ⟨d1 :: dss, ⟨_, _, rfl, g1, h1⟩, ?_⟩;refine VL.aF ?_ h2;simp only [Eh];cases hst : tB P t with
          | true =>
            obtain ⟨cs, rfl⟩ := OS hst (hok 0 t v rfl rfl);simp only [Vm];simp only [Value.cells, Array.length_toList] at g2 g3;refine .aJ _ _ (by rw [ri]; simpa using g2) (λj c v hc hv => ?_);rw [ri, U_] at hc;cases hj : d1[j]? with
            | none => rw [hj] at hc; cases hc
            | some x =>rw [hj] at hc;simp only [VP, UB] at hc;subst hc;exact g3 j x v hj (by simpa using hv)
          | false =>
            have hc1 := OR ht hst (hok 0 t v rfl rfl);rw [hc1] at g2 g3;simp only [UG, UJ] at g2;match d1, g2 with
            | [x], _ =>simp only [UQ, Vd];exact g3 0 x v rfl rfl
    · cases hs

/-- a law that answers yes for whatever data -/
theorem NS {f : FuncId} {sh : List (Bool × List Ty)} {r : Reach} {b0 n : Nat} {tts : List TypeId} {args : Array Value} {ds : List (DataW H)} {ps : List MemPlace} (hs : tU P n tts = some sh)
    (hlaw : ∀ dss, oq dss sh → fC P f (wD dss sh) [] λr _ => r = .aE true) (h : DataW.TrodAll enc P w 0 (λ_ => true) held tts args.toList ds ps)
    (hok : ∀ (j : Nat) (t : TypeId) (v : Value), tts[j]? = some t → args[j]? = some v → Value.okWide P w r b0 t v) :
    Calls P f args w λe w' => e = .returned (.bool true) ∧ vU w w' ∧ ∀ b, b < w.heap.size → w'.heap[b]? = w.heap[b]? := by
  obtain ⟨dss, h1, h2⟩ := JB tts args.toList ds ps sh h (λj t v a b => hok j t v a (by simpa using b)) hs;refine (hlaw dss h1 (Gh.aJ w) w args (fO.bC w) (by simpa using h2)).mono ?_;rintro e w' ⟨v, q, h'', G', rfl, rfl, _, hV, hst⟩;cases hV;have hno : ∀ b, ¬ (Gh.aJ w).aI b := λb hb => by rcases hb with ⟨n, hn, _⟩ | ⟨n, hn⟩ <;> exact hn.elim
  exact ⟨rfl, hst.aL hno, λb hb => hst.aE b hb (hno b)⟩

/-- arguments that read az they did -/
theorem SM (hl : laidOutB P = true) {W W' : World} {sp : Nat → Bool} (hsame : ∀ b, b < W.heap.size → W'.heap[b]? = W.heap[b]?) : ∀ (tts : List TypeId) (vs : List Value) (ds : List (DataW H)) (ps : List MemPlace),
    (tts.all λt => P.readableRec t && decide (t < P.types.size)) = true → DataW.TrodAll enc P W 0 (λ_ => true) true tts vs ds ps → (∀ p ∈ ps, p.block < W.heap.size) → (∀ p ∈ ps, sp p.block = true) →
    DataW.TrodAll enc P W' 0 sp true tts vs ds ps := by
  intro tts;induction tts with
  | nil => intro vs ds ps _ h _ _; cases vs <;> cases ds <;> first | exact h | simp [DataW.TrodAll] at h
  | cons t tts ih =>
    intro vs ds ps hall h hlt hsp;simp only [List.all_cons, US, Vb] at hall;cases vs with
    | nil => cases ds <;> simp [DataW.TrodAll] at h
    | cons v vs =>
      cases ds with
      | nil => simp [DataW.TrodAll] at h
      | cons d ds =>
        obtain ⟨p, q, h1, h2, rfl⟩ := h;refine ⟨p, q, ?_, ih vs ds q (by simpa using hall.2) h2 (λx hx => hlt x (List.mem_append_right _ hx)) (λx hx => hsp x (List.mem_append_right _ hx)), rfl⟩;refine WideElems.Trod_stays hl hall.1.1 hall.1.2 h1 (λx hx => ?_) (λx hx => hsp x (Wt _ hx));have := hsame x.block (hlt x (Wt _ hx));cases x with
        | cell b o => exact World.cell?_of_block (w := W) this
        | map b => exact this

end
end Glb
