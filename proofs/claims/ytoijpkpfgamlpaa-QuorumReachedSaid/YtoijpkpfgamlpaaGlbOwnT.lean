/-
  A library of its own, for whatever program: values of a shape in rows of one's own, whatever numbers they hold, and changes that leave all shapes as they are.
-/
import Derived.Test.YtoijpkpfgamlpaaGlbStep
set_option linter.unusedSimpArgs false
set_option linter.unusedVariables false
namespace Glb
open Go

inductive Ty where
  | int (k : IntKind)
  | bool
  | str
  | sl (sz : Nat) (ts : List Ty)

mutual
def OwnT : Ty → (Nat → Prop) → AHeap → AV → Prop
  | .int k, _, _, av => ∃ n, av = .int k n
  | .bool, _, _, av => ∃ b, av = .bool b
  | .str, _, _, av => ∃ s, av = .str s
  | .sl sz ts, F, h, av => av = .nils ∨ (∃ t c, av = .vals t c sz []) ∨ ∃ n off len cap row g, av = .ref n sz off len cap ∧ F n ∧ h[n]? = some (some (.arr sz row g)) ∧ off + len ≤ row.length ∧ len ≤ 2 ^ 40 ∧
      ∀ (i : Nat) (cs : List AV), i < len → row[off + i]? = some cs → OwnTL ts (fun m => F m ∧ m ≠ n) h cs
def OwnTL : List Ty → (Nat → Prop) → AHeap → List AV → Prop
  | [], _, _, l => l = []
  | t :: ts, F, h, l => ∃ a r, l = a :: r ∧ OwnT t F h a ∧ OwnTL ts F h r
end

theorem OwnT_int (k : IntKind) (F : Nat → Prop) (h : AHeap) (av : AV) : OwnT (.int k) F h av = ∃ n, av = .int k n := by simp only [OwnT]
theorem OwnT_bool (F : Nat → Prop) (h : AHeap) (av : AV) : OwnT .bool F h av = ∃ n, av = .bool n := by simp only [OwnT]
theorem OwnT_str (F : Nat → Prop) (h : AHeap) (av : AV) : OwnT .str F h av = ∃ n, av = .str n := by simp only [OwnT]

mutual
def HasTy : D → Ty → Prop
  | .int k _, t => t = .int k
  | .bool _, t => t = .bool
  | .str _, t => t = .str
  | .sl sz ds, t => ∃ ts, t = .sl sz ts ∧ ds.length ≤ 2 ^ 40 ∧ HasTyLL ds ts
def HasTyL : List D → List Ty → Prop
  | [], ts => ts = []
  | d :: ds, l => ∃ t ts, l = t :: ts ∧ HasTy d t ∧ HasTyL ds ts
def HasTyLL : List (List D) → List Ty → Prop
  | [], _ => True
  | e :: ds, ts => HasTyL e ts ∧ HasTyLL ds ts
end

theorem HasTyLL_get : ∀ {ds : List (List D)} {ts : List Ty}, HasTyLL ds ts → ∀ (i : Nat) (d : List D), ds[i]? = some d → HasTyL d ts := by
  intro ds
  induction ds with
  | nil => intro ts _ i d h; simp at h
  | cons e ds ih =>
    intro ts h i d hd
    simp only [HasTyLL] at h
    cases i with
    | zero => simp at hd; subst hd; exact h.1
    | succ i => exact ih h.2 i d (by simpa using hd)

theorem HasTyLL_mk : ∀ {ds : List (List D)} {ts : List Ty}, (∀ d ∈ ds, HasTyL d ts) → HasTyLL ds ts := by
  intro ds
  induction ds with
  | nil => intro ts _; trivial
  | cons e ds ih => intro ts h; exact ⟨h e (by simp), ih fun d hd => h d (by simp [hd])⟩

mutual
theorem Own.ty : ∀ (d : D) (t : Ty) {F : Nat → Prop} {h : AHeap} (av : AV), HasTy d t → Own d F h av → OwnT t F h av
  | .int k n, t, _, _, _, ht, hh => by simp only [HasTy] at ht; subst ht; simp only [Own] at hh; exact ⟨n, hh⟩
  | .bool b, t, _, _, _, ht, hh => by simp only [HasTy] at ht; subst ht; simp only [Own] at hh; exact ⟨b, hh⟩
  | .str s, t, _, _, _, ht, hh => by simp only [HasTy] at ht; subst ht; simp only [Own] at hh; exact ⟨s, hh⟩
  | .sl sz ds, t, F, h, av, ht, hh => by
    simp only [HasTy] at ht
    obtain ⟨ts, rfl, hlen, ht⟩ := ht
    simp only [Own] at hh
    simp only [OwnT]
    rcases hh with ⟨rfl, _⟩ | ⟨t, c, rfl, _⟩ | ⟨n, off, cap, row, g, h1, h2, h3, h4, hc, h5⟩
    · exact .inl rfl
    · exact .inr (.inl ⟨t, c, rfl⟩)
    · refine .inr (.inr ⟨n, off, ds.length, cap, row, g, h1, h2, h3, h4, hlen, fun i cs hi hcs => ?_⟩)
      have := OwnLL.ty ds ts _ ht h5
      refine this i cs ?_
      rw [List.getElem?_take_of_lt hi, List.getElem?_drop]; exact hcs
theorem OwnL.ty : ∀ (ds : List D) (ts : List Ty) {F : Nat → Prop} {h : AHeap} (l : List AV), HasTyL ds ts → OwnL ds F h l → OwnTL ts F h l
  | [], _, _, _, _, ht, hh => by simp only [HasTyL] at ht; subst ht; exact hh
  | d :: ds, _, _, _, _, ht, hh => by
    simp only [HasTyL] at ht
    obtain ⟨t, ts, rfl, h1, h2⟩ := ht
    simp only [OwnL] at hh
    obtain ⟨a, r, rfl, h3, h4⟩ := hh
    simp only [OwnTL]
    exact ⟨a, r, rfl, Own.ty d t a h1 h3, OwnL.ty ds ts r h2 h4⟩
theorem OwnLL.ty : ∀ (ds : List (List D)) (ts : List Ty) {F : Nat → Prop} {h : AHeap} (l : List (List AV)), HasTyLL ds ts → OwnLL ds F h l → ∀ (i : Nat) (cs : List AV), l[i]? = some cs → OwnTL ts F h cs
  | [], _, _, _, _, _, hh => by simp only [OwnLL] at hh; subst hh; intro i cs h; simp at h
  | d :: ds, ts, _, _, _, ht, hh => by
    simp only [HasTyLL] at ht
    simp only [OwnLL] at hh
    obtain ⟨a, r, rfl, h3, h4⟩ := hh
    intro i cs hi
    cases i with
    | zero => simp at hi; subst hi; exact OwnL.ty d ts a ht.1 h3
    | succ i => exact OwnLL.ty ds ts r ht.2 h4 i cs (by simpa using hi)
end

mutual
theorem OwnT.mono : ∀ (t : Ty) {F F' : Nat → Prop} {h h' : AHeap} (_ : ∀ m, F m → F' m) (_ : Keep F h h') (av : AV), OwnT t F h av → OwnT t F' h' av
  | .int _, _, _, _, _, _, _, _, hh => hh
  | .bool, _, _, _, _, _, _, _, hh => hh
  | .str, _, _, _, _, _, _, _, hh => hh
  | .sl sz ts, F, F', h, h', hF, hk, av, hh => by
    simp only [OwnT] at hh ⊢
    rcases hh with hh | hh | ⟨n, off, len, cap, row, g, h1, h2, h3, h4, h6, h5⟩
    · exact .inl hh
    · exact .inr (.inl hh)
    · exact .inr (.inr ⟨n, off, len, cap, row, g, h1, hF n h2, hk n h2 _ h3, h4, h6, fun i cs hi hcs => OwnTL.mono ts (fun m hm => ⟨hF m hm.1, hm.2⟩) (fun m hm => hk m hm.1) cs (h5 i cs hi hcs)⟩)
theorem OwnTL.mono : ∀ (ts : List Ty) {F F' : Nat → Prop} {h h' : AHeap} (_ : ∀ m, F m → F' m) (_ : Keep F h h') (l : List AV), OwnTL ts F h l → OwnTL ts F' h' l
  | [], _, _, _, _, _, _, _, hh => hh
  | t :: ts, _, _, _, _, hF, hk, _, hh => by
    simp only [OwnTL] at hh ⊢
    obtain ⟨a, r, h1, h2, h3⟩ := hh
    exact ⟨a, r, h1, OwnT.mono t hF hk a h2, OwnTL.mono ts hF hk r h3⟩
end

/-- a value that may lie wherever another one lay -/
def Dec (a b : AV) : Prop := a = b ∨ (∃ k x y, a = .int k x ∧ b = .int k y) ∨ (b = .nils ∧ ∀ t F h, OwnT t F h a → ∃ sz ts, t = .sl sz ts) ∨ ∃ x y, a = .bool x ∧ b = .bool y
def DecL : List AV → List AV → Prop
  | [], l => l = []
  | a :: r, l => ∃ b q, l = b :: q ∧ Dec a b ∧ DecL r q

theorem DecL.refl : ∀ l, DecL l l
  | [] => rfl
  | a :: r => ⟨a, r, rfl, .inl rfl, DecL.refl r⟩

/-- all shapes are as they were, and rows have their sizes -/
def PresT (h h' : AHeap) : Prop := (∀ t F av, OwnT t F h av → OwnT t F h' av) ∧ ∀ (n sz : Nat) (row : List (List AV)) (g : Bool), h[n]? = some (some (.arr sz row g)) → ∃ row' : List (List AV), h'[n]? = some (some (.arr sz row' g)) ∧ row'.length = row.length

theorem PresT.refl (h : AHeap) : PresT h h := ⟨fun _ _ _ x => x, fun _ _ row _ x => ⟨row, x, rfl⟩⟩
theorem PresT.trans {h h1 h2 : AHeap} (a : PresT h h1) (b : PresT h1 h2) : PresT h h2 :=
  ⟨fun t F av x => b.1 t F av (a.1 t F av x), fun n sz row g hn => let ⟨r1, e1, l1⟩ := a.2 n sz row g hn; let ⟨r2, e2, l2⟩ := b.2 n sz r1 g e1; ⟨r2, e2, l2.trans l1⟩⟩
theorem PresT.ext {h h' : AHeap} (x : Ext nof h h') : PresT h h' := ⟨fun t F av hh => OwnT.mono t (fun _ x => x) (x.keep F) av hh, fun _ _ row _ hn => ⟨row, x.get hn, rfl⟩⟩

section
variable {h : AHeap} {n sz i : Nat} {row : List (List AV)} {g : Bool} {cs cs' : List AV}

mutual
theorem OwnT.set (hrow : h[n]? = some (some (.arr sz row g))) (hcs : row[i]? = some cs) (hd : DecL cs cs') : ∀ (t : Ty) (F : Nat → Prop) (av : AV), OwnT t F h av → OwnT t F (h.set n (some (.arr sz (row.set i cs') g))) av
  | .int _, _, _, hh => hh
  | .bool, _, _, hh => hh
  | .str, _, _, hh => hh
  | .sl sz' ts, F, av, hh => by
    simp only [OwnT] at hh ⊢
    rcases hh with hh | hh | ⟨m, off, len, cap, row', g', h1, h2, h3, h4, h6, h5⟩
    · exact .inl hh
    · exact .inr (.inl hh)
    · have hlt := (List.getElem?_eq_some_iff.1 hrow).1
      by_cases e : n = m
      · subst e
        rw [hrow] at h3
        obtain ⟨e1, e2, e3⟩ : sz = sz' ∧ row = row' ∧ g = g' := by simpa using h3
        subst e1 e2 e3
        refine .inr (.inr ⟨n, off, len, cap, row.set i cs', g, h1, h2, by rw [List.getElem?_set_self hlt], by simpa using h4, h6, fun j c hj hc => ?_⟩)
        by_cases e : i = off + j
        · have hil := (List.getElem?_eq_some_iff.1 hcs).1
          rw [← e, List.getElem?_set_self hil] at hc
          have hce : cs' = c := by simpa using hc
          rw [← hce]
          exact OwnTL.dec hrow hcs hd ts _ cs cs' hd (h5 j cs hj (by rw [← e]; exact hcs))
        · rw [List.getElem?_set_ne e] at hc
          exact OwnTL.dec hrow hcs hd ts _ c c (DecL.refl c) (h5 j c hj hc)
      · exact .inr (.inr ⟨m, off, len, cap, row', g', h1, h2, by rw [List.getElem?_set_ne e]; exact h3, h4, h6, fun j c hj hc => OwnTL.dec hrow hcs hd ts _ c c (DecL.refl c) (h5 j c hj hc)⟩)
theorem OwnTL.dec (hrow : h[n]? = some (some (.arr sz row g))) (hcs : row[i]? = some cs) (hd : DecL cs cs') : ∀ (ts : List Ty) (F : Nat → Prop) (l l' : List AV), DecL l l' → OwnTL ts F h l →
    OwnTL ts F (h.set n (some (.arr sz (row.set i cs') g))) l'
  | [], _, _, _, hl, hh => by simp only [OwnTL] at hh ⊢; subst hh; exact hl
  | t :: ts, F, _, _, hl, hh => by
    simp only [OwnTL] at hh ⊢
    obtain ⟨a, r, rfl, h2, h3⟩ := hh
    simp only [DecL] at hl
    obtain ⟨b, q, rfl, h4, h5⟩ := hl
    refine ⟨b, q, rfl, ?_, OwnTL.dec hrow hcs hd ts F r q h5 h3⟩
    rcases h4 with rfl | ⟨k, x, y, rfl, rfl⟩ | ⟨rfl, h6⟩ | ⟨x, y, rfl, rfl⟩
    · exact OwnT.set hrow hcs hd t F a h2
    · cases t with
      | int k' => simp only [OwnT] at h2 ⊢; obtain ⟨z, hz⟩ := h2; cases hz; exact ⟨y, rfl⟩
      | bool => simp only [OwnT] at h2; obtain ⟨z, hz⟩ := h2; cases hz
      | str => simp only [OwnT] at h2; obtain ⟨z, hz⟩ := h2; cases hz
      | sl sz' ts' => simp only [OwnT] at h2; rcases h2 with h2 | ⟨t, c, h2⟩ | ⟨m, off, len, cap, row', g', h1, _⟩ <;> first | cases h2 | cases h1
    · obtain ⟨sz', ts', rfl⟩ := h6 t F h h2
      simp only [OwnT]; exact .inl trivial
    · cases t with
      | int k' => simp only [OwnT] at h2; obtain ⟨z, hz⟩ := h2; cases hz
      | bool => simp only [OwnT] at h2 ⊢; exact ⟨y, rfl⟩
      | str => simp only [OwnT] at h2; obtain ⟨z, hz⟩ := h2; cases hz
      | sl sz' ts' => simp only [OwnT] at h2; rcases h2 with h2 | ⟨t, c, h2⟩ | ⟨m, off, len, cap, row', g', h1, _⟩ <;> first | cases h2 | cases h1
end

theorem PresT.set (hrow : h[n]? = some (some (.arr sz row g))) (hcs : row[i]? = some cs) (hd : DecL cs cs') : PresT h (h.set n (some (.arr sz (row.set i cs') g))) := by
  refine ⟨OwnT.set hrow hcs hd, fun m sz' row' g' hm => ?_⟩
  by_cases e : n = m
  · subst e
    rw [hrow] at hm
    obtain ⟨rfl, rfl, rfl⟩ : sz = sz' ∧ row = row' ∧ g = g' := by simpa using hm
    exact ⟨row.set i cs', by rw [List.getElem?_set_self (List.getElem?_eq_some_iff.1 hrow).1], by simp⟩
  · exact ⟨row', by rw [List.getElem?_set_ne e]; exact hm, rfl⟩
end

theorem Dec.nils {sz : Nat} {ts : List Ty} {F : Nat → Prop} {h : AHeap} {a : AV} (hh : OwnT (.sl sz ts) F h a) : Dec a .nils := by
  refine .inr (.inr (.inl ⟨rfl, fun t G h' ht => ?_⟩))
  simp only [OwnT] at hh
  cases t with
  | sl sz' ts' => exact ⟨_, _, rfl⟩
  | int k => simp only [OwnT] at ht; obtain ⟨z, rfl⟩ := ht; rcases hh with h2 | ⟨t, c, h2⟩ | ⟨m, off, len, cap, row', g', h1, _⟩ <;> first | cases h2 | cases h1
  | bool => simp only [OwnT] at ht; obtain ⟨z, rfl⟩ := ht; rcases hh with h2 | ⟨t, c, h2⟩ | ⟨m, off, len, cap, row', g', h1, _⟩ <;> first | cases h2 | cases h1
  | str => simp only [OwnT] at ht; obtain ⟨z, rfl⟩ := ht; rcases hh with h2 | ⟨t, c, h2⟩ | ⟨m, off, len, cap, row', g', h1, _⟩ <;> first | cases h2 | cases h1

/-- how many elements a slice has -/
def slen : AV → Nat
  | .ref _ _ _ len _ => len
  | _ => 0

theorem OwnT.len {sz ts F h a} (hh : OwnT (.sl sz ts) F h a) : alen a = some (.int .i64 (slen a)) := by
  simp only [OwnT] at hh
  rcases hh with rfl | ⟨t, c, rfl⟩ | ⟨n, off, len, cap, row, g, rfl, _⟩ <;> rfl

theorem OwnT.index {sz ts F h a} (hh : OwnT (.sl sz ts) F h a) {i : Nat} (hi : i < slen a) :
    ∃ n off row g cs, aindex sz a (.int .i64 i) = some (.ptr n sz (off + i) 0) ∧ F n ∧ h[n]? = some (some (.arr sz row g)) ∧ row[off + i]? = some cs ∧ OwnTL ts (fun m => F m ∧ m ≠ n) h cs := by
  simp only [OwnT] at hh
  rcases hh with rfl | ⟨t, c, rfl⟩ | ⟨n, off, len, cap, row, g, rfl, h2, h3, h4, h6, h5⟩
  · simp [slen] at hi
  · simp [slen] at hi
  · simp only [slen] at hi
    have : row[off + i]? = some (row[off + i]'(by omega)) := by rw [List.getElem?_eq_getElem]
    refine ⟨n, off, row, g, _, ?_, h2, h3, this, h5 i _ hi this⟩
    simp only [aindex]
    rw [if_pos ⟨trivial, by omega, by omega⟩]
    simp

theorem OwnT.small {sz ts F h a} (hh : OwnT (.sl sz ts) F h a) : slen a ≤ 2 ^ 40 := by
  simp only [OwnT] at hh
  rcases hh with rfl | ⟨t, c, rfl⟩ | ⟨n, off, len, cap, row, g, rfl, _, _, _, h6, _⟩
  · simp [slen]
  · simp [slen]
  · exact h6

/-- a call that writes over what is one's own -/
def SpoilOk (P : Program) (f : FuncId) (t : Ty) : Prop :=
  isFn P f = true ∧ ∀ (F : Nat → Prop) (h : AHeap) (av : AV), OwnT t F h av → ACalls P f [av] h fun _ h' => Ext F h h' ∧ PresT h h'

end Glb
