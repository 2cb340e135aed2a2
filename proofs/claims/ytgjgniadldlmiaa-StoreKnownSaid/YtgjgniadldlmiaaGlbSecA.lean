/-
  A library of its own: its parts, one behind the other.
-/
import Derived.Test.YtgjgniadldlmiaaGlbMorA
import Derived.Test.YtgjgniadldlmiaaGlbKitB
import Derived.Test.YtgjgniadldlmiaaGlbImgB
import Derived.Test.YtgjgniadldlmiaaGlbImgK
import Derived.Test.YtgjgniadldlmiaaGlbCsector
import Derived.Test.YtgjgniadldlmiaaGlbQuoB
import Derived.Below
import Derived.Laws.AppendOwn
set_option linter.unusedSimpArgs false
set_option linter.unusedVariables false
/-
  Maps: the steps.
-/
namespace Glb
open Go
set_option maxRecDepth 10000

theorem hev_mmk (g : Opd → AV) (h : AHeap) : hev g h .mmk = some (.mapv h.length, h ++ [some (.map [])]) := Eq.trans rfl rfl
theorem hev_mlook (g : Opd → AV) (h : AHeap) (ok : Bool) (z : AV) (x k : Opd) : hev g h (.mlook ok z x k) = (alook h ok z (g x) (g k)).map fun r => (r, h) := Eq.trans rfl rfl
theorem hev_mset (g : Opd → AV) (h : AHeap) (x k v : Opd) : hev g h (.mset x k v) = (amset h (g x) (g k) (g v)).map fun h' => (.top, h') := Eq.trans rfl rfl
theorem hev_mclr (g : Opd → AV) (h : AHeap) (x : Opd) : hev g h (.mclr x) = (amclr h (g x)).map fun h' => (.tup [], h') := Eq.trans rfl rfl
theorem scalar_mapv (n : Nat) : (AV.mapv n).scalar = true := Eq.trans rfl rfl
theorem scalar_mapnil : AV.mapnil.scalar = true := Eq.trans rfl rfl
theorem cells_mapv (n : Nat) : (AV.mapv n).cells? = some [.mapv n] := Eq.trans rfl rfl
attribute [go_sem] hev_mmk hev_mlook hev_mset hev_mclr scalar_mapv scalar_mapnil cells_mapv

theorem alook_at {h : AHeap} {n : Nat} {es : List (Int × AV)} (hn : h[n]? = some (some (.map es))) (z : AV) (k : Int) : alook h false z (.mapv n) (.int .i64 k) = some ((mfind es k).getD z) := by
  simp [alook, mapOf, hn]
theorem alook_ok {h : AHeap} {n : Nat} {es : List (Int × AV)} (hn : h[n]? = some (some (.map es))) (z : AV) (k : Int) : alook h true z (.mapv n) (.int .i64 k) = some (.tup [(mfind es k).getD z, .bool (mfind es k).isSome]) := by
  simp [alook, mapOf, hn]
theorem amset_at {h : AHeap} {n : Nat} {es : List (Int × AV)} (hn : h[n]? = some (some (.map es))) {k : Int} (hk : -9223372036854775808 ≤ k ∧ k ≤ 9223372036854775807) (v : AV) : amset h (.mapv n) (.int .i64 k) v = some (h.set n (some (.map (mput es k v)))) := by
  simp [amset, mapOf, hn, hk]
theorem amclr_at {h : AHeap} {n : Nat} {es : List (Int × AV)} (hn : h[n]? = some (some (.map es))) : amclr h (.mapv n) = some (h.set n (some (.map []))) := by
  simp [amclr, mapOf, hn]

theorem mfind_mput (es : List (Int × AV)) (k j : Int) (c : AV) (nd : (es.map (·.1)).Nodup) : mfind (mput es k c) j = if j = k then some c else mfind es j := by
  have key : ∀ (l : List (Int × AV)), mfind l j = (l.find? fun e => e.1 == j).map (·.2) := by
    intro l
    unfold mfind midx
    induction l with
    | nil => simp
    | cons e r ih =>
      rw [List.findIdx?_cons, List.find?_cons]
      by_cases q : e.1 == j
      · simp [q]
      · simp only [q, Bool.false_eq_true, if_false]
        rw [← ih]
        cases r.findIdx? (fun e => e.1 == j) <;> simp
  rw [key, key]
  unfold mput midx
  induction es with
  | nil =>
    by_cases q : j = k
    · subst q; simp
    · have q' : (k == j) = false := by simpa using fun x : k = j => q x.symm
      simp [q, q']
  | cons e r ih =>
    simp only [List.map_cons, List.nodup_cons] at nd
    have ih := ih nd.2
    rw [List.findIdx?_cons]
    by_cases q : e.1 == k
    · have q' : e.1 = k := by simpa using q
      simp only [q, if_true, List.set_cons_zero, List.find?_cons]
      by_cases p : j = k
      · subst p; simp
      · have p' : (k == j) = false := by simpa using fun x : k = j => p x.symm
        have p2 : (e.1 == j) = false := by rw [q']; exact p'
        simp [p, p', p2]
    · have q' : ¬ e.1 = k := by simpa using q
      simp only [q, Bool.false_eq_true, if_false]
      cases hx : r.findIdx? (fun e => e.1 == k) with
      | none =>
        rw [hx] at ih
        simp only [Option.map_none, List.cons_append, List.find?_cons] at ih ⊢
        by_cases p : e.1 == j
        · have p' : e.1 = j := by simpa using p
          have : ¬ j = k := fun x => q' (p'.trans x)
          simp [p, this]
        · simp only [p]; exact ih
      | some m =>
        rw [hx] at ih
        simp only [Option.map_some, List.set_cons_succ, List.find?_cons] at ih ⊢
        by_cases p : e.1 == j
        · have p' : e.1 = j := by simpa using p
          have : ¬ j = k := fun x => q' (p'.trans x)
          simp [p, this]
        · simp only [p]; exact ih

end Glb

/-
  Layer 4: what a disk is, and what is done with it, in plain lists.
-/
namespace Glb
open Go
set_option maxRecDepth 10000

structure Sec where
  no : Int
  b : List Int
  torn : Bool
  deriving Inhabited

/-- a disk: rising lists of what lasts and of what the cache has -/
structure Dk where
  n : Int
  left : Int
  off : Bool
  lasts : List Sec
  cache : List Sec

def sput : List Sec → Sec → List Sec
  | [], s => [s]
  | x :: r, s => if x.no < s.no then x :: sput r s else if x.no = s.no then s :: r else s :: x :: r
def sfind : List Sec → Int → Option Sec
  | [], _ => none
  | x :: r, k => if x.no = k then some x else sfind r k
def rises (l : List Sec) : Prop := l.Pairwise fun a b => a.no < b.no

theorem mem_sput {l : List Sec} {s x : Sec} (h : x ∈ sput l s) : x = s ∨ x ∈ l := by
  induction l with
  | nil => simp [sput] at h; exact .inl h
  | cons y r ih =>
    simp only [sput] at h
    split at h
    · rcases List.mem_cons.1 h with e | h
      · exact .inr (by simp [e])
      · rcases ih h with e | h
        · exact .inl e
        · exact .inr (List.mem_cons_of_mem _ h)
    · split at h
      · rcases List.mem_cons.1 h with e | h
        · exact .inl e
        · exact .inr (List.mem_cons_of_mem _ h)
      · rcases List.mem_cons.1 h with e | h
        · exact .inl e
        · exact .inr h

theorem rises_sput {l : List Sec} (h : rises l) (s : Sec) : rises (sput l s) := by
  induction l with
  | nil => simp [sput, rises]
  | cons y r ih =>
    unfold rises at h ih ⊢
    rw [List.pairwise_cons] at h
    simp only [sput]
    split
    · rename_i c
      rw [List.pairwise_cons]
      refine ⟨fun x hx => ?_, ih h.2⟩
      rcases mem_sput hx with rfl | hx
      · exact c
      · exact h.1 x hx
    · split
      · rename_i c e
        rw [List.pairwise_cons]
        exact ⟨fun x hx => by have := h.1 x hx; omega, h.2⟩
      · rename_i c e
        rw [List.pairwise_cons]
        refine ⟨fun x hx => ?_, List.pairwise_cons.2 h⟩
        rcases List.mem_cons.1 hx with rfl | hx
        · omega
        · have := h.1 x hx; omega

theorem sfind_some {l : List Sec} {k : Int} {s : Sec} (h : sfind l k = some s) : s ∈ l ∧ s.no = k := by
  induction l with
  | nil => simp [sfind] at h
  | cons y r ih =>
    simp only [sfind] at h
    split at h
    · rename_i c; cases h; exact ⟨by simp, c⟩
    · exact ⟨List.mem_cons_of_mem _ (ih h).1, (ih h).2⟩
theorem sfind_none {l : List Sec} {k : Int} : sfind l k = none ↔ ∀ s ∈ l, s.no ≠ k := by
  induction l with
  | nil => simp [sfind]
  | cons y r ih =>
    simp only [sfind]
    split
    · rename_i c; simp [c]
    · rename_i c; simp [c, ih]
theorem sfind_mem {l : List Sec} (h : rises l) {s : Sec} (hs : s ∈ l) : sfind l s.no = some s := by
  induction l with
  | nil => cases hs
  | cons y r ih =>
    unfold rises at h ih
    rw [List.pairwise_cons] at h
    simp only [sfind]
    rcases List.mem_cons.1 hs with rfl | hs
    · simp
    · have := h.1 s hs
      rw [if_neg (by omega)]
      exact ih h.2 hs

theorem sfind_sput {l : List Sec} (h : rises l) (s : Sec) (k : Int) : sfind (sput l s) k = if k = s.no then some s else sfind l k := by
  induction l with
  | nil => simp only [sput, sfind]; by_cases e : k = s.no <;> simp [e]; intro x; exact absurd x.symm e
  | cons y r ih =>
    unfold rises at h ih
    rw [List.pairwise_cons] at h
    have ih := ih h.2
    simp only [sput]
    split
    · rename_i c
      simp only [sfind, ih]
      by_cases e : y.no = k
      · rw [if_pos e, if_neg (by omega), if_pos e]
      · rw [if_neg e, if_neg e]
    · split
      · rename_i c e
        simp only [sfind]
        by_cases q : k = s.no
        · rw [if_pos q.symm, if_pos q]
        · rw [if_neg (fun x => q x.symm), if_neg q, if_neg (by omega)]
      · rename_i c e
        simp only [sfind]
        by_cases q : k = s.no
        · rw [if_pos q.symm, if_pos q]
        · rw [if_neg (fun x => q x.symm), if_neg q]

theorem rises_nodup {l : List Sec} (h : rises l) : (l.map Sec.no).Nodup := by
  unfold rises at h
  rw [List.Nodup, List.pairwise_map]
  exact h.imp fun {a b} x => by omega

/-- how many lie in a range -/
theorem rises_len {l : List Sec} (h : rises l) {a b : Int} (hr : ∀ s ∈ l, a ≤ s.no ∧ s.no < b) : l.length ≤ (b - a).toNat := by
  induction l generalizing a with
  | nil => simp
  | cons y r ih =>
    unfold rises at h ih
    rw [List.pairwise_cons] at h
    have h1 := hr y (by simp)
    have := @ih h.2 (y.no + 1) (fun s hs => ⟨by have := h.1 s hs; omega, (hr s (List.mem_cons_of_mem _ hs)).2⟩)
    simp only [List.length_cons]
    omega

def cstep (x : Option Int) (c : Sec) (l : List Sec) : List Sec :=
  match x with
  | none => l
  | some v => if v = 0 then l else if v = 1 then sput l c else sput l ⟨c.no, [], true⟩
def crashed : List Sec → List Int → List Sec → List Sec
  | [], _, l => l
  | c :: cs, how, l => crashed cs how.tail (cstep how.head? c l)

def Dk.spend (d : Dk) : Bool × Dk := if d.left = 0 then (false, { d with off := true }) else if 0 < d.left then (true, { d with left := d.left - 1 }) else (true, d)
def Dk.write (d : Dk) (i : Int) (b : List Int) : Dk × Int :=
  if d.off then (d, 10) else if i < 0 ∨ d.n ≤ i then (d, 3) else if 64 < b.length then (d, 2)
  else if d.spend.1 then ({ d.spend.2 with cache := sput d.cache ⟨i, b, false⟩ }, 0) else (d.spend.2, 10)
def Dk.flush (d : Dk) : Dk × Int :=
  if d.off then (d, 10) else if d.spend.1 then ({ d.spend.2 with lasts := d.cache.foldl sput d.lasts, cache := [] }, 0) else (d.spend.2, 10)
def readL : Option Sec → List Int × Int
  | none => ([], 0)
  | some s => if s.torn then ([], 9) else (s.b, 0)
def Dk.read (d : Dk) (i : Int) : List Int × Int :=
  if i < 0 ∨ d.n ≤ i then ([], 3) else
  match sfind d.cache i with
  | some s => (s.b, 0)
  | none => readL (sfind d.lasts i)
def Dk.dirty (d : Dk) : List Int := d.cache.map Sec.no
def Dk.arm (d : Dk) (n : Int) : Dk := { d with left := if n < 0 then -1 else n }
def Dk.crash (d : Dk) (how : List Int) : Dk := { d with lasts := crashed d.cache how d.lasts, cache := [], left := -1, off := false }
def Dk.new (n : Int) : Dk := ⟨n, -1, false, [], []⟩

structure Dk.ok (d : Dk) : Prop where
  n : 1 ≤ d.n ∧ d.n ≤ 16384
  left : -1 ≤ d.left ∧ d.left ≤ 9223372036854775807
  lasts : rises d.lasts ∧ ∀ s ∈ d.lasts, 0 ≤ s.no ∧ s.no < d.n ∧ s.b.length ≤ 64
  cache : rises d.cache ∧ ∀ s ∈ d.cache, 0 ≤ s.no ∧ s.no < d.n ∧ s.b.length ≤ 64 ∧ s.torn = false

theorem Dk.new_ok {n : Int} (h : 1 ≤ n ∧ n ≤ 16384) : (Dk.new n).ok := ⟨h, by simp [Dk.new], ⟨.nil, by simp [Dk.new]⟩, ⟨.nil, by simp [Dk.new]⟩⟩
theorem Dk.spend_ok {d : Dk} (h : d.ok) : d.spend.2.ok := by
  unfold Dk.spend
  split
  · exact ⟨h.n, h.left, h.lasts, h.cache⟩
  · split
    · exact ⟨h.n, by have := h.left; simp only; omega, h.lasts, h.cache⟩
    · exact h
theorem Dk.spend_n (d : Dk) : d.spend.2.n = d.n := by unfold Dk.spend; split; rfl; split <;> rfl
theorem Dk.spend_lasts (d : Dk) : d.spend.2.lasts = d.lasts := by unfold Dk.spend; split; rfl; split <;> rfl
theorem Dk.spend_cache (d : Dk) : d.spend.2.cache = d.cache := by unfold Dk.spend; split; rfl; split <;> rfl
theorem lasts_put {n : Int} {l : List Sec} (h : rises l ∧ ∀ s ∈ l, 0 ≤ s.no ∧ s.no < n ∧ s.b.length ≤ 64) {s : Sec} (hs : 0 ≤ s.no ∧ s.no < n ∧ s.b.length ≤ 64) : rises (sput l s) ∧ ∀ x ∈ sput l s, 0 ≤ x.no ∧ x.no < n ∧ x.b.length ≤ 64 :=
  ⟨rises_sput h.1 s, fun x hx => by rcases mem_sput hx with rfl | hx; exact hs; exact h.2 x hx⟩
theorem lasts_fold {n : Int} {l : List Sec} (h : rises l ∧ ∀ s ∈ l, 0 ≤ s.no ∧ s.no < n ∧ s.b.length ≤ 64) {c : List Sec} (hc : ∀ s ∈ c, 0 ≤ s.no ∧ s.no < n ∧ s.b.length ≤ 64 ∧ s.torn = false) :
    rises (c.foldl sput l) ∧ ∀ x ∈ c.foldl sput l, 0 ≤ x.no ∧ x.no < n ∧ x.b.length ≤ 64 := by
  induction c generalizing l with
  | nil => exact h
  | cons y r ih =>
    have hy := hc y (by simp)
    exact ih (lasts_put h ⟨hy.1, hy.2.1, hy.2.2.1⟩) fun s hs => hc s (List.mem_cons_of_mem _ hs)
theorem lasts_cstep {n : Int} {l : List Sec} (h : rises l ∧ ∀ s ∈ l, 0 ≤ s.no ∧ s.no < n ∧ s.b.length ≤ 64) {c : Sec} (hc : 0 ≤ c.no ∧ c.no < n ∧ c.b.length ≤ 64) (x : Option Int) :
    rises (cstep x c l) ∧ ∀ s ∈ cstep x c l, 0 ≤ s.no ∧ s.no < n ∧ s.b.length ≤ 64 := by
  cases x with
  | none => exact h
  | some v =>
    simp only [cstep]
    split
    · exact h
    · split
      · exact lasts_put h hc
      · exact lasts_put h ⟨hc.1, hc.2.1, by simp⟩
theorem lasts_crashed {n : Int} {l : List Sec} (h : rises l ∧ ∀ s ∈ l, 0 ≤ s.no ∧ s.no < n ∧ s.b.length ≤ 64) {c : List Sec} (hc : ∀ s ∈ c, 0 ≤ s.no ∧ s.no < n ∧ s.b.length ≤ 64 ∧ s.torn = false) (how : List Int) :
    rises (crashed c how l) ∧ ∀ x ∈ crashed c how l, 0 ≤ x.no ∧ x.no < n ∧ x.b.length ≤ 64 := by
  induction c generalizing l how with
  | nil => exact h
  | cons y r ih =>
    have hy := hc y (by simp)
    exact ih (lasts_cstep h ⟨hy.1, hy.2.1, hy.2.2.1⟩ _) (fun s hs => hc s (List.mem_cons_of_mem _ hs)) _

theorem Dk.write_ok {d : Dk} (h : d.ok) (i : Int) (b : List Int) : (d.write i b).1.ok := by
  unfold Dk.write
  split
  · exact h
  · split
    · exact h
    · split
      · exact h
      · have hs := Dk.spend_ok h
        split
        · rename_i c1 c2 c3
          refine ⟨hs.n, hs.left, hs.lasts, rises_sput h.cache.1 _, fun s hx => ?_⟩
          rcases mem_sput hx with rfl | hx
          · refine ⟨by simp only; omega, by rw [Dk.spend_n]; simp only; omega, by simp only; omega, rfl⟩
          · rw [Dk.spend_n]; exact h.cache.2 s hx
        · exact hs
theorem Dk.flush_ok {d : Dk} (h : d.ok) : d.flush.1.ok := by
  unfold Dk.flush
  split
  · exact h
  · have hs := Dk.spend_ok h
    split
    · exact ⟨hs.n, hs.left, by rw [Dk.spend_n]; exact lasts_fold h.lasts h.cache.2, .nil, by simp⟩
    · exact hs
theorem Dk.arm_ok {d : Dk} (h : d.ok) {n : Int} (hn : n ≤ 9223372036854775807) : (d.arm n).ok := by
  refine ⟨h.n, ?_, h.lasts, h.cache⟩
  simp only [Dk.arm]; split <;> omega
theorem Dk.crash_ok {d : Dk} (h : d.ok) (how : List Int) : (d.crash how).ok := ⟨h.n, by simp [Dk.crash], lasts_crashed h.lasts h.cache.2 how, .nil, by simp [Dk.crash]⟩

/-- folds by places -/
theorem fold_at {c l : List Sec} {j : Nat} (hj : j < c.length) : (c.drop j).foldl sput l = (c.drop (j + 1)).foldl sput (sput l (c[j]'hj)) := by
  rw [List.drop_eq_getElem_cons hj, List.foldl_cons]
theorem crashed_at {c l : List Sec} {how : List Int} {j : Nat} (hj : j < c.length) : crashed (c.drop j) (how.drop j) l = crashed (c.drop (j + 1)) (how.drop (j + 1)) (cstep how[j]? (c[j]'hj) l) := by
  rw [List.drop_eq_getElem_cons hj, crashed]
  congr 1
  · simp
  · simp

/-- a map's entries are a list of sectors -/
def MapIs (f : Sec → AV) (es : List (Int × AV)) (l : List Sec) : Prop := (es.map (·.1)).Nodup ∧ ∀ k, mfind es k = (sfind l k).map f
def lastV (s : Sec) : AV := .agg [if s.torn then .nils else abytes s.b, .bool s.torn]
def cacheV (s : Sec) : AV := abytes s.b

theorem MapIs.nil (f : Sec → AV) : MapIs f [] [] := ⟨.nil, fun k => rfl⟩

theorem MapIs.put {f : Sec → AV} {es : List (Int × AV)} {l : List Sec} (h : MapIs f es l) (hr : rises l) (s : Sec) : MapIs f (mput es s.no (f s)) (sput l s) := by
  refine ⟨mput_keys h.1, fun k => ?_⟩
  rw [mfind_mput _ _ _ _ h.1, sfind_sput hr, h.2]
  split <;> rfl

/-- its keys, sorted, are the list's numbers -/
theorem MapIs.mem {f : Sec → AV} {es : List (Int × AV)} {l : List Sec} (h : MapIs f es l) (k : Int) : k ∈ es.map (·.1) ↔ k ∈ l.map Sec.no := by
  have e1 : k ∈ es.map (·.1) ↔ mfind es k ≠ none := by
    unfold mfind midx
    cases q : es.findIdx? (fun e => e.1 == k) with
    | none =>
      rw [List.findIdx?_eq_none_iff] at q
      simp only [Option.bind_none, ne_eq, not_true_eq_false, iff_false]
      intro hm
      obtain ⟨e, he, rfl⟩ := List.mem_map.1 hm
      have := q e he
      simp at this
    | some i =>
      rw [List.findIdx?_eq_some_iff_getElem] at q
      obtain ⟨hi, hk, -⟩ := q
      have hk : es[i].1 = k := by simpa using hk
      simp only [Option.bind_some, List.getElem?_eq_getElem hi, Option.map_some, ne_eq, reduceCtorEq, not_false_eq_true, iff_true]
      rw [← hk]
      exact List.mem_map.2 ⟨_, List.getElem_mem hi, rfl⟩
  have e2 : k ∈ l.map Sec.no ↔ sfind l k ≠ none := by
    rw [ne_eq, sfind_none]
    simp only [List.mem_map]
    constructor
    · rintro ⟨s, hs, rfl⟩ x; exact x s hs rfl
    · intro x
      apply Classical.byContradiction
      intro q
      exact x fun s hs e => q ⟨s, hs, e⟩
  rw [e1, e2, h.2]
  cases sfind l k <;> simp

theorem MapIs.sorted {f : Sec → AV} {es : List (Int × AV)} {l : List Sec} (h : MapIs f es l) (hr : rises l) {ss : List Int} (hp : ss.Perm (es.map (·.1))) : (ss.mergeSort fun x y => decide (x ≤ y)) = l.map Sec.no := by
  have p1 : (ss.mergeSort fun x y => decide (x ≤ y)).Perm (l.map Sec.no) := by
    refine ((List.mergeSort_perm _ _).trans hp).trans ?_
    exact (List.perm_ext_iff_of_nodup h.1 (rises_nodup hr)).2 h.mem
  have s1 : (ss.mergeSort fun x y => decide (x ≤ y)).Pairwise (fun x y : Int => x ≤ y) := by
    have := List.pairwise_mergeSort (le := fun x y : Int => decide (x ≤ y)) (fun a b c h1 h2 => by simp at *; omega) (fun a b => by simp; omega) ss
    exact this.imp fun {a b} x => by simpa using x
  refine List.Perm.eq_of_pairwise (le := fun x y : Int => x ≤ y) (fun a b _ _ h1 h2 => by omega) s1 ?_ p1
  rw [List.pairwise_map]
  exact List.Pairwise.imp (fun {a b} x => by omega) hr

theorem MapIs.len {f : Sec → AV} {es : List (Int × AV)} {l : List Sec} (h : MapIs f es l) (hr : rises l) : es.length = l.length := by
  have := ((List.perm_ext_iff_of_nodup h.1 (rises_nodup hr)).2 h.mem).length_eq
  simpa using this

end Glb

/-
  Layer 4: the program's disk.
-/
namespace Glb
open Go
set_option maxRecDepth 10000
set_option maxHeartbeats 4000000

def diskRow (d : Dk) (l c : Nat) (a : Bool) (k : Int) : List AV := [.int .i64 d.n, .mapv l, .mapv c, .bool a, .bool d.off, .int .i64 k]
structure DiskAt' (F : Nat → Prop) (h : AHeap) (p : Nat) (d : Dk) (l c : Nat) (es cs : List (Int × AV)) (k : Int) : Prop where
  row : h[p]? = some (some (.arr 6 [diskRow d l c (decide (0 ≤ d.left)) k] false))
  lm : h[l]? = some (some (.map es))
  cm : h[c]? = some (some (.map cs))
  ne : l ≠ c
  fp : F p
  fl : F l
  fc : F c
  left : 0 ≤ d.left → k = d.left
  kr : -9223372036854775808 ≤ k ∧ k ≤ 9223372036854775807
  lasts : MapIs lastV es d.lasts
  cache : MapIs cacheV cs d.cache
  ok : d.ok
/-- a disk of the program: a row and two maps in names of F -/
def DiskAt (F : Nat → Prop) (h : AHeap) (p : Nat) (d : Dk) : Prop := ∃ l c es cs k, DiskAt' F h p d l c es cs k

theorem DiskAt'.pl {F h p d l c es cs k} (a : DiskAt' F h p d l c es cs k) : p ≠ l := by
  rintro rfl; have := a.row; rw [a.lm] at this; simp at this
theorem DiskAt'.pc {F h p d l c es cs k} (a : DiskAt' F h p d l c es cs k) : p ≠ c := by
  rintro rfl; have := a.row; rw [a.cm] at this; simp at this
theorem DiskAt.ok {F h p d} (a : DiskAt F h p d) : d.ok := by obtain ⟨_, _, _, _, _, a⟩ := a; exact a.ok
theorem DiskAt.mono {F F' : Nat → Prop} {h h' : AHeap} {p d} (a : DiskAt F h p d) (hF : ∀ m, F m → F' m) (hk : Keep F h h') : DiskAt F' h' p d := by
  obtain ⟨l, c, es, cs, k, a⟩ := a
  exact ⟨l, c, es, cs, k, hk _ a.fp _ a.row, hk _ a.fl _ a.lm, hk _ a.fc _ a.cm, a.ne, hF _ a.fp, hF _ a.fl, hF _ a.fc, a.left, a.kr, a.lasts, a.cache, a.ok⟩
theorem DiskAt.up {F : Nat → Prop} {h h' : AHeap} {p d} (a : DiskAt F h p d) (x : Ext nof h h') : DiskAt F h' p d := a.mono (fun _ x => x) (x.keep F)

def HasDOk (P : Program) (f : FuncId) : Prop := isFn P f = true ∧ ∀ (F : Nat → Prop) (h : AHeap) (p : Nat) (d : Dk) (i : Int), DiskAt F h p d →
  ACalls P f [.ptr p 6 0 0, .int .i64 i] h fun r h' => r = .bool (decide (0 ≤ i ∧ i < d.n)) ∧ h' = h
def SpendOk (P : Program) (f : FuncId) : Prop := isFn P f = true ∧ ∀ (F : Nat → Prop) (h : AHeap) (p : Nat) (d : Dk), DiskAt F h p d →
  ACalls P f [.ptr p 6 0 0] h fun r h' => r = .bool d.spend.1 ∧ DiskAt F h' p d.spend.2 ∧ Ext F h h'
def DLenOk (P : Program) (f : FuncId) : Prop := isFn P f = true ∧ ∀ (F : Nat → Prop) (h : AHeap) (p : Nat) (d : Dk), DiskAt F h p d →
  ACalls P f [.ptr p 6 0 0] h fun r h' => r = .int .i64 d.n ∧ h' = h
def DownOk (P : Program) (f : FuncId) : Prop := isFn P f = true ∧ ∀ (F : Nat → Prop) (h : AHeap) (p : Nat) (d : Dk), DiskAt F h p d →
  ACalls P f [.ptr p 6 0 0] h fun r h' => r = .bool d.off ∧ h' = h
def ArmOk (P : Program) (f : FuncId) : Prop := isFn P f = true ∧ ∀ (F : Nat → Prop) (h : AHeap) (p : Nat) (d : Dk) (n : Int), DiskAt F h p d → -9223372036854775808 ≤ n ∧ n ≤ 9223372036854775807 →
  ACalls P f [.ptr p 6 0 0, .int .i64 n] h fun _ h' => DiskAt F h' p (d.arm n) ∧ Ext F h h'
def NewDOk (P : Program) (f : FuncId) : Prop := isFn P f = true ∧ ∀ (h : AHeap) (n : Int),
  ACalls P f [.int .i64 n] h fun r h' => (1 ≤ n ∧ n ≤ 16384 → ∃ p, r = .tup [.ptr p 6 0 0, .int .i64 0] ∧ DiskAt (fun m => h.length ≤ m ∧ m < h'.length) h' p (.new n)) ∧
    (¬ (1 ≤ n ∧ n ≤ 16384) → r = .tup [.raw (.pointer none), .int .i64 3]) ∧ Ext nof h h'
def CloneBP (P : Program) (f : FuncId) : Prop := isFn P f = true ∧ ∀ (F : Nat → Prop) (h : AHeap) (l : List Int) (a : AV), Rd F h (dBytes l) a → l.length ≤ 2^40 → ACalls P f [a] h fun r h' => r = abytes l ∧ h' = h
theorem CloneBOk.p {P : Program} {f : FuncId} (hc : CloneBOk P f) : CloneBP P f :=
  ⟨hc.1, fun F h l a ha hl => (hc.2 F h l a ha hl).freeze fun _ _ hk => ⟨hk.2, _, Frz.d (Own.fz (dBytes l) (fun _ x => x) _ hk.1), rfl⟩⟩
def WriteOk (P : Program) (f : FuncId) : Prop := isFn P f = true ∧ ∀ (F G : Nat → Prop) (h : AHeap) (p : Nat) (d : Dk) (i : Int) (l : List Int) (a : AV), DiskAt F h p d → Rd G h (dBytes l) a → (∀ m, G m → ¬ F m) → l.length ≤ 2^40 →
  ACalls P f [.ptr p 6 0 0, .int .i64 i, a] h fun r h' => r = .int .i64 (d.write i l).2 ∧ DiskAt F h' p (d.write i l).1 ∧ Ext F h h'
def ReadDOk (P : Program) (f : FuncId) : Prop := isFn P f = true ∧ ∀ (F : Nat → Prop) (h : AHeap) (p : Nat) (d : Dk) (i : Int), DiskAt F h p d →
  ACalls P f [.ptr p 6 0 0, .int .i64 i] h fun r h' => ∃ a, r = .tup [a, .int .i64 (d.read i).2] ∧ Own (dBytes (d.read i).1) (fun m => h.length ≤ m) h' a ∧ Ext nof h h'

theorem cloneB_ok {P : Program} {f : FuncId} (hf : Is P f c_bytes_Clone) (hk : CloneKit P f) : CloneBOk P f := CloneB_ok hf hk

theorem has_ok {P : Program} {f : FuncId} (hf : Is P f c_sector_Disk_has) : HasDOk P f := by
  refine ⟨hf.2, fun F h p d i ⟨l, c, es, cs, k, a⟩ => fun_sound hf.1 (Nat.le_of_ble_eq_true rfl) ?_⟩
  show vc P c_sector_Disk_has.code ⟨[(0, .ptr p 6 0 0), (1, .int .i64 i)], [], h⟩ (atEnd c_sector_Disk_has.res _)
  have B := a.row
  by_cases c1 : 0 ≤ i
  · simp only [c_sector_Disk_has, go_sem, reduceIte, Nat.reduceEqDiff, Nat.reduceAdd, Nat.reduceLeDiff, Nat.reducePow, Nat.reduceDiv, Nat.reduceMod, decide_true, B, diskRow, decide_eq_true c1]
    simp [c1]
  · simp only [c_sector_Disk_has, go_sem, reduceIte, Nat.reduceEqDiff, Nat.reduceAdd, Nat.reduceLeDiff, Nat.reducePow, Nat.reduceDiv, Nat.reduceMod, decide_true, B, diskRow, decide_eq_false c1]
    simp [c1]

theorem dlen_ok {P : Program} {f : FuncId} (hf : Is P f c_sector_Disk_Len) : DLenOk P f := by
  refine ⟨hf.2, fun F h p d ⟨l, c, es, cs, k, a⟩ => fun_sound hf.1 (Nat.le_of_ble_eq_true rfl) ?_⟩
  show vc P c_sector_Disk_Len.code ⟨[(0, .ptr p 6 0 0)], [], h⟩ (atEnd c_sector_Disk_Len.res _)
  have B := a.row
  simp only [c_sector_Disk_Len, go_sem, reduceIte, Nat.reduceEqDiff, Nat.reduceAdd, Nat.reduceLeDiff, Nat.reducePow, Nat.reduceDiv, Nat.reduceMod, decide_true, B, diskRow]

theorem down_ok {P : Program} {f : FuncId} (hf : Is P f c_sector_Disk_Down) : DownOk P f := by
  refine ⟨hf.2, fun F h p d ⟨l, c, es, cs, k, a⟩ => fun_sound hf.1 (Nat.le_of_ble_eq_true rfl) ?_⟩
  show vc P c_sector_Disk_Down.code ⟨[(0, .ptr p 6 0 0)], [], h⟩ (atEnd c_sector_Disk_Down.res _)
  have B := a.row
  simp only [c_sector_Disk_Down, go_sem, reduceIte, Nat.reduceEqDiff, Nat.reduceAdd, Nat.reduceLeDiff, Nat.reducePow, Nat.reduceDiv, Nat.reduceMod, decide_true, B, diskRow]

/-- the row written over -/
theorem DiskAt'.rowSet {F h p d l c es cs k} (a : DiskAt' F h p d l c es cs k) {d' : Dk} {k' : Int} (h1 : d'.lasts = d.lasts) (h2 : d'.cache = d.cache) (h3 : 0 ≤ d'.left → k' = d'.left)
    (h4 : -9223372036854775808 ≤ k' ∧ k' ≤ 9223372036854775807) (h5 : d'.ok) : DiskAt F (h.set p (some (.arr 6 [diskRow d' l c (decide (0 ≤ d'.left)) k'] false))) p d' ∧ Ext F h (h.set p (some (.arr 6 [diskRow d' l c (decide (0 ≤ d'.left)) k'] false))) := by
  have lt := (List.getElem?_eq_some_iff.1 a.row).1
  refine ⟨⟨l, c, es, cs, k', List.getElem?_set_self lt, by rw [List.getElem?_set_ne a.pl]; exact a.lm, by rw [List.getElem?_set_ne a.pc]; exact a.cm, a.ne, a.fp, a.fl, a.fc, h3, h4, by rw [h1]; exact a.lasts, by rw [h2]; exact a.cache, h5⟩, Ext.set _ (fun _ => a.fp)⟩
/-- .. a map -/
theorem DiskAt'.lastsSet {F h p d l c es cs k} (a : DiskAt' F h p d l c es cs k) {es' : List (Int × AV)} {L : List Sec} (h1 : MapIs lastV es' L) (h5 : { d with lasts := L }.ok) :
    DiskAt' F (h.set l (some (.map es'))) p { d with lasts := L } l c es' cs k ∧ Ext F h (h.set l (some (.map es'))) := by
  have lt := (List.getElem?_eq_some_iff.1 a.lm).1
  refine ⟨⟨by rw [List.getElem?_set_ne (fun x => a.pl x.symm)]; exact a.row, List.getElem?_set_self lt, by rw [List.getElem?_set_ne a.ne]; exact a.cm, a.ne, a.fp, a.fl, a.fc, a.left, a.kr, h1, a.cache, h5⟩, Ext.set _ (fun _ => a.fl)⟩
theorem DiskAt'.cacheSet {F h p d l c es cs k} (a : DiskAt' F h p d l c es cs k) {cs' : List (Int × AV)} {L : List Sec} (h1 : MapIs cacheV cs' L) (h5 : { d with cache := L }.ok) :
    DiskAt' F (h.set c (some (.map cs'))) p { d with cache := L } l c es cs' k ∧ Ext F h (h.set c (some (.map cs'))) := by
  have lt := (List.getElem?_eq_some_iff.1 a.cm).1
  refine ⟨⟨by rw [List.getElem?_set_ne (fun x => a.pc x.symm)]; exact a.row, by rw [List.getElem?_set_ne (fun x => a.ne x.symm)]; exact a.lm, List.getElem?_set_self lt, a.ne, a.fp, a.fl, a.fc, a.left, a.kr, a.lasts, h1, h5⟩, Ext.set _ (fun _ => a.fc)⟩

theorem spend_ok {P : Program} {f : FuncId} (hf : Is P f c_sector_Disk_spend) : SpendOk P f := by
  refine ⟨hf.2, fun F h p d ⟨l, c, es, cs, k, a⟩ => fun_sound hf.1 (Nat.le_of_ble_eq_true rfl) ?_⟩
  show vc P c_sector_Disk_spend.code ⟨[(0, .ptr p 6 0 0)], [], h⟩ (atEnd c_sector_Disk_spend.res _)
  have B := a.row
  have lt := (List.getElem?_eq_some_iff.1 B).1
  have ks := Dk.spend_ok a.ok
  unfold Dk.spend at ks ⊢
  by_cases c1 : 0 ≤ d.left
  · have ek := a.left c1
    subst ek
    rw [decide_eq_true c1] at B
    by_cases c2 : d.left = 0
    · simp only [c_sector_Disk_spend, go_sem, reduceIte, Nat.reduceEqDiff, Nat.reduceAdd, Nat.reduceLeDiff, Nat.reducePow, Nat.reduceDiv, Nat.reduceMod, decide_true, B, diskRow, decide_eq_true c2, lt]
      rw [if_pos c2] at ks ⊢
      refine ⟨rfl, ?_⟩
      have := a.rowSet (d' := { d with off := true }) rfl rfl a.left a.kr ks
      simpa [diskRow, c2] using this
    · have ew : IntKind.i64.wrap (d.left - 1) = d.left - 1 := wrap_i64 (by have := a.kr; omega)
      simp only [c_sector_Disk_spend, go_sem, reduceIte, Nat.reduceEqDiff, Nat.reduceAdd, Nat.reduceLeDiff, Nat.reducePow, Nat.reduceDiv, Nat.reduceMod, decide_true, B, diskRow, decide_eq_false c2, lt, ew]
      rw [if_neg c2, if_pos (by omega)] at ks ⊢
      refine ⟨rfl, ?_⟩
      have := a.rowSet (d' := { d with left := d.left - 1 }) (k' := d.left - 1) rfl rfl (fun _ => rfl) (by have := a.kr; omega) ks
      have c3 : 0 ≤ d.left - 1 := by omega
      simpa only [diskRow, decide_eq_true c3] using this
  · rw [decide_eq_false c1] at B
    simp only [c_sector_Disk_spend, go_sem, reduceIte, Nat.reduceEqDiff, Nat.reduceAdd, Nat.reduceLeDiff, Nat.reducePow, Nat.reduceDiv, Nat.reduceMod, decide_true, B, diskRow]
    rw [if_neg (by omega), if_neg (by omega)] at ks ⊢
    exact ⟨rfl, ⟨l, c, es, cs, k, a⟩, Ext.refl _ _⟩

theorem arm_ok {P : Program} {f : FuncId} (hf : Is P f c_sector_Disk_Arm) : ArmOk P f := by
  refine ⟨hf.2, fun F h p d n ⟨l, c, es, cs, k, a⟩ hn => fun_sound hf.1 (Nat.le_of_ble_eq_true rfl) ?_⟩
  show vc P c_sector_Disk_Arm.code ⟨[(0, .ptr p 6 0 0), (1, .int .i64 n)], [], h⟩ (atEnd c_sector_Disk_Arm.res _)
  have B := a.row
  have lt := (List.getElem?_eq_some_iff.1 B).1
  simp only [c_sector_Disk_Arm, go_sem, reduceIte, Nat.reduceEqDiff, Nat.reduceAdd, Nat.reduceLeDiff, Nat.reducePow, Nat.reduceDiv, Nat.reduceMod, decide_true, B, diskRow, lt]
  have e : decide (0 ≤ n) = decide (0 ≤ (d.arm n).left) := by simp only [Dk.arm]; split <;> simp <;> omega
  have := a.rowSet (d' := d.arm n) (k' := n) rfl rfl (by simp only [Dk.arm]; split <;> omega) hn (Dk.arm_ok a.ok hn.2)
  have e1 : (d.arm n).n = d.n := rfl
  have e2 : (d.arm n).off = d.off := rfl
  simpa [diskRow, e, e1, e2] using this

theorem new_ok {P : Program} {f : FuncId} (hf : Is P f c_sector_New) : NewDOk P f := by
  refine ⟨hf.2, fun h n => fun_sound hf.1 (Nat.le_of_ble_eq_true rfl) ?_⟩
  show vc P c_sector_New.code ⟨[(0, .int .i64 n)], [], h⟩ (atEnd c_sector_New.res _)
  by_cases c1 : n < 1
  · simp only [c_sector_New, go_sem, reduceIte, Nat.reduceEqDiff, Nat.reduceAdd, Nat.reduceLeDiff, Nat.reducePow, Nat.reduceDiv, Nat.reduceMod, decide_true, decide_eq_true c1]
    exact ⟨fun x => by omega, fun _ => trivial, Ext.refl _ _⟩
  · by_cases c2 : 16384 < n
    · simp only [c_sector_New, go_sem, reduceIte, Nat.reduceEqDiff, Nat.reduceAdd, Nat.reduceLeDiff, Nat.reducePow, Nat.reduceDiv, Nat.reduceMod, decide_true, decide_eq_false c1, decide_eq_true c2]
      exact ⟨fun x => by omega, fun _ => trivial, Ext.refl _ _⟩
    · simp only [c_sector_New, go_sem, reduceIte, Nat.reduceEqDiff, Nat.reduceAdd, Nat.reduceLeDiff, Nat.reducePow, Nat.reduceDiv, Nat.reduceMod, decide_true, decide_eq_false c1, decide_eq_false c2]
      have B := bx32 h (some (ABlk.map [])) (some (ABlk.map [])) (some (ABlk.arr 6 [[.int .i64 n, .mapv h.length, .mapv (h.length + 1), .bool false, .bool false, .int .i64 0]] false))
      have B0 := bx30 h (some (ABlk.map [])) (some (ABlk.map [])) (some (ABlk.arr 6 [[.int .i64 n, .mapv h.length, .mapv (h.length + 1), .bool false, .bool false, .int .i64 0]] false))
      have B1 := bx31 h (some (ABlk.map [])) (some (ABlk.map [])) (some (ABlk.arr 6 [[.int .i64 n, .mapv h.length, .mapv (h.length + 1), .bool false, .bool false, .int .i64 0]] false))
      have X := Ext.b3 (h := h) (some (ABlk.map [])) (some (ABlk.map [])) (some (ABlk.arr 6 [[.int .i64 n, .mapv h.length, .mapv (h.length + 1), .bool false, .bool false, .int .i64 0]] false))
      have hl : (h ++ [some (ABlk.map [])] ++ [some (ABlk.map [])] ++ [some (ABlk.arr 6 [[.int .i64 n, .mapv h.length, .mapv (h.length + 1), .bool false, .bool false, .int .i64 0]] false)]).length = h.length + 3 := by simp
      generalize h ++ [some (ABlk.map [])] ++ [some (ABlk.map [])] ++ [some (ABlk.arr 6 [[.int .i64 n, .mapv h.length, .mapv (h.length + 1), .bool false, .bool false, .int .i64 0]] false)] = H at *
      exact ⟨fun x => ⟨_, rfl, h.length, h.length + 1, [], [], 0, B, B0, B1, by omega, ⟨by omega, by omega⟩, ⟨by omega, by omega⟩, ⟨by omega, by omega⟩, fun y => absurd y (by simp [Dk.new]), by omega, .nil _, .nil _, Dk.new_ok x⟩, fun x => by omega, X⟩

/-- as WriteOk, for bytes of any length -/
def WriteAOk (P : Program) (f : FuncId) : Prop := isFn P f = true ∧ ∀ (F G : Nat → Prop) (h : AHeap) (p : Nat) (d : Dk) (i : Int) (l : List Int) (a : AV), DiskAt F h p d → Rd G h (dBytes l) a → (∀ m, G m → ¬ F m) →
  ACalls P f [.ptr p 6 0 0, .int .i64 i, a] h fun r h' => r = .int .i64 (d.write i l).2 ∧ DiskAt F h' p (d.write i l).1 ∧ Ext F h h'
theorem WriteAOk.w {P : Program} {f : FuncId} (hc : WriteAOk P f) : WriteOk P f := ⟨hc.1, fun F G h p d i l a h1 h2 h3 _ => hc.2 F G h p d i l a h1 h2 h3⟩
theorem writeA_ok {P : Program} {f g1 g2 g3 : FuncId} (hf : Is P f (c_sector_Disk_Write g1 g2 g3)) (h1 : HasDOk P g1) (h2 : SpendOk P g2) (h3 : CloneBP P g3) : WriteAOk P f := by
  refine ⟨hf.2, fun F G h p d i b v ha hb hG => fun_sound hf.1 (Nat.le_of_ble_eq_true rfl) ?_⟩
  show vc P (c_sector_Disk_Write g1 g2 g3).code ⟨[(0, .ptr p 6 0 0), (1, .int .i64 i), (2, v)], [], h⟩ (atEnd (c_sector_Disk_Write g1 g2 g3).res _)
  have hwk := Dk.write_ok ha.ok i b
  have ha' := ha
  obtain ⟨l, c, es, cs, k, a⟩ := ha'
  have B := a.row
  have el := hb.bytes_len
  unfold Dk.write at hwk ⊢
  cases eo : d.off with
  | true =>
    rw [if_pos rfl]
    simp only [c_sector_Disk_Write, go_sem, reduceIte, Nat.reduceEqDiff, Nat.reduceAdd, Nat.reduceLeDiff, Nat.reducePow, Nat.reduceDiv, Nat.reduceMod, decide_true, B, diskRow, eo]
    exact ⟨ha, Ext.refl _ _⟩
  | false =>
    rw [eo] at hwk
    rw [if_neg (by simp)] at hwk ⊢
    simp only [c_sector_Disk_Write, go_sem, reduceIte, Nat.reduceEqDiff, Nat.reduceAdd, Nat.reduceLeDiff, Nat.reducePow, Nat.reduceDiv, Nat.reduceMod, decide_true, B, diskRow, eo]
    refine use1 h1.1 (h1.2 F h p d i ha) ?_
    by_cases c1 : 0 ≤ i ∧ i < d.n
    · rw [if_neg (by omega)] at hwk ⊢
      simp only [go_sem, reduceIte, Nat.reduceEqDiff, Nat.reduceAdd, Nat.reduceLeDiff, Nat.reducePow, Nat.reduceDiv, Nat.reduceMod, decide_true, decide_eq_true c1, Bool.not_true, el]
      by_cases c2 : 64 < (b.length : Int)
      · rw [if_pos (by omega)]
        simp only [go_sem, reduceIte, Nat.reduceEqDiff, Nat.reduceAdd, Nat.reduceLeDiff, Nat.reducePow, Nat.reduceDiv, Nat.reduceMod, decide_true, decide_eq_true c2]
        exact ⟨ha, Ext.refl _ _⟩
      · rw [if_neg (by omega)] at hwk ⊢
        simp only [go_sem, reduceIte, Nat.reduceEqDiff, Nat.reduceAdd, Nat.reduceLeDiff, Nat.reducePow, Nat.reduceDiv, Nat.reduceMod, decide_true, decide_eq_false c2]
        refine wCall_use ⟨h2.1, h2.2 F h p d ha⟩ ?_
        rintro _ H ⟨rfl, ha1, x1⟩
        cases es : d.spend.1 with
        | false =>
          rw [if_neg (by simp)]
          simp only [go_sem, reduceIte, Nat.reduceEqDiff, Nat.reduceAdd, Nat.reduceLeDiff, Nat.reducePow, Nat.reduceDiv, Nat.reduceMod, decide_true, es, Bool.not_false]
          exact ⟨ha1, x1⟩
        | true =>
          rw [es, if_pos rfl] at hwk
          rw [if_pos rfl]
          simp only [go_sem, reduceIte, Nat.reduceEqDiff, Nat.reduceAdd, Nat.reduceLeDiff, Nat.reducePow, Nat.reduceDiv, Nat.reduceMod, decide_true, es, Bool.not_true]
          obtain ⟨l', c', es', cs', k', a'⟩ := ha1
          have B' := a'.row
          have hb' := hb.mono (fun _ x => x) (x1.keepOff (F' := G) fun m _ hm => hG m hm)
          simp only [go_sem, reduceIte, Nat.reduceEqDiff, Nat.reduceAdd, Nat.reduceLeDiff, Nat.reducePow, Nat.reduceDiv, Nat.reduceMod, decide_true, B', diskRow]
          refine use1 h3.1 (h3.2 G H b v hb' (by omega)) ?_
          have ir : -9223372036854775808 ≤ i ∧ i ≤ 9223372036854775807 := by have := ha.ok.n; omega
          have am := amset_at a'.cm ir (abytes b)
          simp only [go_sem, reduceIte, Nat.reduceEqDiff, Nat.reduceAdd, Nat.reduceLeDiff, Nat.reducePow, Nat.reduceDiv, Nat.reduceMod, decide_true, B', diskRow, am]
          have hc := a'.cache
          rw [Dk.spend_cache] at hc
          have := a'.cacheSet (hc.put ha.ok.cache.1 ⟨i, b, false⟩) hwk
          exact ⟨⟨_, _, _, _, _, this.1⟩, x1.trans this.2 (fun _ _ x => x) (fun _ _ x => x)⟩
    · rw [if_pos (by omega)]
      simp only [go_sem, reduceIte, Nat.reduceEqDiff, Nat.reduceAdd, Nat.reduceLeDiff, Nat.reducePow, Nat.reduceDiv, Nat.reduceMod, decide_true, decide_eq_false c1, Bool.not_false]
      exact ⟨ha, Ext.refl _ _⟩
theorem write_ok {P : Program} {f g1 g2 g3 : FuncId} (hf : Is P f (c_sector_Disk_Write g1 g2 g3)) (h1 : HasDOk P g1) (h2 : SpendOk P g2) (h3 : CloneBP P g3) : WriteOk P f := (writeA_ok hf h1 h2 h3).w

theorem readD_ok {P : Program} {f g1 g2 : FuncId} (hf : Is P f (c_sector_Disk_Read g1 g2)) (h1 : HasDOk P g1) (h2 : CloneBOk P g2) : ReadDOk P f := by
  refine ⟨hf.2, fun F h p d i ha => fun_sound hf.1 (Nat.le_of_ble_eq_true rfl) ?_⟩
  show vc P (c_sector_Disk_Read g1 g2).code ⟨[(0, .ptr p 6 0 0), (1, .int .i64 i)], [], h⟩ (atEnd (c_sector_Disk_Read g1 g2).res _)
  have ha' := ha
  obtain ⟨l, c, es, cs, k, a⟩ := ha'
  have B := a.row
  simp only [c_sector_Disk_Read, go_sem, reduceIte, Nat.reduceEqDiff, Nat.reduceAdd, Nat.reduceLeDiff, Nat.reducePow, Nat.reduceDiv, Nat.reduceMod, decide_true]
  refine use1 h1.1 (h1.2 F h p d i ha) ?_
  unfold Dk.read
  by_cases c1 : 0 ≤ i ∧ i < d.n
  · rw [if_neg (by omega)]
    have ir : -9223372036854775808 ≤ i ∧ i ≤ 9223372036854775807 := by have := ha.ok.n; omega
    have lk := alook_ok a.cm .nils i
    rw [a.cache.2] at lk
    cases e1 : sfind d.cache i with
    | some s =>
      rw [e1] at lk
      simp only [Option.map_some, Option.getD_some, Option.isSome_some, cacheV] at lk
      have hs := ha.ok.cache.2 s (sfind_some e1).1
      simp only [go_sem, reduceIte, Nat.reduceEqDiff, Nat.reduceAdd, Nat.reduceLeDiff, Nat.reducePow, Nat.reduceDiv, Nat.reduceMod, decide_true, decide_eq_true c1, Bool.not_true, B, diskRow, lk]
      refine wCall_use ⟨h2.1, h2.2 nof h s.b (abytes s.b) (rd_abytes _ _ _) (by omega)⟩ ?_
      rintro r H ⟨ho, hx⟩
      simp only [go_sem, reduceIte, Nat.reduceEqDiff, Nat.reduceAdd, Nat.reduceLeDiff, Nat.reducePow, Nat.reduceDiv, Nat.reduceMod, decide_true]
      exact ⟨_, rfl, ho, hx⟩
    | none =>
      rw [e1] at lk
      simp only [Option.map_none, Option.getD_none, Option.isSome_none] at lk
      have lk2 := alook_at a.lm (.agg [.nils, .bool false]) i
      rw [a.lasts.2] at lk2
      obtain ⟨v, t, sb, ev, hv, hl, sv, cv, er⟩ : ∃ (v : AV) (t : Bool) (sb : List Int), ((sfind d.lasts i).map lastV).getD (.agg [.nils, .bool false]) = .agg [v, .bool t] ∧ (∀ h, Rd nof h (dBytes sb) v) ∧ sb.length ≤ 64 ∧ v.scalar = true ∧ v.cells? = some [v] ∧
          readL (sfind d.lasts i) = if t then ([], 9) else (sb, 0) := by
        cases e2 : sfind d.lasts i with
        | none => exact ⟨.nils, false, [], rfl, fun h => by simp only [dBytes, Rd]; exact ⟨[], .inl ⟨rfl, rfl⟩, by simp only [List.map_nil, RdLL]⟩, by simp, rfl, rfl, rfl⟩
        | some s =>
          cases et : s.torn with
          | true => exact ⟨.nils, true, [], by simp only [Option.map_some, Option.getD_some, lastV, et, if_true], fun h => by simp only [dBytes, Rd]; exact ⟨[], .inl ⟨rfl, rfl⟩, by simp only [List.map_nil, RdLL]⟩, by simp, rfl, rfl, by simp only [readL, et, if_true]⟩
          | false => exact ⟨abytes s.b, false, s.b, by simp only [Option.map_some, Option.getD_some, lastV, et]; rfl, fun h => rd_abytes _ _ _, (ha.ok.lasts.2 s (sfind_some e2).1).2.2, by rw [abytes_eq]; rfl, by rw [abytes_eq]; rfl, by simp only [readL, et]⟩
      rw [ev] at lk2
      simp only
      rw [er]
      simp only [go_sem, reduceIte, Nat.reduceEqDiff, Nat.reduceAdd, Nat.reduceLeDiff, Nat.reducePow, Nat.reduceDiv, Nat.reduceMod, decide_true, decide_eq_true c1, Bool.not_true, B, diskRow, lk, lk2, sv]
      cases t with
      | true =>
        simp only [go_sem, reduceIte, Nat.reduceEqDiff, Nat.reduceAdd, Nat.reduceLeDiff, Nat.reducePow, Nat.reduceDiv, Nat.reduceMod, decide_true]
        exact ⟨_, rfl, Own.nils 1, Ext.b1 _⟩
      | false =>
        simp only [go_sem, reduceIte, Nat.reduceEqDiff, Nat.reduceAdd, Nat.reduceLeDiff, Nat.reducePow, Nat.reduceDiv, Nat.reduceMod, decide_true]
        refine wCall_use ⟨h2.1, h2.2 nof _ sb v (hv _) (by omega)⟩ ?_
        rintro r H ⟨ho, hx⟩
        simp only [go_sem, reduceIte, Nat.reduceEqDiff, Nat.reduceAdd, Nat.reduceLeDiff, Nat.reducePow, Nat.reduceDiv, Nat.reduceMod, decide_true]
        exact ⟨_, rfl, Own.mono _ (fun m hm => by have := (Ext.b1 (h := h) (some (.arr 2 [[v, .bool false]] false))).1; omega) (fun _ _ _ x => x) _ ho, (Ext.b1 _).tr hx⟩
  · rw [if_pos (by omega)]
    simp only [go_sem, reduceIte, Nat.reduceEqDiff, Nat.reduceAdd, Nat.reduceLeDiff, Nat.reducePow, Nat.reduceDiv, Nat.reduceMod, decide_true, decide_eq_false c1, Bool.not_false]
    exact ⟨_, rfl, Own.nils 1, Ext.refl _ _⟩

end Glb

/-
  Layer 4: the numbers that are dirty; Flush and Crash.
-/
namespace Glb
open Go Go.MapKept
set_option maxRecDepth 10000
set_option maxHeartbeats 4000000

/-- the library's contracts: what maps.Keys hands back, and slices.Sorted of it -/
structure KeysKit (P : Program) (kf sf it : FuncId) : Prop where
  isk : isFn P kf = true
  iss : isFn P sf = true
  keys : ∀ (b : Nat) (w : World), Calls P kf #[.map (some b)] w fun e w' => e = .returned (.func (.func it) #[] #[.pointer (some ⟨w.heap.size, 0, none⟩)]) ∧ ∃ ty, w' = w.alloc (.cells #[.map (some b)] ty)
  sorted : ∀ (b blk : Nat) (es : Array MapEntry) (clock : Nat) (ks : List Int) (w : World), w.heap[b]? = some (.map es clock) → Stamped es clock → es.size ≤ 2^20 →
    es.toList.map (·.key) = ks.map (Value.int .i64) → (∀ k ∈ ks, -9223372036854775808 ≤ k ∧ k ≤ 9223372036854775807) → blk < w.heap.size → w.cell? ⟨blk, 0, none⟩ = some (.map (some b)) →
    Calls P sf #[.func (.func it) #[] #[.pointer (some ⟨blk, 0, none⟩)]] w fun e w' => ∃ (v : Value) (ss : List Int) (ty : TypeId), e = .returned v ∧ ss.Perm ks ∧
      w'.ownsRow w.heap.size ty 1 v ss.length ((ss.mergeSort (fun x y => decide (x ≤ y))).map (Value.int .i64)) ∧ Go.RowKit.Below w.heap.size w w'

def KeysOk (P : Program) (kf it : FuncId) : Prop := isFn P kf = true ∧ ∀ (h : AHeap) (n : Nat) (es : List (Int × AV)), h[n]? = some (some (.map es)) →
  ACalls P kf [.mapv n] h fun r h' => r = .clo it [] [.ptr h.length 1 0 0] ∧ h' = h ++ [some (.arr 1 [[.mapv n]] false)]
def SortedOk (P : Program) (sf it : FuncId) : Prop := isFn P sf = true ∧ ∀ (h : AHeap) (n m : Nat) (es : List (Int × AV)) (g : Bool), h[n]? = some (some (.map es)) → es.length ≤ 2^20 → h[m]? = some (some (.arr 1 [[.mapv n]] g)) →
  ACalls P sf [.clo it [] [.ptr m 1 0 0]] h fun r h' => ∃ ss : List Int, ss.Perm (es.map (·.1)) ∧ Own (dInts (sorted ss)) (fun k => h.length ≤ k) h' r ∧ Ext nof h h'

/-- a row that a call made -/
theorem Gam.gets {G : Gh} {w w' : World} {h : AHeap} (g : Gam G w h) (hr : Rest w w') (hs : ∀ k, k < w.heap.size → w'.heap[k]? = w.heap[k]?) {ob : Option Nat} {sz : Nat} {es : List (List AV)} {gr : Bool} (hob : ∀ b, ob = some b → w.heap.size ≤ b)
    (hH : ∀ b, ob = some b → Holds (G.new ob) w' b sz es gr) (hnil : ob = none → es = []) : Gam (G.new ob) w' (h ++ [some (.arr sz es gr)]) ∧ Stp G w (G.new ob) w' := by
  have k0 := (g.stay hr hs).2.keep
  have k : Keeps G w (G.new ob) w' := by
    refine ⟨Nat.le_succ _, fun n b hn hb => ?_, fun n hn hb => ?_, fun t b hp => ?_, k0.heap, k0.shape⟩
    · simp only [Gh.new, Nat.ne_of_lt hn, if_false]; exact hb
    · simp only [Gh.new, Nat.ne_of_lt hn, if_false]; exact hb
    · cases t <;> exact hp
  refine ⟨g.gamName k hr.2.2.1 (fun n b hn hb => hs b (g.locLt hn hb)) (fun b hb => ⟨fun n hn hl => ?_, fun n ht => ?_, fun hS => ?_⟩) hH hnil, k, ⟨fun _ h => h, fun _ h => .inl h⟩, fun n hn => ?_, fun n hn => ?_, hr.2.2.1, fun b hb _ => hs b hb, fun b hb => ?_, hr⟩
  · have := g.locLt hn hl; have := hob b hb; omega
  · have := g.tagLt n b ht; have := hob b hb; omega
  · have := g.sLt b hS; have := hob b hb; omega
  · simp only [Gh.new, Nat.ne_of_lt hn, if_false]
  · simp only [Gh.new, Nat.ne_of_lt hn, if_false]
  · rcases hb with ⟨n, hn, he⟩ | ⟨n, hn⟩
    · by_cases hx : n = G.N
      · simp only [Gh.new, hx, if_true] at he; exact .inr (hob b he)
      · simp only [Gh.new, hx, if_false] at he
        exact .inl (.inl ⟨n, hn.resolve_right (fun x => hx x.1), he⟩)
    · exact .inl (.inr ⟨n, hn⟩)

theorem Rest.below {w w' : World} (b : Go.RowKit.Below w.heap.size w w') : Rest w w' := ⟨b.os, b.output, b.size, fun a ha => by simp only [World.frozen?, b.block _ ha]⟩

theorem keysOk {P : Program} {kf sf it : FuncId} (hk : KeysKit P kf sf it) : KeysOk P kf it := by
  refine ⟨hk.isk, fun h n es hn G w vs g hv => ?_⟩
  obtain ⟨v, rfl, hV⟩ := one_arg hv
  cases hV with
  | mapv _ b hN hb =>
    refine (hk.keys b w).mono ?_
    rintro e w' ⟨rfl, ty, rfl⟩
    have hVb : V G w (.mapv n) (.map (some b)) := .mapv n b hN hb
    have gn := g.gamNew (cells := #[.map (some b)]) (ty := ty) (sz := 1) (es := [[.mapv n]]) (gr := false) (fun e he => by simp at he; subst he; exact ⟨rfl, rfl⟩) (by simp) (fun _ => by simp) (fun i j c hc => by
      have : i = 0 ∧ j = 0 ∧ c = .mapv n := by
        cases i with
        | zero => cases j with
          | zero => simp [getc] at hc; exact ⟨rfl, rfl, hc.symm⟩
          | succ j => simp [getc] at hc
        | succ i => simp [getc] at hc
      obtain ⟨rfl, rfl, rfl⟩ := this
      exact ⟨_, rfl, hVb⟩)
    refine ⟨_, .clo it [] [.ptr h.length 1 0 0], _, _, rfl, ⟨rfl, rfl⟩, gn, ?_, g.stpNew _ _⟩
    refine .clo it [] #[] [.ptr h.length 1 0 0] _ rfl (fun j c v hc _ => by simp at hc) rfl (fun j c v hc hv => ?_)
    cases j with
    | zero =>
      simp at hc hv
      subst hc; subst hv
      have := V.ptr (G := G.new (some w.heap.size)) (w := w.alloc (.cells #[.map (some b)] ty)) h.length 1 0 0 w.heap.size (by simp [Gh.new, g.len]) (by simp [Gh.new, g.len])
      simpa using this
    | succ j => simp at hc

theorem sortedOk {P : Program} {kf sf it : FuncId} (hk : KeysKit P kf sf it) : SortedOk P sf it := by
  refine ⟨hk.iss, fun h n m es gr hn hl hm G w vs g hv => ?_⟩
  obtain ⟨v, rfl, hV⟩ := one_arg hv
  cases hV with
  | clo _ _ us _ vs h1 _ h3 h4 =>
    have hus : us = #[] := Array.eq_empty_of_size_eq_zero (by simpa using h1.symm)
    obtain ⟨pv, rfl⟩ : ∃ pv, vs = #[pv] := by
      match vs with
      | ⟨[v]⟩ => exact ⟨v, rfl⟩
      | ⟨[]⟩ => simp at h3
      | ⟨_ :: _ :: _⟩ => simp at h3
    subst hus
    have hp := h4 0 _ _ rfl rfl
    cases hp with
    | ptr _ _ _ _ blk hN hblk =>
      have lm := g.mkLive hm hblk
      obtain ⟨v0, hv0, -, hV0⟩ := (g.arr m 1 _ gr blk hm hblk).cell (i := 0) (j := 0) (c := .mapv n) rfl
      cases hV0 with
      | mapv _ b hNb hb =>
        obtain ⟨⟨entries, clock, hbl, hst, hsz, hes⟩, hnd, hrg⟩ := g.map n es b hn hb
        have hkeys : entries.toList.map (·.key) = (es.map (·.1)).map (Value.int .i64) := by
          apply List.ext_getElem?
          intro i
          simp only [List.getElem?_map, Array.getElem?_toList, List.map_map]
          cases he : es[i]? with
          | none =>
            have : es.length ≤ i := by simpa using he
            rw [Array.getElem?_eq_none (by omega)]; rfl
          | some kc =>
            obtain ⟨k, c⟩ := kc
            obtain ⟨e, h1, h2, -⟩ := hes i k c he
            simp [h1, h2]
        refine (hk.sorted b blk entries clock (es.map (·.1)) w hbl hst (by omega) hkeys (fun k hk => by obtain ⟨e, he, rfl⟩ := List.mem_map.1 hk; exact hrg e he) (g.locLt lm hblk) hv0).mono ?_
        rintro e w' ⟨v, ss, ty, rfl, hp, ⟨-, hrow⟩, hbelow⟩
        have hss : (sorted ss).length = ss.length := sorted_length ss
        have hr := Rest.below hbelow
        have row : List (List AV) := (sorted ss).map fun n => [.int .i64 n]
        have key : ∀ (ob : Option Nat), (∀ b, ob = some b → w.heap.size ≤ b) → (∀ b, ob = some b → Holds (G.new ob) w' b 1 ((sorted ss).map fun n => [AV.int .i64 n]) true) → (ob = none → ((sorted ss).map fun n => [AV.int .i64 n]) = []) →
            V (G.new ob) w' (.ref h.length 1 0 (sorted ss).length none) v → ∃ v' r h' G', Ending.returned v = .returned v' ∧ (∃ ss : List Int, ss.Perm (es.map (·.1)) ∧ Own (dInts (Glb.sorted ss)) (fun k => h.length ≤ k) h' r ∧ Ext nof h h') ∧ Gam G' w' h' ∧ V G' w' r v' ∧ Stp G w G' w' := by
          intro ob h1 h2 h3 h4
          obtain ⟨g', s'⟩ := g.gets hr hbelow.block h1 h2 h3
          refine ⟨v, _, _, _, rfl, ⟨ss, hp, ?_, Ext.b1 _⟩, g', h4, s'⟩
          simp only [dInts, Own]
          refine .inr (.inr ⟨h.length, 0, none, _, true, by simp, Nat.le_refl _, bx10 _ _, by simp, (fun c hc => by cases hc), ?_⟩)
          rw [List.drop_zero, List.take_of_length_le (by simp)]
          exact ownLL_ints .i64 _ _ _
        rcases hrow with ⟨rfl, h0⟩ | ⟨gb, cap, cur, rfl, h1, h2, h3, h4, h5, h6⟩
        · have e0 : sorted ss = [] := List.eq_nil_of_length_eq_zero (by omega)
          refine key none (fun b hb => by cases hb) (fun b hb => by cases hb) (fun _ => by rw [e0]; rfl) ?_
          rw [e0]
          exact .refNil _ _ _ (by simp [Gh.new, g.len]) (by simp [Gh.new, g.len]) (fun k hk => by cases hk)
        · refine key (some gb) (fun b hb => by cases hb; exact h1) (fun b hb => ?_) (fun x => by cases x) ?_
          · cases hb
            refine ⟨⟨cur, ty, h2, by simp; omega, fun x => (by cases x), fun i j c hc => ?_⟩, fun e he => ?_⟩
            · obtain ⟨hi, hj⟩ := getc_lt (sz := 1) (fun e he => by obtain ⟨x, _, rfl⟩ := List.mem_map.1 he; exact ⟨rfl, rfl⟩) hc
              have hj0 : j = 0 := by omega
              subst hj0
              rw [List.length_map] at hi
              simp only [getc, List.getElem?_map, List.getElem?_eq_getElem hi, Option.map_some, Option.bind_some] at hc
              simp at hc
              subst hc
              refine ⟨_, ?_, .int .i64 _⟩
              have h6' : (cur.toList.take (ss.length * 1))[i]? = some (.int .i64 (sorted ss)[i]) := by
                rw [h6]
                show ((sorted ss).map (Value.int .i64))[i]? = _
                simp [hi]
              rw [List.getElem?_take_of_lt (by omega)] at h6'
              simpa using h6'
            · obtain ⟨x, _, rfl⟩ := List.mem_map.1 he; exact ⟨rfl, rfl⟩
          · rw [hss]
            have := V.ref (G := G.new (some gb)) (w := w') h.length 1 0 ss.length none cap ty cur.size gb (by simp [Gh.new, g.len]) (by simp [Gh.new, g.len]) h3 (fun k hk => by cases hk) (by simp [World.shape?, h2]) (by omega)
            simpa using this

end Glb

/-
  Layer 4: Dirty, Flush and Crash.
-/
namespace Glb
open Go
set_option maxRecDepth 10000
set_option maxHeartbeats 4000000

def DirtyOk (P : Program) (f : FuncId) : Prop := isFn P f = true ∧ ∀ (F : Nat → Prop) (h : AHeap) (p : Nat) (d : Dk), DiskAt F h p d →
  ACalls P f [.ptr p 6 0 0] h fun r h' => Own (dInts d.dirty) (fun m => h.length ≤ m) h' r ∧ Ext nof h h'
def DirtyP (P : Program) (f : FuncId) : Prop := isFn P f = true ∧ ∀ (F : Nat → Prop) (h : AHeap) (p : Nat) (d : Dk), DiskAt F h p d →
  ACalls P f [.ptr p 6 0 0] h fun r h' => r = aints d.dirty ∧ h' = h
theorem DirtyOk.p {P : Program} {f : FuncId} (hc : DirtyOk P f) : DirtyP P f :=
  ⟨hc.1, fun F h p d ha => (hc.2 F h p d ha).freeze fun _ _ hk => ⟨hk.2, _, Frz.d (Own.fz (dInts d.dirty) (fun _ x => x) _ hk.1), rfl⟩⟩
def FlushDOk (P : Program) (f : FuncId) : Prop := isFn P f = true ∧ ∀ (F : Nat → Prop) (h : AHeap) (p : Nat) (d : Dk), DiskAt F h p d →
  ACalls P f [.ptr p 6 0 0] h fun r h' => r = .int .i64 d.flush.2 ∧ DiskAt F h' p d.flush.1 ∧ Ext F h h'
def CrashDOk (P : Program) (f : FuncId) : Prop := isFn P f = true ∧ ∀ (F G : Nat → Prop) (h : AHeap) (p : Nat) (d : Dk) (how : List Int) (a : AV), DiskAt F h p d → Rd G h (dInts how) a → (∀ m, G m → ¬ F m) →
  ACalls P f [.ptr p 6 0 0, a] h fun _ h' => DiskAt F h' p (d.crash how) ∧ Ext F h h'

theorem dirty_ok {P : Program} {f kf sf it : FuncId} (hf : Is P f (c_sector_Disk_Dirty kf sf)) (hk : KeysOk P kf it) (hs : SortedOk P sf it) : DirtyOk P f := by
  refine ⟨hf.2, fun F h p d ⟨l, c, es, cs, k, a⟩ => fun_sound hf.1 (Nat.le_of_ble_eq_true rfl) ?_⟩
  show vc P (c_sector_Disk_Dirty kf sf).code ⟨[(0, .ptr p 6 0 0)], [], h⟩ (atEnd (c_sector_Disk_Dirty kf sf).res _)
  have B := a.row
  simp only [c_sector_Disk_Dirty, go_sem, reduceIte, Nat.reduceEqDiff, Nat.reduceAdd, Nat.reduceLeDiff, Nat.reducePow, Nat.reduceDiv, Nat.reduceMod, decide_true, B, diskRow]
  refine wCall_use ⟨hk.1, hk.2 h c cs a.cm⟩ ?_
  rintro _ _ ⟨rfl, rfl⟩
  simp only [go_sem, reduceIte, Nat.reduceEqDiff, Nat.reduceAdd, Nat.reduceLeDiff, Nat.reducePow, Nat.reduceDiv, Nat.reduceMod, decide_true]
  have X := Ext.b1 (h := h) (some (.arr 1 [[.mapv c]] false))
  have hl : cs.length ≤ 2^20 := by
    rw [a.cache.len a.ok.cache.1]
    have := rises_len a.ok.cache.1 (a := 0) (b := d.n) fun s hs => ⟨(a.ok.cache.2 s hs).1, (a.ok.cache.2 s hs).2.1⟩
    have := a.ok.n
    omega
  refine wCall_use ⟨hs.1, hs.2 _ c h.length cs false (X.get a.cm) hl (bx10 _ _)⟩ ?_
  rintro r H ⟨ss, hp, ho, hx⟩
  simp only [go_sem, reduceIte, Nat.reduceEqDiff, Nat.reduceAdd, Nat.reduceLeDiff, Nat.reducePow, Nat.reduceDiv, Nat.reduceMod, decide_true]
  have e : sorted ss = d.dirty := a.cache.sorted a.ok.cache.1 hp
  rw [e] at ho
  exact ⟨Own.mono _ (fun m hm => by have := X.1; omega) (fun _ _ _ x => x) _ ho, X.tr hx⟩

theorem fold_ok {n : Int} {l : List Sec} (h : rises l ∧ ∀ s ∈ l, 0 ≤ s.no ∧ s.no < n ∧ s.b.length ≤ 64) {d : Dk} (hd : d.ok) (hn : n = d.n) : ({ d with lasts := l } : Dk).ok := ⟨hd.n, hd.left, by subst hn; exact h, hd.cache⟩

theorem flush_ok {P : Program} {f g1 g2 : FuncId} (hf : Is P f (c_sector_Disk_Flush g1 g2)) (h1 : SpendOk P g1) (h2 : DirtyP P g2) : FlushDOk P f := by
  refine ⟨hf.2, fun F h p d ha => fun_sound hf.1 (Nat.le_of_ble_eq_true rfl) ?_⟩
  show vc P (c_sector_Disk_Flush g1 g2).code ⟨[(0, .ptr p 6 0 0)], [], h⟩ (atEnd (c_sector_Disk_Flush g1 g2).res _)
  have hwk := Dk.flush_ok ha.ok
  have ha' := ha
  obtain ⟨l, c, es, cs, k, a⟩ := ha'
  have B := a.row
  unfold Dk.flush at hwk ⊢
  cases eo : d.off with
  | true =>
    rw [if_pos rfl]
    simp only [c_sector_Disk_Flush, go_sem, reduceIte, Nat.reduceEqDiff, Nat.reduceAdd, Nat.reduceLeDiff, Nat.reducePow, Nat.reduceDiv, Nat.reduceMod, decide_true, B, diskRow, eo]
    exact ⟨ha, Ext.refl _ _⟩
  | false =>
    rw [eo] at hwk
    rw [if_neg (by simp)] at hwk ⊢
    simp only [c_sector_Disk_Flush, go_sem, reduceIte, Nat.reduceEqDiff, Nat.reduceAdd, Nat.reduceLeDiff, Nat.reducePow, Nat.reduceDiv, Nat.reduceMod, decide_true, B, diskRow, eo]
    refine wCall_use ⟨h1.1, h1.2 F h p d ha⟩ ?_
    rintro _ H ⟨rfl, ha1, x1⟩
    cases es : d.spend.1 with
    | false =>
      rw [if_neg (by simp)]
      simp only [go_sem, reduceIte, Nat.reduceEqDiff, Nat.reduceAdd, Nat.reduceLeDiff, Nat.reducePow, Nat.reduceDiv, Nat.reduceMod, decide_true, es, Bool.not_false]
      exact ⟨ha1, x1⟩
    | true =>
      rw [es, if_pos rfl] at hwk
      rw [if_pos rfl]
      simp only [go_sem, reduceIte, Nat.reduceEqDiff, Nat.reduceAdd, Nat.reduceLeDiff, Nat.reducePow, Nat.reduceDiv, Nat.reduceMod, decide_true, es, Bool.not_true]
      refine use1 h2.1 (h2.2 F H p _ ha1) ?_
      have ed : d.spend.2.dirty = d.cache.map Sec.no := by unfold Dk.dirty; rw [Dk.spend_cache]
      rw [ed]
      simp only [go_sem, reduceIte, Nat.reduceEqDiff, Nat.reduceAdd, Nat.reduceLeDiff, Nat.reducePow, Nat.reduceDiv, Nat.reduceMod, decide_true]
      have lc : (d.cache.map Sec.no).length = d.cache.length := by simp
      have ks := Dk.spend_ok ha.ok
      obtain ⟨I, hI⟩ : ∃ I : Nat → Env → AHeap → Prop, ∀ m L h', I m L h' ↔ ∃ (i : Nat) (l : List Sec), lk 0 L = .ptr p 6 0 0 ∧ lk 15 L = aints (d.cache.map Sec.no) ∧ lk 16 L = .int .i64 d.cache.length ∧ lk 17 L = .int .i64 i ∧
        DiskAt F h' p { d.spend.2 with lasts := l } ∧ Ext F h h' ∧ (d.cache.drop i).foldl sput l = d.cache.foldl sput d.lasts ∧ i ≤ d.cache.length ∧ m = d.cache.length - i := ⟨_, fun _ _ _ => Iff.rfl⟩
      refine vc_loop I d.cache.length ((hI _ _ _).2 ⟨0, d.lasts, by simp [lk_ins, lk_cons], by simp [lk_ins], by simp [lk_ins], by simp [lk_ins], ?_, x1, rfl, by omega, by omega⟩) ?_
      · rw [← Dk.spend_lasts d]; exact ha1
      intro m L H2 hh
      obtain ⟨i, ls, k0, k15, k16, k17, ha2, x2, ef, hi, rfl⟩ := (hI _ _ _).1 hh
      simp only [c_sector_Disk_Flush_l0, go_sem, reduceIte, Nat.reduceEqDiff, Nat.reduceAdd, Nat.reduceLeDiff, Nat.reducePow, Nat.reduceDiv, Nat.reduceMod, decide_true, k0, k15, k16, k17]
      have ha2' := ha2
      obtain ⟨l2, c2, es2, cs2, kk, a2⟩ := ha2'
      have B2 := a2.row
      refine wCond_split (fun ci => ?_) (fun ci => ?_)
      · simp at ci
        have ci : i < d.cache.length := by omega
        obtain ⟨ad, q1, q2⟩ := (rd_aints nof H2 (d.cache.map Sec.no)).int_at (i := i) (by simpa using ci)
        have en : (d.cache.map Sec.no)[i]'(by simpa using ci) = (d.cache[i]'ci).no := by simp
        rw [en] at q2
        generalize es0 : d.cache[i]'ci = s at *
        have hs : s ∈ d.cache := by rw [← es0]; exact List.getElem_mem ci
        have hsr := ha.ok.cache.2 s hs
        have lk1 := alook_at a2.cm .nils s.no
        have hc2 := a2.cache
        have ec : ({ d.spend.2 with lasts := ls } : Dk).cache = d.cache := Dk.spend_cache d
        rw [ec] at hc2
        rw [hc2.2, sfind_mem ha.ok.cache.1 hs] at lk1
        simp only [Option.map_some, Option.getD_some, cacheV] at lk1
        have ir : -9223372036854775808 ≤ s.no ∧ s.no ≤ 9223372036854775807 := by have := ha.ok.n; omega
        have am := amset_at a2.lm ir (.agg [abytes s.b, .bool false])
        have ew : IntKind.i64.wrap (↑i + 1) = (i : Int) + 1 := wrap_i64 (by have := ha.ok.n; have := rises_len ha.ok.cache.1 (a := 0) (b := d.n) fun s hs => ⟨(ha.ok.cache.2 s hs).1, (ha.ok.cache.2 s hs).2.1⟩; omega)
        simp only [go_sem, reduceIte, Nat.reduceEqDiff, Nat.reduceAdd, Nat.reduceLeDiff, Nat.reducePow, Nat.reduceDiv, Nat.reduceMod, decide_true, k0, k15, k16, k17, q1, q2, B2, diskRow, lk1, am, ew]
        have et : lastV s = .agg [abytes s.b, .bool false] := by unfold lastV; rw [hsr.2.2.2]; rfl
        have hl2 : rises ls ∧ ∀ s ∈ ls, 0 ≤ s.no ∧ s.no < d.spend.2.n ∧ s.b.length ≤ 64 := ha2.ok.lasts
        have hput := a2.lasts.put hl2.1 s
        rw [et] at hput
        have nw := a2.lastsSet hput (fold_ok (lasts_put hl2 (by rw [Dk.spend_n]; exact ⟨hsr.1, hsr.2.1, hsr.2.2.1⟩)) ha2.ok rfl)
        refine ⟨_, by omega, (hI _ _ _).2 ⟨i + 1, sput ls s, by simp [lk_ins, k0], by simp [lk_ins, k15], by simp [lk_ins, k16], by simp [lk_ins], ⟨_, _, _, _, _, nw.1⟩, x2.trans nw.2 (fun _ _ x => x) (fun _ _ x => x), ?_, by omega, rfl⟩⟩
        rw [← es0, ← fold_at ci]; exact ef
      · simp at ci
        have ci : i = d.cache.length := by omega
        subst ci
        rw [List.drop_length, List.foldl_nil] at ef
        subst ef
        simp only [go_sem, reduceIte, Nat.reduceEqDiff, Nat.reduceAdd, Nat.reduceLeDiff, Nat.reducePow, Nat.reduceDiv, Nat.reduceMod, decide_true, k0, B2, diskRow, amclr_at a2.cm]
        have nw := a2.cacheSet (L := []) (.nil _) hwk
        exact ⟨⟨_, _, _, _, _, nw.1⟩, x2.trans nw.2 (fun _ _ x => x) (fun _ _ x => x)⟩

theorem crashD_ok {P : Program} {f g2 : FuncId} (hf : Is P f (c_sector_Disk_Crash g2)) (h2 : DirtyP P g2) : CrashDOk P f := by
  refine ⟨hf.2, fun F G h p d how v ha hv hG => fun_sound hf.1 (Nat.le_of_ble_eq_true rfl) ?_⟩
  show vc P (c_sector_Disk_Crash g2).code ⟨[(0, .ptr p 6 0 0), (1, v)], [], h⟩ (atEnd (c_sector_Disk_Crash g2).res _)
  have hwk := Dk.crash_ok ha.ok how
  simp only [c_sector_Disk_Crash, go_sem, reduceIte, Nat.reduceEqDiff, Nat.reduceAdd, Nat.reduceLeDiff, Nat.reducePow, Nat.reduceDiv, Nat.reduceMod, decide_true]
  refine use1 h2.1 (h2.2 F h p _ ha) ?_
  unfold Dk.dirty
  simp only [go_sem, reduceIte, Nat.reduceEqDiff, Nat.reduceAdd, Nat.reduceLeDiff, Nat.reducePow, Nat.reduceDiv, Nat.reduceMod, decide_true]
  have lc : (d.cache.map Sec.no).length = d.cache.length := by simp
  have lmax : d.cache.length ≤ 16384 := by have := ha.ok.n; have := rises_len ha.ok.cache.1 (a := 0) (b := d.n) fun s hs => ⟨(ha.ok.cache.2 s hs).1, (ha.ok.cache.2 s hs).2.1⟩; omega
  obtain ⟨I, hI⟩ : ∃ I : Nat → Env → AHeap → Prop, ∀ m L h', I m L h' ↔ ∃ (i : Nat) (l : List Sec), lk 0 L = .ptr p 6 0 0 ∧ lk 1 L = v ∧ lk 7 L = aints (d.cache.map Sec.no) ∧ lk 8 L = .int .i64 d.cache.length ∧ lk 9 L = .int .i64 i ∧
    DiskAt F h' p { d with lasts := l } ∧ Ext F h h' ∧ crashed (d.cache.drop i) (how.drop i) l = crashed d.cache how d.lasts ∧ i ≤ d.cache.length ∧ m = d.cache.length - i := ⟨_, fun _ _ _ => Iff.rfl⟩
  refine vc_loop I d.cache.length ((hI _ _ _).2 ⟨0, d.lasts, by simp [lk_ins, lk_cons], by simp [lk_ins, lk_cons], by simp [lk_ins], by simp [lk_ins], by simp [lk_ins], ha, Ext.refl _ _, rfl, by omega, by omega⟩) ?_
  intro m L H2 hh
  obtain ⟨i, ls, k0, k1, k7, k8, k9, ha2, x2, ef, hi, rfl⟩ := (hI _ _ _).1 hh
  simp only [c_sector_Disk_Crash_l0, go_sem, reduceIte, Nat.reduceEqDiff, Nat.reduceAdd, Nat.reduceLeDiff, Nat.reducePow, Nat.reduceDiv, Nat.reduceMod, decide_true, k0, k1, k7, k8, k9]
  have ha2' := ha2
  obtain ⟨l2, c2, es2, cs2, kk, a2⟩ := ha2'
  have B2 := a2.row
  have hv2 := Rd.mono (fun _ x => x) (x2.keepOff (F' := G) fun m _ hm => hG m hm) _ _ hv
  have lv := hv2.ints_len
  refine wCond_split (fun ci => ?_) (fun ci => ?_)
  · simp at ci
    have ci : i < d.cache.length := by omega
    obtain ⟨ad, q1, q2⟩ := (rd_aints nof H2 (d.cache.map Sec.no)).int_at (i := i) (by simpa using ci)
    have en : (d.cache.map Sec.no)[i]'(by simpa using ci) = (d.cache[i]'ci).no := by simp
    rw [en] at q2
    have ca := crashed_at (l := ls) (how := how) ci
    generalize es0 : d.cache[i]'ci = s at *
    have hs : s ∈ d.cache := by rw [← es0]; exact List.getElem_mem ci
    have hsr := ha.ok.cache.2 s hs
    have lk1 := alook_at a2.cm .nils s.no
    have hc2 : MapIs cacheV cs2 d.cache := a2.cache
    rw [hc2.2, sfind_mem ha.ok.cache.1 hs] at lk1
    simp only [Option.map_some, Option.getD_some, cacheV] at lk1
    have ir : -9223372036854775808 ≤ s.no ∧ s.no ≤ 9223372036854775807 := by have := ha.ok.n; omega
    have am := amset_at a2.lm ir (.agg [abytes s.b, .bool false])
    have am2 := amset_at a2.lm ir (.agg [.nils, .bool true])
    have ew : IntKind.i64.wrap (↑i + 1) = (i : Int) + 1 := wrap_i64 (by omega)
    have et : lastV s = .agg [abytes s.b, .bool false] := by unfold lastV; rw [hsr.2.2.2]; rfl
    have hl2 : rises ls ∧ ∀ s ∈ ls, 0 ≤ s.no ∧ s.no < d.n ∧ s.b.length ≤ 64 := ha2.ok.lasts
    by_cases c1 : i < how.length
    · have c1' : ¬ (how.length : Int) ≤ (i : Int) := by omega
      obtain ⟨av, z1, z2⟩ := hv2.int_at c1
      have eh : how[i]? = some how[i] := List.getElem?_eq_getElem c1
      rw [eh] at ca
      generalize how[i] = t at *
      simp only [cstep] at ca
      by_cases c2 : t = 0
      · rw [if_pos c2] at ca
        simp only [go_sem, reduceIte, Nat.reduceEqDiff, Nat.reduceAdd, Nat.reduceLeDiff, Nat.reducePow, Nat.reduceDiv, Nat.reduceMod, decide_true, k0, k1, k7, k8, k9, q1, q2, lv, decide_eq_false c1', z1, z2, decide_eq_true c2, ew]
        refine ⟨_, by omega, (hI _ _ _).2 ⟨i + 1, ls, by simp [lk_ins, k0], by simp [lk_ins, k1], by simp [lk_ins, k7], by simp [lk_ins, k8], by simp [lk_ins], ha2, x2, by rw [← ca]; exact ef, by omega, rfl⟩⟩
      · rw [if_neg c2] at ca
        by_cases c3 : t = 1
        · rw [if_pos c3] at ca
          simp only [go_sem, reduceIte, Nat.reduceEqDiff, Nat.reduceAdd, Nat.reduceLeDiff, Nat.reducePow, Nat.reduceDiv, Nat.reduceMod, decide_true, k0, k1, k7, k8, k9, q1, q2, lv, decide_eq_false c1', z1, z2, decide_eq_false c2, decide_eq_true c3, B2, diskRow, lk1, am, ew]
          have hput := a2.lasts.put hl2.1 s
          rw [et] at hput
          have nw := a2.lastsSet hput (fold_ok (lasts_put hl2 ⟨hsr.1, hsr.2.1, hsr.2.2.1⟩) ha2.ok rfl)
          refine ⟨_, by omega, (hI _ _ _).2 ⟨i + 1, _, by simp [lk_ins, k0], by simp [lk_ins, k1], by simp [lk_ins, k7], by simp [lk_ins, k8], by simp [lk_ins], ⟨_, _, _, _, _, nw.1⟩, x2.trans nw.2 (fun _ _ x => x) (fun _ _ x => x), by rw [← ca]; exact ef, by omega, rfl⟩⟩
        · rw [if_neg c3] at ca
          simp only [go_sem, reduceIte, Nat.reduceEqDiff, Nat.reduceAdd, Nat.reduceLeDiff, Nat.reducePow, Nat.reduceDiv, Nat.reduceMod, decide_true, k0, k1, k7, k8, k9, q1, q2, lv, decide_eq_false c1', z1, z2, decide_eq_false c2, decide_eq_false c3, B2, diskRow, am2, ew]
          have hput := a2.lasts.put hl2.1 ⟨s.no, [], true⟩
          have eb : lastV ⟨s.no, [], true⟩ = .agg [.nils, .bool true] := rfl
          rw [eb] at hput
          have nw := a2.lastsSet hput (fold_ok (lasts_put hl2 (s := ⟨s.no, [], true⟩) ⟨hsr.1, hsr.2.1, by simp⟩) ha2.ok rfl)
          refine ⟨_, by omega, (hI _ _ _).2 ⟨i + 1, _, by simp [lk_ins, k0], by simp [lk_ins, k1], by simp [lk_ins, k7], by simp [lk_ins, k8], by simp [lk_ins], ⟨_, _, _, _, _, nw.1⟩, x2.trans nw.2 (fun _ _ x => x) (fun _ _ x => x), by rw [← ca]; exact ef, by omega, rfl⟩⟩
    · have c1' : (how.length : Int) ≤ (i : Int) := by omega
      rw [List.getElem?_eq_none (by omega)] at ca
      simp only [cstep] at ca
      simp only [go_sem, reduceIte, Nat.reduceEqDiff, Nat.reduceAdd, Nat.reduceLeDiff, Nat.reducePow, Nat.reduceDiv, Nat.reduceMod, decide_true, k0, k1, k7, k8, k9, q1, q2, lv, decide_eq_true c1', ew]
      refine ⟨_, by omega, (hI _ _ _).2 ⟨i + 1, ls, by simp [lk_ins, k0], by simp [lk_ins, k1], by simp [lk_ins, k7], by simp [lk_ins, k8], by simp [lk_ins], ha2, x2, by rw [← ca]; exact ef, by omega, rfl⟩⟩
  · simp at ci
    have ci : i = d.cache.length := by omega
    subst ci
    rw [List.drop_length, crashed] at ef
    subst ef
    have lt := (List.getElem?_eq_some_iff.1 B2).1
    have nw := a2.cacheSet (L := []) (.nil _) ⟨ha.ok.n, ha.ok.left, lasts_crashed ha.ok.lasts ha.ok.cache.2 how, .nil, by simp⟩
    have B3 := nw.1.row
    have lt3 := (List.getElem?_eq_some_iff.1 B3).1
    simp only [go_sem, reduceIte, Nat.reduceEqDiff, Nat.reduceAdd, Nat.reduceLeDiff, Nat.reducePow, Nat.reduceDiv, Nat.reduceMod, decide_true, k0, B2, diskRow, amclr_at a2.cm]
    have np : ¬ c2 = p := fun x => a2.pc x.symm
    simp only [go_sem, reduceIte, Nat.reduceEqDiff, Nat.reduceAdd, Nat.reduceLeDiff, Nat.reducePow, Nat.reduceDiv, Nat.reduceMod, decide_true, np, lt, lt3, k0]
    have fin := nw.1.rowSet (d' := d.crash how) (k' := kk) rfl rfl (fun x => absurd x (by simp [Dk.crash])) a2.kr hwk
    have e0 : decide (0 ≤ (d.crash how).left) = false := rfl
    rw [e0] at fin
    have e1 : ∀ (a b : Option ABlk), ((List.set H2 c2 (some (ABlk.map []))).set p a).set p b = (List.set H2 c2 (some (ABlk.map []))).set p b := fun a b => List.set_set ..
    simp only [e1]
    exact ⟨fin.1, x2.trans (nw.2.trans fin.2 (fun _ _ x => x) (fun _ _ x => x)) (fun _ _ x => x) (fun _ _ x => x)⟩

end Glb
