/-
  A library of its own: its parts, one behind the other.
-/
import Derived.Test.YthbhbgnngmfpiaaGlbChkA
import Derived.Test.YthbhbgnngmfpiaaGlbSecD
import Derived.Test.YthbhbgnngmfpiaaGlbCglebelaw08
set_option linter.unusedSimpArgs false
set_option linter.unusedVariables false
/-
  Layer 8: what a Save leaves, where it is done and where the power fails.
-/
namespace Glb
open Go
set_option maxRecDepth 10000
set_option maxHeartbeats 8000000

/- sectors stay bytes -/
theorem Dk.spend_bts {d : Dk} (h : d.bts) : d.spend.2.bts := by unfold Dk.bts; rw [Dk.spend_lasts, Dk.spend_cache]; exact h
theorem bts_put {l : List Sec} (h : ∀ s ∈ l, bytesOk s.b) {x : Sec} (hx : bytesOk x.b) : ∀ s ∈ sput l x, bytesOk s.b := fun s hs => by
  rcases mem_sput hs with rfl | hs
  · exact hx
  · exact h s hs
theorem bts_fold {c : List Sec} (hc : ∀ s ∈ c, bytesOk s.b) : ∀ {l : List Sec}, (∀ s ∈ l, bytesOk s.b) → ∀ s ∈ c.foldl sput l, bytesOk s.b := by
  induction c with
  | nil => intro l h; exact h
  | cons y r ih => intro l h; exact ih (fun s hs => hc s (List.mem_cons_of_mem _ hs)) (bts_put h (hc y (by simp)))
theorem bts_crashed {c : List Sec} (hc : ∀ s ∈ c, bytesOk s.b) : ∀ {l : List Sec} (how : List Int), (∀ s ∈ l, bytesOk s.b) → ∀ s ∈ crashed c how l, bytesOk s.b := by
  induction c with
  | nil => intro l how h; exact h
  | cons y r ih =>
    intro l how h
    refine ih (fun s hs => hc s (List.mem_cons_of_mem _ hs)) _ ?_
    cases how.head? with
    | none => exact h
    | some v =>
      simp only [cstep]
      split
      · exact h
      · split
        · exact bts_put h (hc y (by simp))
        · exact bts_put h bytesOk_nil
theorem Dk.write_bts {d : Dk} (h : d.bts) (i : Int) {b : List Int} (hb : bytesOk b) : (d.write i b).1.bts := by
  unfold Dk.write
  split
  · exact h
  · split
    · exact h
    · split
      · exact h
      · split
        · exact ⟨by rw [Dk.spend_lasts]; exact h.1, bts_put h.2 hb⟩
        · exact Dk.spend_bts h
theorem Dk.flush_bts {d : Dk} (h : d.bts) : d.flush.1.bts := by
  unfold Dk.flush
  split
  · exact h
  · split
    · exact ⟨bts_fold h.2 h.1, by simp⟩
    · exact Dk.spend_bts h
theorem Dk.arm_bts {d : Dk} (h : d.bts) (n : Int) : (d.arm n).bts := h
theorem Dk.crash_bts {d : Dk} (h : d.bts) (how : List Int) : (d.crash how).bts := ⟨bts_crashed h.2 how h.1, by simp [Dk.crash]⟩
theorem Dk.new_bts (n : Int) : (Dk.new n).bts := ⟨by simp [Dk.new], by simp [Dk.new]⟩
theorem Dk.rest_bts {p : List Int} (hp : bytesOk p) (i e : Int) : ∀ (m k : Nat) {d : Dk}, d.bts → (d.rest i e p m k).1.bts
  | 0, _, _, h => h
  | m + 1, k, d, h => by
    have hw : (d.wr i e p k).1.bts := Dk.write_bts h _ (pieceK_bytes hp _ _)
    simp only [Dk.rest]
    split
    · exact Dk.rest_bts hp i e m (k + 1) hw
    · exact hw
theorem Dk.save_bts {d : Dk} (h : d.bts) {p : List Int} (hp : bytesOk p) (at' n e : Int) : (d.save at' n e p).1.bts := by
  unfold Dk.save
  split
  · exact h
  · split
    · exact h
    · have h1 := Dk.rest_bts hp (at' + e % 2 * n) e (many p - 1) 1 h
      have h2 : ((d.rest (at' + e % 2 * n) e p (many p - 1) 1).1.mid p).1.bts := by
        unfold Dk.mid; split
        · exact Dk.flush_bts h1
        · exact h1
      have h3 : (((d.rest (at' + e % 2 * n) e p (many p - 1) 1).1.mid p).1.end' (at' + e % 2 * n) e p).1.bts := by
        unfold Dk.end'; split
        · exact Dk.flush_bts (Dk.write_bts h2 _ (pieceK_bytes hp _ _))
        · exact Dk.write_bts h2 _ (pieceK_bytes hp _ _)
      unfold Dk.lay
      split
      · split
        · exact h3
        · exact h2
      · exact h1

/- one operation -/
theorem Dk.spend_cases (d : Dk) : (d.spend.1 = true ∧ d.spend.2.off = d.off ∧ (d.left < 0 → d.spend.2.left < 0)) ∨ (d.spend.1 = false ∧ d.spend.2.off = true ∧ 0 ≤ d.left) := by
  unfold Dk.spend
  split
  · rename_i c; exact .inr ⟨rfl, rfl, by omega⟩
  · split
    · rename_i c; exact .inl ⟨rfl, rfl, fun x => by simp only; omega⟩
    · exact .inl ⟨rfl, rfl, fun x => x⟩
theorem Dk.write_cases {d : Dk} (ho : d.off = false) {i : Int} (hi : 0 ≤ i ∧ i < d.n) {b : List Int} (hb : b.length ≤ 64) :
    (∃ e, d.write i b = (e, 0) ∧ e.n = d.n ∧ e.off = false ∧ e.lasts = d.lasts ∧ e.cache = sput d.cache ⟨i, b, false⟩ ∧ (d.left < 0 → e.left < 0)) ∨
    (∃ e, d.write i b = (e, 10) ∧ e.n = d.n ∧ e.off = true ∧ e.lasts = d.lasts ∧ e.cache = d.cache ∧ 0 ≤ d.left) := by
  unfold Dk.write
  rw [if_neg (by rw [ho]; simp), if_neg (by omega), if_neg (by omega)]
  rcases Dk.spend_cases d with ⟨h1, h2, h3⟩ | ⟨h1, h2, h3⟩
  · rw [h1, if_pos rfl]
    exact .inl ⟨_, rfl, Dk.spend_n d, by rw [← ho]; exact h2, Dk.spend_lasts d, rfl, h3⟩
  · rw [h1, if_neg (by simp)]
    exact .inr ⟨_, rfl, Dk.spend_n d, h2, Dk.spend_lasts d, Dk.spend_cache d, h3⟩
theorem Dk.flush_cases {d : Dk} (ho : d.off = false) :
    (∃ e, d.flush = (e, 0) ∧ e.n = d.n ∧ e.off = false ∧ e.lasts = d.cache.foldl sput d.lasts ∧ e.cache = [] ∧ (d.left < 0 → e.left < 0)) ∨
    (∃ e, d.flush = (e, 10) ∧ e.n = d.n ∧ e.off = true ∧ e.lasts = d.lasts ∧ e.cache = d.cache ∧ 0 ≤ d.left) := by
  unfold Dk.flush
  rw [if_neg (by rw [ho]; simp)]
  rcases Dk.spend_cases d with ⟨h1, h2, h3⟩ | ⟨h1, h2, h3⟩
  · rw [h1, if_pos rfl]
    exact .inl ⟨_, rfl, Dk.spend_n d, by rw [← ho]; exact h2, rfl, rfl, h3⟩
  · rw [h1, if_neg (by simp)]
    exact .inr ⟨_, rfl, Dk.spend_n d, h2, Dk.spend_lasts d, Dk.spend_cache d, h3⟩

/-- behind the pieces from k on -/
theorem Dk.rest_cases {p : List Int} {i e : Int} : ∀ (m k : Nat) {d : Dk}, d.off = false → rises d.cache → 0 ≤ i + k → i + k + m ≤ d.n →
    (∃ d', d.rest i e p m k = (d', 0) ∧ d'.n = d.n ∧ d'.off = false ∧ d'.lasts = d.lasts ∧ rises d'.cache ∧ (d.left < 0 → d'.left < 0) ∧ (m = 0 → d' = d) ∧
      (∀ q : Nat, k ≤ q → q < k + m → sfind d'.cache (i + q) = some ⟨i + q, pieceK e p q, false⟩) ∧ ∀ j, ¬ (i + k ≤ j ∧ j < i + k + m) → sfind d'.cache j = sfind d.cache j) ∨
    (∃ d', d.rest i e p m k = (d', 10) ∧ 0 ≤ d.left ∧ d'.n = d.n ∧ d'.off = true ∧ d'.lasts = d.lasts ∧ rises d'.cache ∧ ∀ j, ¬ (i + k ≤ j ∧ j < i + k + m) → sfind d'.cache j = sfind d.cache j)
  | 0, k, d, ho, hr, h0, hn => .inl ⟨d, rfl, rfl, ho, rfl, hr, fun x => x, fun _ => rfl, fun q h1 h2 => by omega, fun _ _ => rfl⟩
  | m + 1, k, d, ho, hr, h0, hn => by
    have hw := Dk.write_cases ho (i := i + k) ⟨h0, by omega⟩ (pieceK_len e p k)
    simp only [Dk.rest]
    rcases hw with ⟨d1, w1, w2, w3, w4, w5, w6⟩ | ⟨d1, w1, w2, w3, w4, w5, w6⟩
    · rw [show d.wr i e p k = (d1, 0) from w1, if_pos rfl]
      have hr1 : rises d1.cache := by rw [w5]; exact rises_sput hr _
      have f1 : ∀ j, sfind d1.cache j = if j = i + k then some ⟨i + k, pieceK e p k, false⟩ else sfind d.cache j := fun j => by rw [w5, sfind_sput hr]
      rcases Dk.rest_cases (p := p) (i := i) (e := e) m (k + 1) (d := d1) w3 hr1 (by omega) (by omega) with ⟨d', r1, r2, r3, r4, r5, r6, r7, r8, r9⟩ | ⟨d', r1, r2, r3, r4, r5, r6, r7⟩
      · refine .inl ⟨d', r1, r2.trans w2, r3, r4.trans w4, r5, fun x => r6 (w6 x), fun x => by omega, fun q h1 h2 => ?_, fun j hj => ?_⟩
        · by_cases c : q = k
          · subst c
            rw [r9 _ (by omega), f1, if_pos rfl]
          · exact r8 q (by omega) (by omega)
        · rw [r9 _ (by omega), f1, if_neg (by omega)]
      · refine .inr ⟨d', r1, ?_, r3.trans w2, r4, r5.trans w4, r6, fun j hj => ?_⟩
        · by_cases c : d.left < 0
          · have := w6 c; omega
          · omega
        · rw [r7 _ (by omega), f1, if_neg (by omega)]
    · rw [show d.wr i e p k = (d1, 10) from w1, if_neg (by simp)]
      exact .inr ⟨d1, rfl, w6, w2, w3, w4, by rw [w5]; exact hr, fun j _ => by rw [w5]⟩

/-- what lasts, by numbers -/
abbrev Dk.last (d : Dk) (j : Int) : Option Sec := sfind d.lasts j
theorem crash_last (d : Dk) (how : List Int) (h : rises d.lasts) {j : Int} (hj : sfind d.cache j = none) : (d.crash how).last j = d.last j :=
  crashed_not h (sfind_none.1 hj)

/-- a Save onto a disk of which all lasts: it is done, or the power fails ahead of the first piece, or behind the other ones -/
theorem Dk.lay_cases {d : Dk} (hd : d.ok) (ho : d.off = false) (hc : d.cache = []) {i e : Int} {p : List Int} (hi : 0 ≤ i ∧ i + many p ≤ d.n) :
    (∃ d', d.lay i e p = (d', 0) ∧ d'.n = d.n ∧ d'.off = false ∧ d'.cache = [] ∧ (d.left < 0 → d'.left < 0) ∧ (∀ k : Nat, k < many p → d'.last (i + k) = some ⟨i + k, pieceK e p k, false⟩) ∧ ∀ j, ¬ (i ≤ j ∧ j < i + many p) → d'.last j = d.last j) ∨
    (∃ d', d.lay i e p = (d', 10) ∧ 0 ≤ d.left ∧ d'.n = d.n ∧ d'.off = true ∧ ∀ how, (∀ j, ¬ (i + 1 ≤ j ∧ j < i + many p) → (d'.crash how).last j = d.last j) ∨
      ((∀ k : Nat, 1 ≤ k → k < many p → (d'.crash how).last (i + k) = some ⟨i + k, pieceK e p k, false⟩) ∧ (∀ j, ¬ (i ≤ j ∧ j < i + many p) → (d'.crash how).last j = d.last j) ∧
        ((d'.crash how).last i = d.last i ∨ (d'.crash how).last i = some ⟨i, pieceK e p 0, false⟩ ∨ (d'.crash how).last i = some ⟨i, [], true⟩))) := by
  have mp := many_pos p
  have hr0 : rises d.cache := by rw [hc]; exact .nil
  have hrl : rises d.lasts := hd.lasts.1
  unfold Dk.lay
  rcases Dk.rest_cases (p := p) (i := i) (e := e) (many p - 1) 1 ho hr0 (by omega) (by omega) with ⟨d1, r1, r2, r3, r4, r5, r6, r7, r8, r9⟩ | ⟨d1, r1, r2, r3, r4, r5, r6, r7⟩
  · rw [r1, if_pos rfl]
    have c1 : ∀ j, ¬ (i + 1 ≤ j ∧ j < i + many p) → sfind d1.cache j = none := fun j hj => by rw [r9 j (by omega), hc]; rfl
    have midc : (∃ d2, d1.mid p = (d2, 0) ∧ d2.n = d.n ∧ d2.off = false ∧ d2.cache = [] ∧ rises d2.lasts ∧ (d.left < 0 → d2.left < 0) ∧ (∀ k : Nat, 1 ≤ k → k < many p → d2.last (i + k) = some ⟨i + k, pieceK e p k, false⟩) ∧ ∀ j, ¬ (i + 1 ≤ j ∧ j < i + many p) → d2.last j = d.last j) ∨
        (∃ d2, d1.mid p = (d2, 10) ∧ 0 ≤ d.left ∧ d2.n = d.n ∧ d2.off = true ∧ d2.lasts = d.lasts ∧ d2.cache = d1.cache) := by
      unfold Dk.mid
      by_cases cm : 1 < many p
      · rw [if_pos cm]
        rcases Dk.flush_cases r3 with ⟨d2, f1, f2, f3, f4, f5, f6⟩ | ⟨d2, f1, f2, f3, f4, f5, f6⟩
        · have hf : ∀ j, d2.last j = match sfind d1.cache j with | some s => some s | none => d.last j := fun j => by show sfind d2.lasts j = _; rw [f4, sfind_fold r5 (by rw [r4]; exact hrl), r4]; rfl
          refine .inl ⟨d2, f1, f2.trans r2, f3, f5, ?_, fun x => f6 (r6 x), fun k h1 h2 => ?_, fun j hj => ?_⟩
          · rw [f4, r4]
            have : ∀ (c : List Sec) {l : List Sec}, rises l → rises (c.foldl sput l) := by
              intro c
              induction c with
              | nil => intro l h; exact h
              | cons y r ih => intro l h; exact ih (rises_sput h y)
            exact this _ hrl
          · rw [hf, r8 k h1 (by omega)]
          · rw [hf, c1 j hj]
        · refine .inr ⟨d2, f1, ?_, f2.trans r2, f3, f4.trans r4, f5⟩
          by_cases c : d.left < 0
          · have := r6 c; omega
          · omega
      · rw [if_neg cm]
        obtain rfl := r7 (by omega)
        exact .inl ⟨_, rfl, rfl, ho, hc, hrl, fun x => x, fun k h1 h2 => by omega, fun _ _ => rfl⟩
    rcases midc with ⟨d2, f1, f2, f3, f4, f5, f6, f7, f8⟩ | ⟨d2, f1, f2, f3, f4, f5, f6⟩
    · rw [f1, if_pos rfl]
      unfold Dk.end'
      have hb : ∀ (d' : Dk), d'.lasts = d2.lasts → d'.cache = [] → ∀ how, (∀ k : Nat, 1 ≤ k → k < many p → (d'.crash how).last (i + k) = some ⟨i + k, pieceK e p k, false⟩) ∧ (∀ j, ¬ (i ≤ j ∧ j < i + many p) → (d'.crash how).last j = d.last j) ∧ (d'.crash how).last i = d.last i := by
        intro d' h1 h2 how
        have : ∀ j, (d'.crash how).last j = d2.last j := fun j => by rw [crash_last d' how (by rw [h1]; exact f5) (by rw [h2]; rfl)]; show sfind d'.lasts j = _; rw [h1]
        exact ⟨fun k a b => by rw [this, f7 k a b], fun j hj => by rw [this, f8 j (by omega)], by rw [this, f8 i (by omega)]⟩
      rcases Dk.write_cases f3 (i := i + (0 : Nat)) ⟨by omega, by omega⟩ (pieceK_len e p 0) with ⟨d3, w1, w2, w3, w4, w5, w6⟩ | ⟨d3, w1, w2, w3, w4, w5, w6⟩
      · rw [show d2.wr i e p 0 = (d3, 0) from w1, if_pos rfl]
        have w5' : d3.cache = [⟨i, pieceK e p 0, false⟩] := by rw [w5, f4, Int.ofNat_zero, Int.add_zero]; rfl
        have hr3 : rises d3.cache := by rw [w5']; exact List.pairwise_singleton _ _
        rcases Dk.flush_cases w3 with ⟨d4, g1, g2, g3, g4, g5, g6⟩ | ⟨d4, g1, g2, g3, g4, g5, g6⟩
        · have hf : ∀ j, d4.last j = if j = i then some ⟨i, pieceK e p 0, false⟩ else d2.last j := fun j => by
            show sfind d4.lasts j = _
            rw [g4, w5', w4, List.foldl_cons, List.foldl_nil, sfind_sput f5]
          refine .inl ⟨d4, g1, (g2.trans w2).trans f2, g3, g5, fun x => g6 (w6 (f6 x)), fun k hk => ?_, fun j hj => ?_⟩
          · rw [hf]
            by_cases c : k = 0
            · subst c; rw [if_pos (by simp)]; simp
            · rw [if_neg (by omega), f7 k (by omega) hk]
          · rw [hf, if_neg (by omega), f8 j (by omega)]
        · refine .inr ⟨d4, g1, ?_, (g2.trans w2).trans f2, g3, fun how => .inr ?_⟩
          · by_cases c : d.left < 0
            · have := w6 (f6 c); omega
            · omega
          · have hl : ∀ j, (d4.crash how).last j = if j = i then cwant how.head? ⟨i, pieceK e p 0, false⟩ (d2.last i) else d2.last j := fun j => by
              show sfind (crashed d4.cache how d4.lasts) j = _
              rw [g5, w5', g4, w4, crashed, crashed, sfind_cstep f5]
              simp only
              split
              · rename_i x; rw [x]
              · rfl
            refine ⟨fun k a b => by rw [hl, if_neg (by omega), f7 k a b], fun j hj => by rw [hl, if_neg (by omega), f8 j (by omega)], ?_⟩
            rw [hl, if_pos rfl, f8 i (by omega)]
            unfold cwant
            split
            · exact .inl rfl
            · split
              · exact .inl rfl
              · split
                · exact .inr (.inl rfl)
                · exact .inr (.inr rfl)
      · rw [show d2.wr i e p 0 = (d3, 10) from w1, if_neg (by simp)]
        refine .inr ⟨d3, rfl, ?_, w2.trans f2, w3, fun how => .inr ?_⟩
        · by_cases c : d.left < 0
          · have := f6 c; omega
          · omega
        · obtain ⟨a1, a2, a3⟩ := hb d3 w4 (w5.trans f4) how
          exact ⟨a1, a2, .inl a3⟩
    · rw [f1, if_neg (by simp)]
      refine .inr ⟨d2, rfl, f2, f3, f4, fun how => .inl fun j hj => ?_⟩
      rw [crash_last d2 how (by rw [f5]; exact hrl) (by rw [f6]; exact c1 j hj)]
      show sfind d2.lasts j = _
      rw [f5]
  · rw [r1, if_neg (by simp)]
    refine .inr ⟨d1, rfl, r2, r3, r4, fun how => .inl fun j hj => ?_⟩
    rw [crash_last d1 how (by rw [r5]; exact hrl) (by rw [r7 j (by omega), hc]; rfl)]
    show sfind d1.lasts j = _
    rw [r5]

end Glb

/-
  Layer 8: slots behind a Save, and what is loaded.
-/
namespace Glb
open Go
set_option maxRecDepth 10000
set_option maxHeartbeats 8000000

theorem Dk.rest_ok {p : List Int} (i e : Int) : ∀ (m k : Nat) {d : Dk}, d.ok → (d.rest i e p m k).1.ok
  | 0, _, _, h => h
  | m + 1, k, d, h => by
    have hw : (d.wr i e p k).1.ok := Dk.write_ok h _ _
    simp only [Dk.rest]
    split
    · exact Dk.rest_ok i e m (k + 1) hw
    · exact hw
theorem Dk.save_ok {d : Dk} (h : d.ok) (p : List Int) (at' n e : Int) : (d.save at' n e p).1.ok := by
  unfold Dk.save
  split
  · exact h
  · split
    · exact h
    · have h1 := Dk.rest_ok (p := p) (at' + e % 2 * n) e (many p - 1) 1 h
      have h2 : ((d.rest (at' + e % 2 * n) e p (many p - 1) 1).1.mid p).1.ok := by
        unfold Dk.mid; split
        · exact Dk.flush_ok h1
        · exact h1
      have h3 : (((d.rest (at' + e % 2 * n) e p (many p - 1) 1).1.mid p).1.end' (at' + e % 2 * n) e p).1.ok := by
        unfold Dk.end'; split
        · exact Dk.flush_ok (Dk.write_ok h2 _ _)
        · exact Dk.write_ok h2 _ _
      unfold Dk.lay
      split
      · split
        · exact h3
        · exact h2
      · exact h1

theorem Dk.read_last {d : Dk} (hc : d.cache = []) {j : Int} (hj : 0 ≤ j ∧ j < d.n) : d.read j = readL (d.last j) := by
  unfold Dk.read
  rw [if_neg (by omega), hc]
  rfl
theorem Dk.slot_last {d : Dk} (hc : d.cache = []) {i : Int} {k : Nat} (hj : 0 ≤ i + k ∧ i + k < d.n) : d.slot i k = if (readL (d.last (i + k))).2 = 0 then pc (readL (d.last (i + k))).1 k else none := by
  unfold Dk.slot; rw [Dk.read_last hc hj]
def Dk.wh (d : Dk) (at' n s : Int) : List Int × Int := whole (d.slot (at' + s * n)) n.toNat s

/-- a disk of which all lasts, of whose slots no first piece is behind an epoch -/
structure Ckd (d : Dk) (at' n E : Int) : Prop where
  ok : d.ok
  off : d.off = false
  cache : d.cache = []
  may : d.may at' n
  fst : ∀ s, s = 0 ∨ s = 1 → ∀ e l q, d.slot (at' + s * n) 0 = some (e, l, q) → fitE e s → e ≤ E

theorem Ckd.wh_le {d : Dk} {at' n E : Int} (h : Ckd d at' n E) {s : Int} (hs : s = 0 ∨ s = 1) : d.wh at' n s = ([], 0) ∨ ((d.wh at' n s).2 ≤ E ∧ fitE (d.wh at' n s).2 s) := by
  rcases whole_or (g := d.slot (at' + s * n)) (n := n.toNat) (s := s) with x | ⟨e, l, p, h1, h2, h3⟩
  · exact .inl x
  · exact .inr ⟨by unfold Dk.wh; rw [h3]; exact h.fst s hs e l p h1 h2, by unfold Dk.wh; rw [h3]; exact h2⟩
theorem load_wh {d : Dk} {at' n : Int} (hm : d.may at' n) : d.load at' n = if (d.wh at' n 0).2 = 0 ∧ (d.wh at' n 1).2 = 0 then ([], 0, 6) else if (d.wh at' n 0).2 < (d.wh at' n 1).2 then ((d.wh at' n 1).1, (d.wh at' n 1).2, 0) else ((d.wh at' n 0).1, (d.wh at' n 0).2, 0) := by
  unfold Dk.load Dk.wh
  rw [if_neg (fun x => x hm), Int.zero_mul, Int.add_zero, Int.one_mul]
theorem Ckd.load {d : Dk} {at' n E : Int} (h : Ckd d at' n E) (hE : 1 ≤ E) {p : List Int} (hw : d.wh at' n (E % 2) = (p, E)) : d.load at' n = (p, E, 0) := by
  rw [load_wh h.may]
  rcases (by omega : E % 2 = 0 ∨ E % 2 = 1) with c | c <;> rw [c] at hw
  · have : (d.wh at' n 1).2 < E := by
      rcases h.wh_le (s := 1) (.inr rfl) with x | ⟨x, y⟩
      · rw [x]; exact hE
      · have := y.2.2; omega
    rw [hw, if_neg (fun x => by have := x.1; simp only at this; omega), if_neg (by simp only; omega)]
  · have : (d.wh at' n 0).2 < E := by
      rcases h.wh_le (s := 0) (.inl rfl) with x | ⟨x, y⟩
      · rw [x]; exact hE
      · have := y.2.2; omega
    rw [hw, if_neg (fun x => by have := x.2; simp only at this; omega), if_pos this]
theorem Ckd.none {d : Dk} {at' n : Int} (h : Ckd d at' n 0) : d.load at' n = ([], 0, 6) := by
  rw [load_wh h.may]
  have : ∀ s, s = 0 ∨ s = 1 → (d.wh at' n s).2 = 0 := fun s hs => by
    rcases h.wh_le hs with x | ⟨x, y⟩
    · rw [x]
    · have := y.1; omega
  rw [if_pos ⟨this 0 (.inl rfl), this 1 (.inr rfl)⟩]

/-- slots of disks that hold the same there -/
theorem slot_same {d d' : Dk} (hc : d.cache = []) (hc' : d'.cache = []) (hn : d'.n = d.n) {i : Int} {k : Nat} (hj : 0 ≤ i + k ∧ i + k < d.n) (h : d'.last (i + k) = d.last (i + k)) : d'.slot i k = d.slot i k := by
  rw [Dk.slot_last hc hj, Dk.slot_last hc' (by omega), h]
theorem slot_piece {d : Dk} (hc : d.cache = []) {i e : Int} {p : List Int} {k : Nat} (hj : 0 ≤ i + k ∧ i + k < d.n) (h : d.last (i + k) = some ⟨i + k, pieceK e p k, false⟩) (he : 0 ≤ e ∧ e ≤ maxNo) (hp : p.length ≤ 1099511627776) (hk : k < many p) :
    d.slot i k = some (e, decide (k + 1 = many p), cutAt p k) := by
  rw [Dk.slot_last hc hj, h]
  simp only [readL, Bool.false_eq_true, if_false, if_true]
  exact pc_pieceK he hp hk

theorem Ckd.save {d : Dk} {at' n E : Int} (h : Ckd d at' n E) {x E' : Int} {p : List Int} (hx : 1 ≤ x ∧ x ≤ maxNo) (hE : E ≤ E') (hx' : x ≤ E') (hp : (many p : Int) ≤ n) (hl : p.length ≤ 1099511627776) :
    (∃ d', d.save at' n x p = (d', 0) ∧ Ckd d' at' n E' ∧ d'.n = d.n ∧ (d.left < 0 → d'.left < 0) ∧ d'.wh at' n (x % 2) = (p, x) ∧ ∀ s, s = 0 ∨ s = 1 → s ≠ x % 2 → d'.wh at' n s = d.wh at' n s) ∨
    (∃ d', d.save at' n x p = (d', 10) ∧ d'.ok ∧ 0 ≤ d.left ∧ d'.off = true ∧ d'.n = d.n ∧ ∀ how, (∀ s, s = 0 ∨ s = 1 → s ≠ x % 2 → (d'.crash how).wh at' n s = d.wh at' n s) ∧
      (Ckd (d'.crash how) at' n E ∨ (Ckd (d'.crash how) at' n E' ∧ (d'.crash how).wh at' n (x % 2) = (p, x)))) := by
  have mp := many_pos p
  obtain ⟨m1, m2, m3⟩ := h.may
  have hs2 : x % 2 = 0 ∨ x % 2 = 1 := by omega
  obtain ⟨s, hs⟩ : ∃ s, s = x % 2 := ⟨_, rfl⟩
  have hok := Dk.save_ok h.ok p at' n x
  have e0 : d.save at' n x p = d.lay (at' + s * n) x p := by
    unfold Dk.save
    rw [if_neg (by rintro (y | y | y); exact y h.may; omega; omega), if_neg (by omega), hs]
  rw [e0] at hok ⊢
  rw [← hs] at hs2 ⊢
  have hi : ∀ t : Int, t = 0 ∨ t = 1 → at' ≤ at' + t * n ∧ at' + t * n + n ≤ d.n := fun t ht => by rcases ht with rfl | rfl <;> omega
  have far : ∀ t : Int, t = 0 ∨ t = 1 → t ≠ s → ∀ k : Nat, (k : Int) < n → ¬ (at' + s * n ≤ at' + t * n + k ∧ at' + t * n + k < at' + s * n + n) := fun t ht hts k hk => by
    rcases ht with rfl | rfl <;> rcases hs2 with rfl | rfl <;> omega
  have other : ∀ d' : Dk, d'.n = d.n → d'.cache = [] → (∀ j, ¬ (at' + s * n ≤ j ∧ j < at' + s * n + many p) → d'.last j = d.last j) → ∀ t, t = 0 ∨ t = 1 → t ≠ s → (∀ k : Nat, (k : Int) < n → d'.slot (at' + t * n) k = d.slot (at' + t * n) k) ∧ d'.wh at' n t = d.wh at' n t := fun d' hn hc hj t ht hts => by
    have key : ∀ k : Nat, (k : Int) < n → d'.slot (at' + t * n) k = d.slot (at' + t * n) k := fun k hk => by
      have := hi t ht
      exact slot_same h.cache hc hn (by omega) (hj _ (by have := far t ht hts k hk; omega))
    exact ⟨key, whole_congr (fun k hk => key k (by omega)) (by omega)⟩
  have his := hi s hs2
  have mine : ∀ d' : Dk, d'.n = d.n → d'.cache = [] → (∀ k : Nat, k < many p → d'.last (at' + s * n + k) = some ⟨at' + s * n + k, pieceK x p k, false⟩) → d'.slot (at' + s * n) 0 = some (x, decide (0 + 1 = many p), cutAt p 0) ∧ d'.wh at' n s = (p, x) := fun d' hn hc hk => by
    have key : holds (d'.slot (at' + s * n)) x p := fun k hk' => slot_piece hc (by omega) (hk k hk') (by omega) hl hk'
    exact ⟨key 0 (by omega), key.whole (by omega) ⟨hx.1, hx.2, hs.symm⟩⟩
  have full : ∀ d' : Dk, d'.ok → d'.off = false → d'.n = d.n → d'.cache = [] → (∀ k : Nat, k < many p → d'.last (at' + s * n + k) = some ⟨at' + s * n + k, pieceK x p k, false⟩) → (∀ j, ¬ (at' + s * n ≤ j ∧ j < at' + s * n + many p) → d'.last j = d.last j) → Ckd d' at' n E' := fun d' h1 h2 hn hc hk hj => by
    refine ⟨h1, h2, hc, ⟨m1, m2, by omega⟩, fun t ht e l q h3 h4 => ?_⟩
    by_cases c : t = s
    · subst c
      rw [(mine d' hn hc hk).1] at h3
      cases h3
      exact hx'
    · rw [(other d' hn hc hj t ht c).1 0 (by omega)] at h3
      exact Int.le_trans (h.fst t ht e l q h3 h4) hE
  rcases Dk.lay_cases h.ok h.off h.cache (i := at' + s * n) (e := x) (p := p) (by omega) with ⟨d', s1, s2, s3, s4, s5, s6, s7⟩ | ⟨d', s1, s2, s3, s4, s5⟩
  · rw [s1] at hok
    exact .inl ⟨d', s1, full d' hok s3 s2 s4 s6 s7, s2, s5, (mine d' s2 s4 s6).2, fun t ht hts => (other d' s2 s4 s7 t ht hts).2⟩
  · rw [s1] at hok
    refine .inr ⟨d', s1, hok, s2, s4, s3, fun how => ?_⟩
    have hco := Dk.crash_ok hok how
    have keep : (∀ j, ¬ (at' + s * n ≤ j ∧ j < at' + s * n + many p) → (d'.crash how).last j = d.last j) → ((d'.crash how).slot (at' + s * n) 0 = d.slot (at' + s * n) 0 ∨ (d'.crash how).slot (at' + s * n) 0 = Option.none) → Ckd (d'.crash how) at' n E := fun hj h0 => by
      refine ⟨hco, rfl, rfl, ⟨m1, m2, by show at' + 2 * n ≤ d'.n; omega⟩, fun t ht e l q h3 h4 => ?_⟩
      by_cases c : t = s
      · subst c
        rcases h0 with h0 | h0
        · rw [h0] at h3; exact h.fst _ ht e l q h3 h4
        · rw [h0] at h3; cases h3
      · rw [(other (d'.crash how) s3 rfl hj t ht c).1 0 (by omega)] at h3
        exact h.fst t ht e l q h3 h4
    rcases s5 how with a | ⟨a1, a2, a3⟩
    · have a' : ∀ j, ¬ (at' + s * n ≤ j ∧ j < at' + s * n + many p) → (d'.crash how).last j = d.last j := fun j hj => a j (by omega)
      exact ⟨fun t ht hts => (other (d'.crash how) s3 rfl a' t ht hts).2, .inl (keep a' (.inl (slot_same (d' := d'.crash how) (i := at' + s * n) (k := 0) h.cache rfl s3 (by omega) (a _ (by omega)))))⟩
    · refine ⟨fun t ht hts => (other (d'.crash how) s3 rfl a2 t ht hts).2, ?_⟩
      rcases a3 with b | b | b
      · exact .inl (keep a2 (.inl (slot_same (d' := d'.crash how) (i := at' + s * n) (k := 0) h.cache rfl s3 (by omega) (by simpa using b))))
      · have hk : ∀ k : Nat, k < many p → (d'.crash how).last (at' + s * n + k) = some ⟨at' + s * n + k, pieceK x p k, false⟩ := fun k hk => by
          by_cases c : k = 0
          · subst c; simpa using b
          · exact a1 k (by omega) hk
        exact .inr ⟨full (d'.crash how) hco rfl s3 rfl hk a2, (mine (d'.crash how) s3 rfl hk).2⟩
      · refine .inl (keep a2 (.inr ?_))
        rw [Dk.slot_last (d := d'.crash how) rfl (by show 0 ≤ at' + s * n + (0 : Nat) ∧ at' + s * n + (0 : Nat) < d'.n; omega)]
        simp only [Int.ofNat_zero, Int.add_zero, b, readL, if_true]
        rfl

end Glb

/-
  Layer 8: the laws of what works, and CheckBack.
-/
namespace Glb
open Go
set_option maxRecDepth 10000
set_option maxHeartbeats 16000000

theorem rowB_bytes (n : Nat) : bytesOk (rowB n) := by
  intro x hx
  unfold rowB at hx
  obtain ⟨i, hi, rfl⟩ := List.mem_map.1 hx
  simp [IntKind.wrap, IntKind.bits, IntKind.signed]
  omega
theorem Ckd.new {N n : Int} (hN : 1 ≤ N) {at' : Int} (ha : 0 ≤ at') (hn : 1 ≤ n ∧ n ≤ 16384) (hm : at' + 2 * N ≤ n) : Ckd (Dk.new n) at' N 0 := by
  refine ⟨Dk.new_ok hn, rfl, rfl, ⟨ha, hN, hm⟩, fun s hs e l q h1 h2 => ?_⟩
  have : (Dk.new n).slot (at' + s * N) 0 = Option.none := by
    unfold Dk.slot
    have : ((Dk.new n).read (at' + s * N + (0 : Nat))).1 = [] := by
      unfold Dk.read
      split
      · rfl
      · rfl
    rw [this]
    split
    · rfl
    · rfl
  rw [this] at h1
  cases h1

def Great8Ok (P : Program) (f : FuncId) : Prop := isFn P f = true ∧ ∀ (h : AHeap) (l : List (List Int)),
  ACalls P f [arows l] h fun r h' => (∃ b, r = .bool b ∧ (b = false → l.length ≤ 60 ∧ ∀ x ∈ l, x.length ≤ 4096)) ∧ h' = h

theorem great8_ok {P : Program} {f : FuncId} (hf : Is P f c_glebelaw08_great) : Great8Ok P f := by
  refine ⟨hf.2, fun h l => fun_sound hf.1 (Nat.le_of_ble_eq_true rfl) ?_⟩
  show vc P c_glebelaw08_great.code ⟨[(0, arows l)], [], h⟩ (atEnd c_glebelaw08_great.res _)
  by_cases c0 : 60 < (l.length : Int)
  · simp only [c_glebelaw08_great, go_sem, reduceIte, Nat.reduceEqDiff, Nat.reduceAdd, Nat.reduceLeDiff, Nat.reducePow, Nat.reduceDiv, Nat.reduceMod, decide_true, len_arows, decide_eq_true c0]
    exact ⟨true, rfl, fun x => by cases x⟩
  · simp only [c_glebelaw08_great, go_sem, reduceIte, Nat.reduceEqDiff, Nat.reduceAdd, Nat.reduceLeDiff, Nat.reducePow, Nat.reduceDiv, Nat.reduceMod, decide_true, len_arows, decide_eq_false c0]
    obtain ⟨I, hI⟩ : ∃ I : Nat → Env → AHeap → Prop, ∀ m E h', I m E h' ↔ ∃ (i : Nat), lk 0 E = arows l ∧ lk 3 E = .int .i64 i ∧ h' = h ∧ (∀ j (hj : j < l.length), j < i → l[j].length ≤ 4096) ∧ i ≤ l.length ∧ m = l.length - i := ⟨_, fun _ _ _ => Iff.rfl⟩
    refine vc_loop I l.length ((hI _ _ _).2 ⟨0, by simp [lk_ins, lk_cons], by simp [lk_ins], rfl, by omega, by omega, by omega⟩) ?_
    intro m E h' hh
    obtain ⟨i, k0, k3, rfl, hp, hi, rfl⟩ := (hI _ _ _).1 hh
    simp only [c_glebelaw08_great_l0, go_sem, reduceIte, Nat.reduceEqDiff, Nat.reduceAdd, Nat.reduceLeDiff, Nat.reducePow, Nat.reduceDiv, Nat.reduceMod, decide_true, k0, k3, len_arows]
    refine wCond_split (fun ci => ?_) (fun ci => ?_)
    · simp at ci
      obtain ⟨p, hp1, hp2⟩ := rows_at ci
      have e2 : IntKind.i64.wrap ((i : Int) + 1) = ((i + 1 : Nat) : Int) := by rw [wrap_i64 (by omega)]; omega
      by_cases c1 : 4096 < (l[i].length : Int)
      · simp only [go_sem, reduceIte, Nat.reduceEqDiff, Nat.reduceAdd, Nat.reduceLeDiff, Nat.reducePow, Nat.reduceDiv, Nat.reduceMod, decide_true, k0, k3, hp1, hp2, len_abytes, decide_eq_true c1]
        exact ⟨true, rfl, fun x => by cases x⟩
      · simp only [go_sem, reduceIte, Nat.reduceEqDiff, Nat.reduceAdd, Nat.reduceLeDiff, Nat.reducePow, Nat.reduceDiv, Nat.reduceMod, decide_true, k0, k3, hp1, hp2, len_abytes, decide_eq_false c1, e2]
        exact ⟨_, by omega, (hI _ _ _).2 ⟨i + 1, by simp [lk_ins, k0], by simp [lk_ins], rfl, fun j hj hji => by
          by_cases c : j = i
          · subst c; omega
          · exact hp j hj (by omega), by omega, rfl⟩⟩
    · simp at ci
      simp only [go_sem, reduceIte, Nat.reduceEqDiff, Nat.reduceAdd, Nat.reduceLeDiff, Nat.reducePow, Nat.reduceDiv, Nat.reduceMod, decide_true, k0, k3]
      refine ⟨false, rfl, fun _ => ⟨by omega, fun x hx => ?_⟩⟩
      obtain ⟨j, hj, rfl⟩ := List.getElem_of_mem hx
      exact hp j hj (by omega)

theorem works8_ok {P : Program} {f fn fs fr fl fb : FuncId} (hf : Is P f (c_glebelaw08_works fn fs fr fl fb)) (hn : NewDOk P fn) (hs : SaveOk P fs) (hr : RowOk P fr) (hl : LoadP P fl) (hb : SameOk P fb .u8) : YesOk P f := by
  refine ⟨hf.2, fun h => ACalls.freeze (K := fun r h' => r = .bool true ∧ Ext nof h h') (fun_sound hf.1 (Nat.le_of_ble_eq_true rfl) ?_) (fun r _ ⟨e, hx⟩ => ⟨hx, r, by rw [e]; exact Frz.bool _, e⟩)⟩
  show vc P (c_glebelaw08_works fn fs fr fl fb).code ⟨[], [], h⟩ (atEnd (c_glebelaw08_works fn fs fr fl fb).res _)
  simp only [c_glebelaw08_works, go_sem, reduceIte, Nat.reduceEqDiff, Nat.reduceAdd, Nat.reduceLeDiff, Nat.reducePow, Nat.reduceDiv, Nat.reduceMod, decide_true]
  refine wCall_use ⟨hn.1, hn.2 h 10⟩ ?_
  rintro r H ⟨e1, -, X⟩
  obtain ⟨p, rfl, a⟩ := e1 (by omega)
  obtain ⟨F, a, hF, hF2⟩ : ∃ F : Nat → Prop, DiskAt F H p (Dk.new 10) ∧ (∀ m, F m → m < H.length) ∧ (∀ m, m < h.length → ¬ F m) := ⟨_, a, fun m x => x.2, fun m x y => by have := y.1; omega⟩
  have k0 : Ckd (Dk.new 10) 1 3 0 := Ckd.new (by omega) (by omega) (by omega) (by omega)
  have l0 : (Dk.new 10).left < 0 := by show (-1 : Int) < 0; omega
  obtain ⟨d0, hd0⟩ : ∃ x, x = Dk.new 10 := ⟨_, rfl⟩
  rw [← hd0] at a k0 l0
  simp only [go_sem, reduceIte, Nat.reduceEqDiff, Nat.reduceAdd, Nat.reduceLeDiff, Nat.reducePow, Nat.reduceDiv, Nat.reduceMod, decide_true]
  have X1 := Ext.b1 (h := H) (some (.arr 1 [[.int .u8 7]] false))
  have rd1 : Rd (fun m => H.length ≤ m) (H ++ [some (.arr 1 [[.int .u8 7]] false)]) (dBytes [7]) (.ref H.length 1 0 1 (some 1)) := rd_litF (k := .u8) (xs := [7]) (bx10 _ _) rfl (Nat.le_refl _)
  refine wCall_use ⟨hs.1, hs.2 F (fun m => H.length ≤ m) _ p d0 1 3 1 [7] _ (a.up X1) rd1 (fun m hm x => by have := hF m x; omega) (fun m hm => by have := hF m hm; simp; omega) (by simp)⟩ ?_
  obtain ⟨d1, s1, k1, n1, l1, w1, -⟩ := (k0.save (x := 1) (E' := 1) (p := [7]) (by unfold maxNo; omega) (by omega) (by omega) (by decide) (by simp)).resolve_right fun ⟨_, _, _, x, _⟩ => by omega
  rw [s1]
  rintro _ H1 ⟨rfl, a1, x1⟩
  simp only [go_sem, reduceIte, Nat.reduceEqDiff, Nat.reduceAdd, Nat.reduceLeDiff, Nat.reducePow, Nat.reduceDiv, Nat.reduceMod, decide_true]
  have L1 : H.length ≤ H1.length := Nat.le_trans X1.1 x1.1
  have E1 : Ext nof h H1 := (X.tr X1).then x1 hF2
  refine use1 hr.1 (hr.2 H1 120 (by omega)) ?_
  simp only [go_sem, reduceIte, Nat.reduceEqDiff, Nat.reduceAdd, Nat.reduceLeDiff, Nat.reducePow, Nat.reduceDiv, Nat.reduceMod, decide_true]
  obtain ⟨d2, s2, k2, n2, l2, w2, -⟩ := (k1.save (x := 2) (E' := 2) (p := rowB 120) (by unfold maxNo; omega) (by omega) (by omega) (by decide) (by simp [rowB_length])).resolve_right fun ⟨_, _, _, x, _⟩ => by have := l1 l0; omega
  refine wCall_use ⟨hs.1, hs.2 F nof _ p d1 1 3 2 (rowB 120) _ a1 (rd_abytes _ _ _) (fun m x => x.elim) (fun m hm => by have := hF m hm; omega) (by simp [rowB_length])⟩ ?_
  rw [s2]
  rintro _ H2 ⟨rfl, a2, x2⟩
  have L2 : H.length ≤ H2.length := Nat.le_trans L1 x2.1
  have E2 : Ext nof h H2 := E1.then x2 hF2
  simp only [go_sem, reduceIte, Nat.reduceEqDiff, Nat.reduceAdd, Nat.reduceLeDiff, Nat.reducePow, Nat.reduceDiv, Nat.reduceMod, decide_true]
  have b2 : d2.bts := by
    have h1 := Dk.save_bts (Dk.new_bts 10) (p := [7]) (by intro x hx; simp at hx; omega) 1 3 1
    rw [← hd0, s1] at h1
    have h2 := Dk.save_bts h1 (rowB_bytes 120) 1 3 2
    rw [s2] at h2
    exact h2
  refine use1 hl.1 (hl.2 F H2 p d2 1 3 a2 b2) ?_
  rw [k2.load (by omega) (by simpa using w2)]
  have dt : decide ((2 : Int) = 2) = true := rfl
  simp only [go_sem, reduceIte, Nat.reduceEqDiff, Nat.reduceAdd, Nat.reduceLeDiff, Nat.reducePow, Nat.reduceDiv, Nat.reduceMod, decide_true]
  refine use1 hr.1 (hr.2 H2 120 (by omega)) ?_
  simp only [go_sem, reduceIte, Nat.reduceEqDiff, Nat.reduceAdd, Nat.reduceLeDiff, Nat.reducePow, Nat.reduceDiv, Nat.reduceMod, decide_true]
  refine use1 hb.1 (hb.2 (fun _ => True) _ (rowB 120) (rowB 120) _ _ (rd_abytes _ _ _) (rd_abytes _ _ _) (by simp [rowB_length])) ?_
  simp only [go_sem, reduceIte, Nat.reduceEqDiff, Nat.reduceAdd, Nat.reduceLeDiff, Nat.reducePow, Nat.reduceDiv, Nat.reduceMod, decide_true]
  refine use1 hr.1 (hr.2 H2 121 (by omega)) ?_
  simp only [go_sem, reduceIte, Nat.reduceEqDiff, Nat.reduceAdd, Nat.reduceLeDiff, Nat.reducePow, Nat.reduceDiv, Nat.reduceMod, decide_true]
  have s3 : d2.save 1 3 3 (rowB 121) = (d2, 2) := by
    unfold Dk.save
    rw [if_neg (by rintro (y | y | y); exact y k2.may; omega; unfold maxNo at y; omega), if_pos (by decide)]
  refine wCall_use ⟨hs.1, hs.2 F nof _ p d2 1 3 3 (rowB 121) _ a2 (rd_abytes _ _ _) (fun m x => x.elim) (fun m hm => by have := hF m hm; omega) (by simp [rowB_length])⟩ ?_
  rw [s3]
  rintro _ H3 ⟨rfl, a3, x3⟩
  simp only [go_sem, reduceIte, Nat.reduceEqDiff, Nat.reduceAdd, Nat.reduceLeDiff, Nat.reducePow, Nat.reduceDiv, Nat.reduceMod, decide_true]
  exact E2.then x3 hF2

end Glb

/-
  Layer 8: CheckBack.
-/
namespace Glb
open Go
set_option maxRecDepth 10000
set_option maxHeartbeats 16000000

end Glb

/-
  Layer 8: CheckApart.
-/
namespace Glb
open Go
set_option maxRecDepth 10000
set_option maxHeartbeats 16000000

theorem Dk.write_read {d : Dk} (h : d.ok) (i : Int) (b : List Int) {j : Int} (hj : j ≠ i) : (d.write i b).1.read j = d.read j := by
  unfold Dk.write
  split
  · rfl
  · split
    · rfl
    · split
      · rfl
      · split
        · unfold Dk.read
          simp only [Dk.spend_n, Dk.spend_lasts]
          rw [sfind_sput h.cache.1, if_neg hj]
        · exact Dk.read_eq (Dk.spend_n d) (fun i => by rw [Dk.spend_cache]) (fun i => by rw [Dk.spend_lasts]) j
theorem Dk.write_n (d : Dk) (i : Int) (b : List Int) : (d.write i b).1.n = d.n := by
  unfold Dk.write
  split
  · rfl
  · split
    · rfl
    · split
      · rfl
      · split
        · exact Dk.spend_n d
        · exact Dk.spend_n d
theorem Dk.write_cache (d : Dk) (i : Int) (b : List Int) : ∀ s ∈ (d.write i b).1.cache, s ∈ d.cache ∨ s.no = i := by
  unfold Dk.write
  split
  · exact fun s hs => .inl hs
  · split
    · exact fun s hs => .inl hs
    · split
      · exact fun s hs => .inl hs
      · split
        · intro s hs
          rcases mem_sput hs with rfl | hs
          · exact .inr rfl
          · exact .inl hs
        · rw [Dk.spend_cache]; exact fun s hs => .inl hs
theorem load_congr {d d' : Dk} (hn : d'.n = d.n) {at' n : Int} (h : ∀ j, at' ≤ j → j < at' + 2 * n → d'.read j = d.read j) : d'.load at' n = d.load at' n := by
  by_cases hm : d.may at' n
  · have hm' : d'.may at' n := by unfold Dk.may at *; omega
    obtain ⟨m1, m2, m3⟩ := hm
    have k0 : whole (d'.slot at') n.toNat 0 = whole (d.slot at') n.toNat 0 := whole_congr (fun k hk => by unfold Dk.slot; rw [h _ (by omega) (by omega)]) (by omega)
    have k1 : whole (d'.slot (at' + n)) n.toNat 1 = whole (d.slot (at' + n)) n.toNat 1 := whole_congr (fun k hk => by unfold Dk.slot; rw [h _ (by omega) (by omega)]) (by omega)
    unfold Dk.load
    rw [if_neg (c := ¬ d'.may at' n) (fun x => x hm'), if_neg (c := ¬ d.may at' n) (fun x => x ⟨m1, m2, m3⟩), k0, k1]
  · have hm' : ¬ d'.may at' n := by unfold Dk.may at *; omega
    unfold Dk.load
    rw [if_pos hm', if_pos hm]
theorem crash_read_not (d : Dk) (h : d.ok) (how : List Int) {j : Int} (hj : 0 ≤ j ∧ j < d.n) (hc : ∀ s ∈ d.cache, s.no ≠ j) : (d.crash how).read j = d.read j := by
  rw [crash_read d how hj, crashed_not h.lasts.1 hc]
  unfold Dk.read
  rw [if_neg (by omega), sfind_none.2 hc]

theorem apart8_ok {P : Program} {f fw fn fs fp fr fl fb fc : FuncId} (hf : Is P f (c_glebelaw08_CheckApart fw fn fs fp fr fl fb fc)) (hw : YesOk P fw) (hn : NewDOk P fn) (hs : SaveOk P fs) (hp : PickOk P fp) (hr : WriteAOk P fr) (hl : LoadP P fl) (hb : SameOk P fb .u8) (hc : CrashDOk P fc)
    (e : Int) (x : List Int) (l : List (List Int)) (ats : List Int) (hx : bytesOk x) (hB : ∀ x ∈ l, bytesOk x) (h : AHeap) : ACalls P f [.int .i64 e, abytes x, arows l, aints ats] h fun r _ => r = .bool true := by
  refine fun_sound hf.1 (Nat.le_of_ble_eq_true rfl) ?_
  show vc P (c_glebelaw08_CheckApart fw fn fs fp fr fl fb fc).code ⟨[(0, .int .i64 e), (1, abytes x), (2, arows l), (3, aints ats)], [], h⟩ (atEnd (c_glebelaw08_CheckApart fw fn fs fp fr fl fb fc).res _)
  simp only [c_glebelaw08_CheckApart, go_sem, reduceIte, Nat.reduceEqDiff, Nat.reduceAdd, Nat.reduceLeDiff, Nat.reducePow, Nat.reduceDiv, Nat.reduceMod, decide_true]
  refine use1 hw.1 (hw.2 _) ?_
  by_cases c1 : 4096 < (x.length : Int)
  · simp only [go_sem, reduceIte, Nat.reduceEqDiff, Nat.reduceAdd, Nat.reduceLeDiff, Nat.reducePow, Nat.reduceDiv, Nat.reduceMod, decide_true, len_abytes, decide_eq_true c1]
  by_cases c2 : 100 < (l.length : Int)
  · simp only [go_sem, reduceIte, Nat.reduceEqDiff, Nat.reduceAdd, Nat.reduceLeDiff, Nat.reducePow, Nat.reduceDiv, Nat.reduceMod, decide_true, len_abytes, len_arows, decide_eq_false c1, decide_eq_true c2]
  simp only [go_sem, reduceIte, Nat.reduceEqDiff, Nat.reduceAdd, Nat.reduceLeDiff, Nat.reducePow, Nat.reduceDiv, Nat.reduceMod, decide_true, len_abytes, len_arows, decide_eq_false c1, decide_eq_false c2]
  refine wCall_use ⟨hn.1, hn.2 h 400⟩ ?_
  rintro r H ⟨q1, -, X⟩
  obtain ⟨p, rfl, a⟩ := q1 (by omega)
  obtain ⟨F, a, hF⟩ : ∃ F : Nat → Prop, DiskAt F H p (Dk.new 400) ∧ (∀ m, F m → m < H.length) := ⟨_, a, fun m x => x.2⟩
  have k0 : Ckd (Dk.new 400) 50 103 0 := Ckd.new (by omega) (by omega) (by omega) (by omega)
  have l0 : (Dk.new 400).left < 0 := by show (-1 : Int) < 0; omega
  have b0 := Dk.save_bts (Dk.new_bts 400) hx 50 103 e
  have n0 : (Dk.new 400).n = 400 := rfl
  generalize Dk.new 400 = d0 at *
  simp only [go_sem, reduceIte, Nat.reduceEqDiff, Nat.reduceAdd, Nat.reduceLeDiff, Nat.reducePow, Nat.reduceDiv, Nat.reduceMod, decide_true]
  refine wCall_use ⟨hs.1, hs.2 F nof H p d0 50 103 e x _ a (rd_abytes _ _ _) (fun m x => x.elim) hF (by omega)⟩ ?_
  have long : d0.save 50 103 e x = (d0, 3) ∨ ¬ (e < 1 ∨ maxNo < e) := by
    unfold Dk.save
    by_cases c : e < 1 ∨ maxNo < e
    · exact .inl (if_pos (.inr c))
    · exact .inr c
  by_cases c3 : e < 1
  · rcases long with s1 | c
    · rw [s1]
      rintro _ H1 ⟨rfl, a1, x1⟩
      simp only [go_sem, reduceIte, Nat.reduceEqDiff, Nat.reduceAdd, Nat.reduceLeDiff, Nat.reducePow, Nat.reduceDiv, Nat.reduceMod, decide_true, decide_eq_true c3]
    · exact absurd (.inl c3) c
  by_cases c4 : 1099511627776 < e
  · rcases long with s1 | c
    · rw [s1]
      rintro _ H1 ⟨rfl, a1, x1⟩
      simp only [go_sem, reduceIte, Nat.reduceEqDiff, Nat.reduceAdd, Nat.reduceLeDiff, Nat.reducePow, Nat.reduceDiv, Nat.reduceMod, decide_true, decide_eq_false c3, decide_eq_true c4]
    · exact absurd (.inr (by unfold maxNo; exact c4)) c
  have hmany : (many x : Int) ≤ 103 := by have := (many_le (p := x) (n := 103) (by omega)).2 (by omega); omega
  obtain ⟨d1, s1, k1, n1, l1, w1, -⟩ := (k0.save (x := e) (E' := e) (p := x) (by unfold maxNo; omega) (by omega) (by omega) hmany (by omega)).resolve_right fun ⟨_, _, _, y, _⟩ => by omega
  rw [s1] at b0 ⊢
  have ld := k1.load (by omega) w1
  rintro _ H1 ⟨rfl, a1, x1⟩
  simp only [go_sem, reduceIte, Nat.reduceEqDiff, Nat.reduceAdd, Nat.reduceLeDiff, Nat.reducePow, Nat.reduceDiv, Nat.reduceMod, decide_true, decide_eq_false c3, decide_eq_false c4]
  obtain ⟨I, hI⟩ : ∃ I : Nat → Env → AHeap → Prop, ∀ m L h', I m L h' ↔ ∃ (i : Nat) (d : Dk), lk 0 L = .int .i64 e ∧ lk 1 L = abytes x ∧ lk 2 L = arows l ∧ lk 3 L = aints ats ∧ lk 9 L = .ptr p 6 0 0 ∧ lk 12 L = .int .i64 i ∧ DiskAt F h' p d ∧ d.bts ∧ d.n = 400 ∧ (∀ j, 50 ≤ j → j < 256 → d.read j = d1.read j) ∧ (∀ s ∈ d.cache, ¬ (50 ≤ s.no ∧ s.no < 256)) ∧ H1.length ≤ h'.length ∧ i ≤ l.length ∧ m = l.length - i := ⟨_, fun _ _ _ => Iff.rfl⟩
  refine vc_loop I l.length ((hI _ _ _).2 ⟨0, d1, by simp [lk_ins, lk_cons], by simp [lk_ins, lk_cons], by simp [lk_ins, lk_cons], by simp [lk_ins, lk_cons], by simp [lk_ins, lk_cons], by simp [lk_ins, lk_cons], a1, b0, by omega, fun _ _ _ => rfl, by rw [k1.cache]; simp, Nat.le_refl _, by omega, by omega⟩) ?_
  intro m L h1 hh
  obtain ⟨i, d, q0, q1, q2, q3, q9, q12, hd, hbt, hn4, hrd, hca, hlen, hi, rfl⟩ := (hI _ _ _).1 hh
  have la := (rd_aints nof h1 ats).ints_len
  by_cases ci : i < l.length
  · have ci1 : (i : Int) < l.length := by omega
    by_cases cj : i < ats.length
    · have cj1 : (i : Int) < ats.length := by omega
      obtain ⟨q, hp1, hp2⟩ := rows_at ci
      obtain ⟨u, hu1, hu2⟩ := (rd_aints nof h1 ats).int_at cj
      have bx := hB _ (List.getElem_mem ci)
      generalize l[i] = y at *
      generalize ats[i] = v at *
      have pk := pick_lt (k := v) (n := 194) (by omega)
      have ei : IntKind.i64.wrap ((i : Int) + 1) = ((i + 1 : Nat) : Int) := by rw [wrap_i64 (by omega)]; omega
      have step : ∀ (k : Int) (h2 : AHeap) (L' : Env), ¬ (50 ≤ k ∧ k < 256) → DiskAt F h2 p (d.write k y).1 → H1.length ≤ h2.length → lk 0 L' = .int .i64 e → lk 1 L' = abytes x → lk 2 L' = arows l → lk 3 L' = aints ats → lk 9 L' = .ptr p 6 0 0 → lk 12 L' = .int .i64 ((i + 1 : Nat) : Int) → ∃ m', m' < l.length - i ∧ I m' L' h2 := fun k h2 L' hk hd2 hl2 r0 r1 r2 r3 r9 r12 =>
 ⟨_, by omega, (hI _ _ _).2 ⟨i + 1, _, r0, r1, r2, r3, r9, r12, hd2, Dk.write_bts hbt _ bx, by rw [Dk.write_n]; exact hn4, fun j h1 h2 => by rw [Dk.write_read hd.ok _ _ (by omega)]; exact hrd j h1 h2, fun s hs => by
          rcases Dk.write_cache d k y s hs with hs | hs
          · exact hca s hs
          · omega, hl2, ci, rfl⟩⟩
      simp only [c_glebelaw08_CheckApart_l0, go_sem, reduceIte, Nat.reduceEqDiff, Nat.reduceAdd, Nat.reduceLeDiff, Nat.reducePow, Nat.reduceDiv, Nat.reduceMod, decide_true, q0, q1, q2, q3, q9, q12, len_arows, la, decide_eq_true ci1, decide_eq_true cj1, hu1, hu2]
      refine use1 hp.1 (hp.2 _ _ (by omega) h1) ?_
      generalize pick v 194 = k at *
      by_cases ck : 50 ≤ k
      · have ek : IntKind.i64.wrap (k + 206) = k + 206 := wrap_i64 (by omega)
        simp only [go_sem, reduceIte, Nat.reduceEqDiff, Nat.reduceAdd, Nat.reduceLeDiff, Nat.reducePow, Nat.reduceDiv, Nat.reduceMod, decide_true, q0, q1, q2, q3, q9, q12, decide_eq_true ck, ek, hp1, hp2]
        refine wCall_use ⟨hr.1, hr.2 F nof h1 p d (k + 206) y _ hd (rd_abytes _ _ _) (fun m x => x.elim)⟩ ?_
        rintro _ h2 ⟨rfl, hd2, x2⟩
        simp only [go_sem, reduceIte, Nat.reduceEqDiff, Nat.reduceAdd, Nat.reduceLeDiff, Nat.reducePow, Nat.reduceDiv, Nat.reduceMod, decide_true, q0, q1, q2, q3, q9, q12, ei]
        exact step _ _ _ (by omega) hd2 (by have := x2.1; omega) (by simp [lk_ins, q0]) (by simp [lk_ins, q1]) (by simp [lk_ins, q2]) (by simp [lk_ins, q3]) (by simp [lk_ins, q9]) (by simp [lk_ins])
      · simp only [go_sem, reduceIte, Nat.reduceEqDiff, Nat.reduceAdd, Nat.reduceLeDiff, Nat.reducePow, Nat.reduceDiv, Nat.reduceMod, decide_true, q0, q1, q2, q3, q9, q12, decide_eq_false ck, hp1, hp2]
        refine wCall_use ⟨hr.1, hr.2 F nof h1 p d k y _ hd (rd_abytes _ _ _) (fun m x => x.elim)⟩ ?_
        rintro _ h2 ⟨rfl, hd2, x2⟩
        simp only [go_sem, reduceIte, Nat.reduceEqDiff, Nat.reduceAdd, Nat.reduceLeDiff, Nat.reducePow, Nat.reduceDiv, Nat.reduceMod, decide_true, q0, q1, q2, q3, q9, q12, ei]
        exact step _ _ _ (by omega) hd2 (by have := x2.1; omega) (by simp [lk_ins, q0]) (by simp [lk_ins, q1]) (by simp [lk_ins, q2]) (by simp [lk_ins, q3]) (by simp [lk_ins, q9]) (by simp [lk_ins])
    · have cj1 : ¬ (i : Int) < ats.length := by omega
      simp only [c_glebelaw08_CheckApart_l0, go_sem, reduceIte, Nat.reduceEqDiff, Nat.reduceAdd, Nat.reduceLeDiff, Nat.reducePow, Nat.reduceDiv, Nat.reduceMod, decide_true, q0, q1, q2, q3, q9, q12, len_arows, la, decide_eq_true ci1, decide_eq_false cj1]
      refine use1 hl.1 (hl.2 F h1 p d 50 103 hd hbt) ?_
      rw [load_congr (d := d1) (by omega) (fun j h1 h2 => hrd j h1 (by omega)), ld]
      simp only [go_sem, reduceIte, Nat.reduceEqDiff, Nat.reduceAdd, Nat.reduceLeDiff, Nat.reducePow, Nat.reduceDiv, Nat.reduceMod, decide_true, q0, q1, q2, q3, q9, q12, Bool.not_true]
      refine use1 hb.1 (hb.2 (fun _ => True) _ x x _ _ (rd_abytes _ _ _) (rd_abytes _ _ _) (by omega)) ?_
      simp only [go_sem, reduceIte, Nat.reduceEqDiff, Nat.reduceAdd, Nat.reduceLeDiff, Nat.reducePow, Nat.reduceDiv, Nat.reduceMod, decide_true, q0, q1, q2, q3, q9, q12, Bool.not_true]
      have X2 := Ext.b1 (h := h1) (some (.arr 1 [[.int .i64 2], [.int .i64 1], [.int .i64 0], [.int .i64 2]] false))
      have rd1 : Rd (fun m => h1.length ≤ m) (h1 ++ [some (.arr 1 [[.int .i64 2], [.int .i64 1], [.int .i64 0], [.int .i64 2]] false)]) (dInts [2, 1, 0, 2]) (.ref h1.length 1 0 4 (some 4)) := rd_litF (k := .i64) (xs := [2, 1, 0, 2]) (bx10 _ _) rfl (Nat.le_refl _)
      refine wCall_use ⟨hc.1, hc.2 F (fun m => h1.length ≤ m) _ p d [2, 1, 0, 2] _ (hd.up X2) rd1 (fun m hm y => by have := hF m y; have := x1.1; omega)⟩ ?_
      rintro _ h2 ⟨hd2, x2⟩
      simp only [go_sem, reduceIte, Nat.reduceEqDiff, Nat.reduceAdd, Nat.reduceLeDiff, Nat.reducePow, Nat.reduceDiv, Nat.reduceMod, decide_true, q0, q1, q2, q3, q9, q12]
      refine use1 hl.1 (hl.2 F h2 p _ 50 103 hd2 (Dk.crash_bts hbt _)) ?_
      rw [load_congr (d := d1) (by show d.n = d1.n; omega) (fun j h1 h2 => by rw [crash_read_not d hd.ok _ (by omega) (fun s hs e => hca s hs (by omega))]; exact hrd j h1 (by omega)), ld]
      simp only [go_sem, reduceIte, Nat.reduceEqDiff, Nat.reduceAdd, Nat.reduceLeDiff, Nat.reducePow, Nat.reduceDiv, Nat.reduceMod, decide_true, q0, q1, q2, q3, q9, q12, Bool.not_true]
      refine use1 hb.1 (hb.2 (fun _ => True) _ x x _ _ (rd_abytes _ _ _) (rd_abytes _ _ _) (by omega)) ?_
      simp only [go_sem, reduceIte, Nat.reduceEqDiff, Nat.reduceAdd, Nat.reduceLeDiff, Nat.reducePow, Nat.reduceDiv, Nat.reduceMod, decide_true]
  · have ci1 : ¬ (i : Int) < l.length := by omega
    simp only [c_glebelaw08_CheckApart_l0, go_sem, reduceIte, Nat.reduceEqDiff, Nat.reduceAdd, Nat.reduceLeDiff, Nat.reducePow, Nat.reduceDiv, Nat.reduceMod, decide_true, q0, q1, q2, q3, q9, q12, len_arows, la, decide_eq_false ci1]
    refine use1 hl.1 (hl.2 F h1 p d 50 103 hd hbt) ?_
    rw [load_congr (d := d1) (by omega) (fun j h1 h2 => hrd j h1 (by omega)), ld]
    simp only [go_sem, reduceIte, Nat.reduceEqDiff, Nat.reduceAdd, Nat.reduceLeDiff, Nat.reducePow, Nat.reduceDiv, Nat.reduceMod, decide_true, q0, q1, q2, q3, q9, q12, Bool.not_true]
    refine use1 hb.1 (hb.2 (fun _ => True) _ x x _ _ (rd_abytes _ _ _) (rd_abytes _ _ _) (by omega)) ?_
    simp only [go_sem, reduceIte, Nat.reduceEqDiff, Nat.reduceAdd, Nat.reduceLeDiff, Nat.reducePow, Nat.reduceDiv, Nat.reduceMod, decide_true, q0, q1, q2, q3, q9, q12, Bool.not_true]
    have X2 := Ext.b1 (h := h1) (some (.arr 1 [[.int .i64 2], [.int .i64 1], [.int .i64 0], [.int .i64 2]] false))
    have rd1 : Rd (fun m => h1.length ≤ m) (h1 ++ [some (.arr 1 [[.int .i64 2], [.int .i64 1], [.int .i64 0], [.int .i64 2]] false)]) (dInts [2, 1, 0, 2]) (.ref h1.length 1 0 4 (some 4)) := rd_litF (k := .i64) (xs := [2, 1, 0, 2]) (bx10 _ _) rfl (Nat.le_refl _)
    refine wCall_use ⟨hc.1, hc.2 F (fun m => h1.length ≤ m) _ p d [2, 1, 0, 2] _ (hd.up X2) rd1 (fun m hm y => by have := hF m y; have := x1.1; omega)⟩ ?_
    rintro _ h2 ⟨hd2, x2⟩
    simp only [go_sem, reduceIte, Nat.reduceEqDiff, Nat.reduceAdd, Nat.reduceLeDiff, Nat.reducePow, Nat.reduceDiv, Nat.reduceMod, decide_true, q0, q1, q2, q3, q9, q12]
    refine use1 hl.1 (hl.2 F h2 p _ 50 103 hd2 (Dk.crash_bts hbt _)) ?_
    rw [load_congr (d := d1) (by show d.n = d1.n; omega) (fun j h1 h2 => by rw [crash_read_not d hd.ok _ (by omega) (fun s hs e => hca s hs (by omega))]; exact hrd j h1 (by omega)), ld]
    simp only [go_sem, reduceIte, Nat.reduceEqDiff, Nat.reduceAdd, Nat.reduceLeDiff, Nat.reducePow, Nat.reduceDiv, Nat.reduceMod, decide_true, q0, q1, q2, q3, q9, q12, Bool.not_true]
    refine use1 hb.1 (hb.2 (fun _ => True) _ x x _ _ (rd_abytes _ _ _) (rd_abytes _ _ _) (by omega)) ?_
    simp only [go_sem, reduceIte, Nat.reduceEqDiff, Nat.reduceAdd, Nat.reduceLeDiff, Nat.reducePow, Nat.reduceDiv, Nat.reduceMod, decide_true]

end Glb

/-
  Layer 8: CheckLasts.
-/
namespace Glb
open Go
set_option maxRecDepth 10000
set_option maxHeartbeats 32000000

/-- where a choice has two ends that go on alike -/
theorem wCond_join {P : Program} {v : AV} {a b rest : AC} {st : St} {K : AX → St → Prop} (Q : St → Prop) (h1 : wCond P v a b st fun x s => x = .normal ∧ Q s) (h2 : ∀ s, Q s → vc P rest s K) : wCond P v a b st (kSeq P rest K) := by
  have key : ∀ (c : AC), vc P c st (fun x s => x = .normal ∧ Q s) → vc P c st (kSeq P rest K) := fun c hc => vc_mono c (fun x s ⟨e, q⟩ => by subst e; exact h2 s q) hc
  unfold wCond at h1 ⊢
  split at h1
  · exact ⟨fun e => key _ (h1.1 e), fun e => key _ (h1.2 e)⟩
  · exact h1.elim

theorem join_later {P : Program} {A : Prop} {rest : AC} {K : AX → St → Prop} (Q : St → Prop) (main : (∀ s, Q s → vc P rest s K) → A) (cont : ∀ s, Q s → vc P rest s K) : A := main cont

def dIRows (l : List (List Int)) : D := .sl 1 (l.map fun b => [dInts b])
def airows (l : List (List Int)) : AV := (dIRows l).av
theorem len_airows (l : List (List Int)) : alen (airows l) = some (.int .i64 l.length) := by
  have : Rd nof [] (dIRows l) (airows l) := rd_av _ _ _
  simpa using this.len
theorem irows_at {l : List (List Int)} {i : Nat} (hi : i < l.length) : ∃ p, aindex 1 (airows l) (.int .i64 i) = some p ∧ ∀ h, aload h false 1 p = some (aints l[i]) := by
  obtain ⟨p, hp1, hp2⟩ := index_av 1 (fun b => [dInts b]) l .i64 hi
  exact ⟨p, hp1, fun h => by rw [aload_p (hp2 h)]; rfl⟩

theorem Dk.crash_wh {d : Dk} (hok : d.ok) (hc : d.cache = []) (how : List Int) {at' n s : Int} : (d.crash how).wh at' n s = d.wh at' n s ∧ ∀ i k, (d.crash how).slot i k = d.slot i k := by
  have key : ∀ j, (d.crash how).read j = d.read j := fun j => by
    unfold Dk.read
    show (if j < 0 ∨ d.n ≤ j then _ else _) = _
    rw [hc]
    simp only [Dk.crash, hc, crashed]
  have k2 : ∀ i k, (d.crash how).slot i k = d.slot i k := fun i k => by unfold Dk.slot; rw [key]
  refine ⟨?_, k2⟩
  unfold Dk.wh
  congr 1
  funext k
  exact k2 _ k
theorem Ckd.crash {d : Dk} {at' n E : Int} (h : Ckd d at' n E) (how : List Int) : Ckd (d.crash how) at' n E :=
 ⟨Dk.crash_ok h.ok how, rfl, rfl, h.may, fun s hs e l q h1 h2 => h.fst s hs e l q (by rw [← (Dk.crash_wh (at' := at') (n := n) (s := s) h.ok h.cache how).2]; exact h1) h2⟩
theorem Ckd.arm {d : Dk} {at' n E : Int} (h : Ckd d at' n E) {k : Int} (hk : k ≤ 9223372036854775807) : Ckd (d.arm k) at' n E := ⟨Dk.arm_ok h.ok hk, h.off, h.cache, h.may, h.fst⟩

/-- what has been laid -/
def Laid (d : Dk) (N E : Int) (w : AV) : Prop := Ckd d 2 N E ∧ (1 ≤ E → ∃ b, w = abytes b ∧ b.length ≤ 4096 ∧ d.wh 2 N (E % 2) = (b, E))
theorem Laid.crash {d : Dk} {N E : Int} {w : AV} (h : Laid d N E w) (how : List Int) : Laid (d.crash how) N E w :=
 ⟨h.1.crash how, fun hE => by
    obtain ⟨b, h1, h2, h3⟩ := h.2 hE
    exact ⟨b, h1, h2, by rw [(Dk.crash_wh h.1.ok h.1.cache how).1]; exact h3⟩⟩
theorem Laid.arm {d : Dk} {N E : Int} {w : AV} (h : Laid d N E w) {k : Int} (hk : k ≤ 9223372036854775807) : Laid (d.arm k) N E w := ⟨h.1.arm hk, h.2⟩

/-- one more Save -/
theorem Laid.save {d : Dk} {N E : Int} {w : AV} (h : Laid d N E w) (hE : 0 ≤ E ∧ E < 1000) {x : List Int} (hx : x.length ≤ 4096) :
    ((d.save 2 N (E + 1) x).2 = 0 ∧ (x.length : Int) ≤ N * 40 ∧ (d.save 2 N (E + 1) x).1.off = false ∧ Laid (d.save 2 N (E + 1) x).1 N (E + 1) (abytes x)) ∨
    ((d.save 2 N (E + 1) x).2 = 2 ∧ N * 40 < (x.length : Int) ∧ (d.save 2 N (E + 1) x).1.off = false ∧ Laid (d.save 2 N (E + 1) x).1 N E w) ∨
    ((d.save 2 N (E + 1) x).2 = 10 ∧ (x.length : Int) ≤ N * 40 ∧ (d.save 2 N (E + 1) x).1.off = true ∧ ∀ how, Laid ((d.save 2 N (E + 1) x).1.crash how) N E w ∨ Laid ((d.save 2 N (E + 1) x).1.crash how) N (E + 1) (abytes x)) := by
  obtain ⟨m1, m2, m3⟩ := h.1.may
  by_cases cl : (x.length : Int) ≤ N * 40
  · have hmany : (many x : Int) ≤ N := by have := (many_le (p := x) (n := N.toNat) (by omega)).2 (by omega); omega
    rcases h.1.save (x := E + 1) (E' := E + 1) (p := x) (by unfold maxNo; omega) (by omega) (by omega) hmany (by omega) with ⟨d', s1, c1, -, -, w1, -⟩ | ⟨d', s1, -, -, o1, -, hh⟩
    · rw [s1]
      exact .inl ⟨rfl, cl, c1.off, c1, fun _ => ⟨x, rfl, hx, w1⟩⟩
    · rw [s1]
      refine .inr (.inr ⟨rfl, cl, o1, fun how => ?_⟩)
      obtain ⟨h1, h2⟩ := hh how
      rcases h2 with h2 | ⟨h2, h3⟩
      · refine .inl ⟨h2, fun hE1 => ?_⟩
        obtain ⟨b, g1, g2, g3⟩ := h.2 hE1
        exact ⟨b, g1, g2, by rw [h1 _ (by omega) (by omega)]; exact g3⟩
      · exact .inr ⟨h2, fun _ => ⟨x, rfl, hx, h3⟩⟩
  · have s1 : d.save 2 N (E + 1) x = (d, 2) := by
      unfold Dk.save
      rw [if_neg (by rintro (y | y | y); exact y h.1.may; omega; unfold maxNo at y; omega), if_pos]
      have := fun y => (many_le (p := x) (n := N.toNat) (by omega)).1 y
      by_cases c : many x ≤ N.toNat
      · have := this c; omega
      · omega
    rw [s1]
    exact .inr (.inl ⟨rfl, by omega, h.1.off, h⟩)

theorem lasts8_ok {P : Program} {f fw fg fp fn fa fs fd fc fl fb : FuncId} (hf : Is P f (c_glebelaw08_CheckLasts fw fg fp fn fa fs fd fc fl fb)) (hw : YesOk P fw) (hg : Great8Ok P fg) (hp : PickOk P fp) (hn : NewDOk P fn) (ha : ArmOk P fa) (hs : SaveOk P fs) (hd : DownOk P fd) (hc : CrashDOk P fc) (hl : LoadP P fl) (hb : SameOk P fb .u8)
    (n : Int) (l : List (List Int)) (cuts : List Int) (how : List (List Int)) (hB : ∀ x ∈ l, bytesOk x) (h : AHeap) : ACalls P f [.int .i64 n, arows l, aints cuts, airows how] h fun r _ => r = .bool true := by
  refine fun_sound hf.1 (Nat.le_of_ble_eq_true rfl) ?_
  show vc P (c_glebelaw08_CheckLasts fw fg fp fn fa fs fd fc fl fb).code ⟨[(0, .int .i64 n), (1, arows l), (2, aints cuts), (3, airows how)], [], h⟩ (atEnd (c_glebelaw08_CheckLasts fw fg fp fn fa fs fd fc fl fb).res _)
  simp only [c_glebelaw08_CheckLasts, go_sem, reduceIte, Nat.reduceEqDiff, Nat.reduceAdd, Nat.reduceLeDiff, Nat.reducePow, Nat.reduceDiv, Nat.reduceMod, decide_true]
  refine use1 hw.1 (hw.2 _) ?_
  simp only [go_sem, reduceIte, Nat.reduceEqDiff, Nat.reduceAdd, Nat.reduceLeDiff, Nat.reducePow, Nat.reduceDiv, Nat.reduceMod, decide_true]
  refine wCall_use ⟨hg.1, hg.2 h l⟩ ?_
  rintro _ h9 ⟨⟨b, rfl, hgr⟩, rfl⟩
  cases b with
  | true => simp only [go_sem, reduceIte, Nat.reduceEqDiff, Nat.reduceAdd, Nat.reduceLeDiff, Nat.reducePow, Nat.reduceDiv, Nat.reduceMod, decide_true]
  | false =>
    obtain ⟨hll, hlb⟩ := hgr rfl
    simp only [go_sem, reduceIte, Nat.reduceEqDiff, Nat.reduceAdd, Nat.reduceLeDiff, Nat.reducePow, Nat.reduceDiv, Nat.reduceMod, decide_true]
    refine use1 hp.1 (hp.2 _ _ (by omega) h9) ?_
    have pk := pick_lt (k := n) (n := 64) (by omega)
    generalize pick n 64 = n0 at *
    obtain ⟨N, hN⟩ : ∃ N, N = 1 + n0 := ⟨_, rfl⟩
    have e1 : IntKind.i64.wrap (1 + n0) = N := by rw [wrap_i64 (by omega), hN]
    have e3 : IntKind.i64.wrap (2 * N) = 2 * N := wrap_i64 (by omega)
    have e4 : IntKind.i64.wrap (2 * N + 3) = 2 * N + 3 := wrap_i64 (by omega)
    have e5 : IntKind.i64.wrap (N * 40) = N * 40 := wrap_i64 (by omega)
    have e6 : IntKind.i64.wrap (N + 4) = N + 4 := wrap_i64 (by omega)
    simp only [go_sem, reduceIte, Nat.reduceEqDiff, Nat.reduceAdd, Nat.reduceLeDiff, Nat.reducePow, Nat.reduceDiv, Nat.reduceMod, decide_true, e1, e3, e4]
    refine wCall_use ⟨hn.1, hn.2 h9 (2 * N + 3)⟩ ?_
    rintro r H ⟨q1, -, X⟩
    obtain ⟨p, rfl, a⟩ := q1 (by omega)
    obtain ⟨F, a, hF⟩ : ∃ F : Nat → Prop, DiskAt F H p (Dk.new (2 * N + 3)) ∧ (∀ m, F m → m < H.length) := ⟨_, a, fun m x => x.2⟩
    have k0 : Ckd (Dk.new (2 * N + 3)) 2 N 0 := Ckd.new (by omega) (by omega) (by omega) (by omega)
    simp only [go_sem, reduceIte, Nat.reduceEqDiff, Nat.reduceAdd, Nat.reduceLeDiff, Nat.reducePow, Nat.reduceDiv, Nat.reduceMod, decide_true]
    obtain ⟨I, hI⟩ : ∃ I : Nat → Env → AHeap → Prop, ∀ m L h', I m L h' ↔ ∃ (i : Nat) (d : Dk) (E : Int) (w : AV), lk 0 L = .int .i64 N ∧ lk 1 L = arows l ∧ lk 2 L = aints cuts ∧ lk 3 L = airows how ∧ lk 9 L = .ptr p 6 0 0 ∧ lk 11 L = w ∧ lk 12 L = .int .i64 E ∧ lk 13 L = .int .i64 i ∧ DiskAt F h' p d ∧ H.length ≤ h'.length ∧ d.bts ∧ Laid d N E w ∧ 0 ≤ E ∧ E ≤ i ∧ i ≤ l.length ∧ m = l.length - i := ⟨_, fun _ _ _ => Iff.rfl⟩
    refine vc_loop I l.length ((hI _ _ _).2 ⟨0, _, 0, .nils, by simp [lk_ins, lk_cons], by simp [lk_ins, lk_cons], by simp [lk_ins, lk_cons], by simp [lk_ins, lk_cons], by simp [lk_ins, lk_cons], by simp [lk_ins, lk_cons], by simp [lk_ins, lk_cons], by simp [lk_ins, lk_cons], a, Nat.le_refl _, Dk.new_bts _, ⟨k0, fun x => by omega⟩, by omega, by omega, by omega, by omega⟩) ?_
    clear a k0
    intro m L h1 hh
    obtain ⟨i, d, E, w, q0, q1, q2, q3, q9, q11, q12, q13, hdk, hlen, hbt, hk, hE1, hE2, hi, rfl⟩ := (hI _ _ _).1 hh
    simp only [c_glebelaw08_CheckLasts_l0, go_sem, reduceIte, Nat.reduceEqDiff, Nat.reduceAdd, Nat.reduceLeDiff, Nat.reducePow, Nat.reduceDiv, Nat.reduceMod, decide_true, q1, q13, len_arows]
    refine wCond_split (fun ci => ?_) (fun ci => ?_)
    · simp at ci
      obtain ⟨q, hp1, hp2⟩ := rows_at ci
      have lx := hlb _ (List.getElem_mem ci)
      have bx := hB _ (List.getElem_mem ci)
      generalize l[i] = x at *
      have ei : IntKind.i64.wrap ((i : Int) + 1) = ((i + 1 : Nat) : Int) := by rw [wrap_i64 (by omega)]; omega
      have eE : IntKind.i64.wrap (E + 1) = E + 1 := wrap_i64 (by omega)
      have eEE : IntKind.i64.wrap (E + 1 + 1) = E + 2 := by rw [wrap_i64 (by omega)]; omega
      have lcut : alen (aints cuts) = some (.int .i64 cuts.length) := (rd_aints nof h1 cuts).ints_len
      simp only [go_sem, reduceIte, Nat.reduceEqDiff, Nat.reduceAdd, Nat.reduceLeDiff, Nat.reducePow, Nat.reduceDiv, Nat.reduceMod, decide_true, q2, q13, lcut]
      obtain ⟨Q, hQ⟩ : ∃ Q : Env → AHeap → Dk → Prop, ∀ L1 h2 d1, Q L1 h2 d1 ↔ lk 0 L1 = .int .i64 N ∧ lk 1 L1 = arows l ∧ lk 2 L1 = aints cuts ∧ lk 3 L1 = airows how ∧ lk 9 L1 = .ptr p 6 0 0 ∧ lk 13 L1 = .int .i64 i ∧ DiskAt F h2 p d1 ∧ H.length ≤ h2.length ∧ d1.bts := ⟨_, fun _ _ _ => Iff.rfl⟩
      refine wCond_join (fun s => ∃ L1 h2 d1, s = ⟨L1, [], h2⟩ ∧ lk 11 L1 = w ∧ lk 12 L1 = .int .i64 E ∧ Q L1 h2 d1 ∧ Laid d1 N E w) ?_ ?_
      · by_cases cc : i < cuts.length
        · have cc1 : (i : Int) < cuts.length := by omega
          obtain ⟨u, hu1, hu2⟩ := (rd_aints nof h1 cuts).int_at cc
          simp only [go_sem, reduceIte, Nat.reduceEqDiff, Nat.reduceAdd, Nat.reduceLeDiff, Nat.reducePow, Nat.reduceDiv, Nat.reduceMod, decide_true, decide_eq_true cc1, q0, q1, q2, q3, q9, q11, q12, q13, hu1, hu2, e6]
          generalize cuts[i] = v at *
          have pk2 := pick_lt (k := v) (n := N + 4) (by omega)
          refine use1 hp.1 (hp.2 _ _ (by omega) h1) ?_
          generalize pick v (N + 4) = k at *
          simp only [go_sem, reduceIte, Nat.reduceEqDiff, Nat.reduceAdd, Nat.reduceLeDiff, Nat.reducePow, Nat.reduceDiv, Nat.reduceMod, decide_true]
          refine wCall_use ⟨ha.1, ha.2 F h1 p d k hdk (by omega)⟩ ?_
          rintro _ h2 ⟨hd2, x2⟩
          simp only [go_sem, reduceIte, Nat.reduceEqDiff, Nat.reduceAdd, Nat.reduceLeDiff, Nat.reducePow, Nat.reduceDiv, Nat.reduceMod, decide_true]
          exact ⟨_, _, _, rfl, by simp [lk_ins, q11], by simp [lk_ins, q12], (hQ _ _ _).2 ⟨by simp [lk_ins, q0], by simp [lk_ins, q1], by simp [lk_ins, q2], by simp [lk_ins, q3], by simp [lk_ins, q9], by simp [lk_ins, q13], hd2, by have := x2.1; omega, hbt⟩, hk.arm (by omega)⟩
        · have cc1 : ¬ (i : Int) < cuts.length := by omega
          simp only [go_sem, reduceIte, Nat.reduceEqDiff, Nat.reduceAdd, Nat.reduceLeDiff, Nat.reducePow, Nat.reduceDiv, Nat.reduceMod, decide_true, decide_eq_false cc1]
          exact ⟨_, _, _, rfl, by simp [lk_ins, q11], by simp [lk_ins, q12], (hQ _ _ _).2 ⟨by simp [lk_ins, q0], by simp [lk_ins, q1], by simp [lk_ins, q2], by simp [lk_ins, q3], by simp [lk_ins, q9], by simp [lk_ins, q13], hdk, hlen, hbt⟩, hk⟩
      · clear q0 q1 q2 q3 q9 q11 q12 q13 hdk hbt hk hh
        rintro s ⟨L1, h2, d1, rfl, q11, q12, hq, hk⟩
        obtain ⟨q0, q1, q2, q3, q9, q13, hd1, hl1, hb1⟩ := (hQ _ _ _).1 hq
        simp only [go_sem, reduceIte, Nat.reduceEqDiff, Nat.reduceAdd, Nat.reduceLeDiff, Nat.reducePow, Nat.reduceDiv, Nat.reduceMod, decide_true, q0, q1, q2, q3, q9, q11, q12, q13, hp1, hp2, eE]
        refine wCall_use ⟨hs.1, hs.2 F nof h2 p d1 2 N (E + 1) x _ hd1 (rd_abytes _ _ _) (fun m x => x.elim) (fun m hm => by have := hF m hm; omega) (by omega)⟩ ?_
        rintro _ h3 ⟨rfl, hd3, x3⟩
        have hb3 := Dk.save_bts hb1 bx 2 N (E + 1)
        have hsv := hk.save ⟨hE1, by omega⟩ lx
        have hl3 : H.length ≤ h3.length := by have := x3.1; omega
        generalize d1.save 2 N (E + 1) x = dr at *
        obtain ⟨d3, e3'⟩ := dr
        simp only at hsv hd3 hb3
        simp only [go_sem, reduceIte, Nat.reduceEqDiff, Nat.reduceAdd, Nat.reduceLeDiff, Nat.reducePow, Nat.reduceDiv, Nat.reduceMod, decide_true, q0, q1, q2, q3, q9, q11, q12, q13, hp1, hp2]
        refine wCond_join (fun s => ∃ L2 E2 w2, s = ⟨L2, [], h3⟩ ∧ lk 11 L2 = w2 ∧ lk 12 L2 = .int .i64 E2 ∧ lk 14 L2 = .int .i64 e3' ∧ Q L2 h3 d3 ∧ 0 ≤ E2 ∧ E2 ≤ i + 1 ∧
            ((d3.off = false ∧ Laid d3 N E2 w2) ∨ (e3' = 10 ∧ E2 ≤ i ∧ d3.off = true ∧ ∀ hw, Laid (d3.crash hw) N E2 w2 ∨ Laid (d3.crash hw) N (E2 + 1) (abytes x)))) ?_ ?_
        · have hq3 : ∀ L', lk 0 L' = .int .i64 N → lk 1 L' = arows l → lk 2 L' = aints cuts → lk 3 L' = airows how → lk 9 L' = .ptr p 6 0 0 → lk 13 L' = .int .i64 i → Q L' h3 d3 := fun L' r0 r1 r2 r3 r9 r13 => (hQ _ _ _).2 ⟨r0, r1, r2, r3, r9, r13, hd3, hl3, hb3⟩
          rcases hsv with ⟨rfl, c1, c2, c3⟩ | ⟨rfl, c1, c2, c3⟩ | ⟨rfl, c1, c2, c3⟩
          · simp only [go_sem, reduceIte, Nat.reduceEqDiff, Nat.reduceAdd, Nat.reduceLeDiff, Nat.reducePow, Nat.reduceDiv, Nat.reduceMod, decide_true, q0, q1, q2, q3, q9, q11, q12, q13, hp1, hp2, eE]
            exact ⟨_, E + 1, _, rfl, by simp [lk_ins], by simp [lk_ins], by simp [lk_ins], hq3 _ (by simp [lk_ins, q0]) (by simp [lk_ins, q1]) (by simp [lk_ins, q2]) (by simp [lk_ins, q3]) (by simp [lk_ins, q9]) (by simp [lk_ins, q13]), by omega, by omega, .inl ⟨c2, c3⟩⟩
          · have d0 : decide ((2 : Int) = 0) = false := rfl
            have dg : decide (N * 40 < (x.length : Int)) = true := decide_eq_true c1
            simp only [go_sem, reduceIte, Nat.reduceEqDiff, Nat.reduceAdd, Nat.reduceLeDiff, Nat.reducePow, Nat.reduceDiv, Nat.reduceMod, decide_true, q0, q1, q2, q3, q9, q11, q12, q13, hp1, hp2, d0, Bool.not_true, len_abytes, e5, dg]
            exact ⟨_, E, _, rfl, by simp [lk_ins, q11], by simp [lk_ins, q12], by simp [lk_ins], hq3 _ (by simp [lk_ins, q0]) (by simp [lk_ins, q1]) (by simp [lk_ins, q2]) (by simp [lk_ins, q3]) (by simp [lk_ins, q9]) (by simp [lk_ins, q13]), by omega, by omega, .inl ⟨c2, c3⟩⟩
          · have d0 : decide ((10 : Int) = 0) = false := rfl
            have d1' : decide ((10 : Int) = 2) = false := rfl
            have dg : decide (N * 40 < (x.length : Int)) = false := decide_eq_false (by omega)
            simp only [go_sem, reduceIte, Nat.reduceEqDiff, Nat.reduceAdd, Nat.reduceLeDiff, Nat.reducePow, Nat.reduceDiv, Nat.reduceMod, decide_true, q0, q1, q2, q3, q9, q11, q12, q13, hp1, hp2, d0, d1', Bool.not_true, Bool.not_false, len_abytes, e5, dg]
            exact ⟨_, E, _, rfl, by simp [lk_ins, q11], by simp [lk_ins, q12], by simp [lk_ins], hq3 _ (by simp [lk_ins, q0]) (by simp [lk_ins, q1]) (by simp [lk_ins, q2]) (by simp [lk_ins, q3]) (by simp [lk_ins, q9]) (by simp [lk_ins, q13]), by omega, by omega, .inr ⟨by omega, c2, c3⟩⟩
        · clear q0 q1 q2 q3 q9 q11 q12 q13 hd1 hb1 hk hq hsv hd3 hb3 hl3
          rintro s ⟨L2, E2, w2, rfl, q11, q12, q14, hq, hE3, hE4, hst⟩
          obtain ⟨q0, q1, q2, q3, q9, q13, hd3, hl3, hb3⟩ := (hQ _ _ _).1 hq
          apply join_later (P := P) (fun s => ∃ L3 h4 d4, s = ⟨L3, [], h4⟩ ∧ lk 11 L3 = w2 ∧ lk 12 L3 = .int .i64 E2 ∧ lk 14 L3 = .int .i64 e3' ∧ Q L3 h4 d4 ∧ (Laid d4 N E2 w2 ∨ (e3' = 10 ∧ E2 ≤ i ∧ Laid d4 N (E2 + 1) (abytes x))))
          case main =>
            intro cont
            by_cases ch : i < how.length
            · have ch1 : (i : Int) < how.length := by omega
              obtain ⟨u, hu1, hu2⟩ := irows_at ch
              generalize how[i] = hw at *
              simp only [go_sem, reduceIte, Nat.reduceEqDiff, Nat.reduceAdd, Nat.reduceLeDiff, Nat.reducePow, Nat.reduceDiv, Nat.reduceMod, decide_true, q0, q1, q2, q3, q9, q11, q12, q13, len_airows, decide_eq_true ch1, hu1, hu2]
              refine wCall_use ⟨hc.1, hc.2 F nof h3 p d3 hw _ hd3 (rd_aints _ _ _) (fun m x => x.elim)⟩ ?_
              rintro _ h4 ⟨hd4, x4⟩
              simp only [kPutH_tmp, put_tmp, vcOps_nil, kReg_mk, kSeq_normal]
              refine cont _ ⟨_, _, _, rfl, by simp [lk_ins, q11], by simp [lk_ins, q12], by simp [lk_ins, q14], (hQ _ _ _).2 ⟨by simp [lk_ins, q0], by simp [lk_ins, q1], by simp [lk_ins, q2], by simp [lk_ins, q3], by simp [lk_ins, q9], by simp [lk_ins, q13], hd4, by have := x4.1; omega, Dk.crash_bts hb3 _⟩, ?_⟩
              rcases hst with ⟨g1, g2⟩ | ⟨g1, g2, g3, g4⟩
              · exact .inl (g2.crash hw)
              · exact (g4 hw).imp id fun z => ⟨g1, g2, z⟩
            · have ch1 : ¬ (i : Int) < how.length := by omega
              simp only [go_sem, reduceIte, Nat.reduceEqDiff, Nat.reduceAdd, Nat.reduceLeDiff, Nat.reducePow, Nat.reduceDiv, Nat.reduceMod, decide_true, q0, q1, q2, q3, q9, q11, q12, q13, len_airows, decide_eq_false ch1]
              refine use1 hd.1 (hd.2 F h3 p d3 hd3) ?_
              simp only [go_sem, reduceIte, Nat.reduceEqDiff, Nat.reduceAdd, Nat.reduceLeDiff, Nat.reducePow, Nat.reduceDiv, Nat.reduceMod, decide_true, q0, q1, q2, q3, q9, q11, q12, q13, len_airows, decide_eq_false ch1]
              refine wCond_join _ ?_ cont
              rcases hst with ⟨g1, g2⟩ | ⟨g1, g2, g3, g4⟩
              · simp only [go_sem, reduceIte, Nat.reduceEqDiff, Nat.reduceAdd, Nat.reduceLeDiff, Nat.reducePow, Nat.reduceDiv, Nat.reduceMod, decide_true, g1]
                exact ⟨_, _, _, rfl, by simp [lk_ins, q11], by simp [lk_ins, q12], by simp [lk_ins, q14], (hQ _ _ _).2 ⟨by simp [lk_ins, q0], by simp [lk_ins, q1], by simp [lk_ins, q2], by simp [lk_ins, q3], by simp [lk_ins, q9], by simp [lk_ins, q13], hd3, hl3, hb3⟩, .inl g2⟩
              · simp only [go_sem, reduceIte, Nat.reduceEqDiff, Nat.reduceAdd, Nat.reduceLeDiff, Nat.reducePow, Nat.reduceDiv, Nat.reduceMod, decide_true, g3, q0, q1, q2, q3, q9, q11, q12, q13, len_airows, decide_eq_false ch1]
                refine wCall_use ⟨hc.1, hc.2 F nof h3 p d3 [] _ hd3 (by simp only [dInts, List.map_nil, Rd]; exact ⟨[], .inl ⟨rfl, rfl⟩, rfl⟩) (fun m x => x.elim)⟩ ?_
                rintro _ h4 ⟨hd4, x4⟩
                simp only [go_sem, reduceIte, Nat.reduceEqDiff, Nat.reduceAdd, Nat.reduceLeDiff, Nat.reducePow, Nat.reduceDiv, Nat.reduceMod, decide_true]
                exact ⟨_, _, _, rfl, by simp [lk_ins, q11], by simp [lk_ins, q12], by simp [lk_ins, q14], (hQ _ _ _).2 ⟨by simp [lk_ins, q0], by simp [lk_ins, q1], by simp [lk_ins, q2], by simp [lk_ins, q3], by simp [lk_ins, q9], by simp [lk_ins, q13], hd4, by have := x4.1; omega, Dk.crash_bts hb3 _⟩, (g4 []).imp id fun z => ⟨g1, g2, z⟩⟩
          case cont =>
            clear q0 q1 q2 q3 q9 q11 q12 q13 q14 hd3 hb3 hl3 hq hst
            rintro s ⟨L3, h4, d4, rfl, q11, q12, q14, hq, hst⟩
            obtain ⟨q0, q1, q2, q3, q9, q13, hd4, hl4, hb4⟩ := (hQ _ _ _).1 hq
            simp only [go_sem, reduceIte, Nat.reduceEqDiff, Nat.reduceAdd, Nat.reduceLeDiff, Nat.reducePow, Nat.reduceDiv, Nat.reduceMod, decide_true, q0, q1, q2, q3, q9, q11, q12, q13]
            refine use1 hl.1 (hl.2 F h4 p d4 2 N hd4 hb4) ?_
            have goal : ∀ (L' : Env) (h5 : AHeap) (E3 : Int) (w3 : AV), 0 ≤ E3 → E3 ≤ i + 1 → Laid d4 N E3 w3 → h5 = h4 → lk 0 L' = .int .i64 N → lk 1 L' = arows l → lk 2 L' = aints cuts → lk 3 L' = airows how → lk 9 L' = .ptr p 6 0 0 → lk 11 L' = w3 → lk 12 L' = .int .i64 E3 → lk 13 L' = .int .i64 ((i + 1 : Nat) : Int) → ∃ m', m' < l.length - i ∧ I m' L' h5 := fun L' h5 E3 w3 g1 g2 g3 g4 r0 r1 r2 r3 r9 r11 r12 r13 => by
              subst g4
              exact ⟨_, by omega, (hI _ _ _).2 ⟨i + 1, d4, E3, w3, r0, r1, r2, r3, r9, r11, r12, r13, hd4, hl4, hb4, g3, g1, by omega, ci, rfl⟩⟩
            rcases hst with hA | ⟨rfl, hE5, hA⟩
            · by_cases cz : E2 = 0
              · subst cz
                rw [hA.1.none]
                have t6 : decide ((6 : Int) = 6) = true := rfl
                simp only [go_sem, reduceIte, Nat.reduceEqDiff, Nat.reduceAdd, Nat.reduceLeDiff, Nat.reducePow, Nat.reduceDiv, Nat.reduceMod, decide_true, q0, q1, q2, q3, q9, q11, q12, q13, t6, Bool.not_true, ei]
                exact goal _ _ 0 w2 (by omega) (by omega) hA rfl (by simp [lk_ins, q0]) (by simp [lk_ins, q1]) (by simp [lk_ins, q2]) (by simp [lk_ins, q3]) (by simp [lk_ins, q9]) (by simp [lk_ins, q11]) (by simp [lk_ins, q12]) (by simp [lk_ins])
              · obtain ⟨b, rfl, hbl, hw⟩ := hA.2 (by omega)
                rw [hA.1.load (by omega) hw]
                have t6 : decide ((0 : Int) = 6) = false := rfl
                have tn : decide (E2 = E2 + 1) = false := decide_eq_false (by omega)
                have eE2 : IntKind.i64.wrap (E2 + 1) = E2 + 1 := wrap_i64 (by omega)
                simp only [go_sem, reduceIte, Nat.reduceEqDiff, Nat.reduceAdd, Nat.reduceLeDiff, Nat.reducePow, Nat.reduceDiv, Nat.reduceMod, decide_true, q0, q1, q2, q3, q9, q11, q12, q13, t6, Bool.not_true, ei]
                refine use1 hb.1 (hb.2 (fun _ => True) _ b b _ _ (rd_abytes _ _ _) (rd_abytes _ _ _) (by omega)) ?_
                simp only [go_sem, reduceIte, Nat.reduceEqDiff, Nat.reduceAdd, Nat.reduceLeDiff, Nat.reducePow, Nat.reduceDiv, Nat.reduceMod, decide_true, q0, q1, q2, q3, q9, q11, q12, q13, t6, Bool.not_true, ei, eE2, tn]
                exact goal _ _ E2 (abytes b) (by omega) (by omega) hA rfl (by simp [lk_ins, q0]) (by simp [lk_ins, q1]) (by simp [lk_ins, q2]) (by simp [lk_ins, q3]) (by simp [lk_ins, q9]) (by simp [lk_ins]) (by simp [lk_ins]) (by simp [lk_ins])
            · obtain ⟨b, hbe, hbl, hw⟩ := hA.2 (by omega)
              rw [hA.1.load (by omega) hw]
              have t6 : decide ((0 : Int) = 6) = false := rfl
              have tn : decide (E2 + 1 = E2) = false := decide_eq_false (by omega)
              have eE2 : IntKind.i64.wrap (E2 + 1) = E2 + 1 := wrap_i64 (by omega)
              simp only [go_sem, reduceIte, Nat.reduceEqDiff, Nat.reduceAdd, Nat.reduceLeDiff, Nat.reducePow, Nat.reduceDiv, Nat.reduceMod, decide_true, q0, q1, q2, q3, q9, q11, q12, q13, q14, t6, Bool.not_true, Bool.not_false, ei, eE2, tn, hp1, hp2, hbe]
              refine use1 hb.1 (hb.2 (fun _ => True) _ b b _ _ (rd_abytes _ _ _) (rd_abytes _ _ _) (by omega)) ?_
              simp only [go_sem, reduceIte, Nat.reduceEqDiff, Nat.reduceAdd, Nat.reduceLeDiff, Nat.reducePow, Nat.reduceDiv, Nat.reduceMod, decide_true, q0, q1, q2, q3, q9, q11, q12, q13, q14, t6, Bool.not_true, Bool.not_false, ei, eE2, tn]
              exact goal _ _ (E2 + 1) (abytes b) (by omega) (by omega) (hbe ▸ hA) rfl (by simp [lk_ins, q0]) (by simp [lk_ins, q1]) (by simp [lk_ins, q2]) (by simp [lk_ins, q3]) (by simp [lk_ins, q9]) (by simp [lk_ins]) (by simp [lk_ins]) (by simp [lk_ins])
    · simp only [go_sem, reduceIte, Nat.reduceEqDiff, Nat.reduceAdd, Nat.reduceLeDiff, Nat.reducePow, Nat.reduceDiv, Nat.reduceMod, decide_true]

end Glb
