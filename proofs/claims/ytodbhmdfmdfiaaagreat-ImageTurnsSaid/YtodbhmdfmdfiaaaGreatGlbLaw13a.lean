/-
  Behind a change: what the law ImageApart asks of images.
-/
import Derived.Test.YtodbhmdfmdfiaaaGreatGlbLaw13c
set_option linter.unusedSimpArgs false
set_option linter.unusedVariables false
namespace Glb
open Go
set_option maxRecDepth 10000
set_option maxHeartbeats 4000000

def Image.without (x : Image) (c : Change) : Image :=
  ⟨if c.kind = 4 then x.hards else x.hards.filter fun y => decide (y.group ≠ c.group), if c.kind = 4 then x.votes.filter fun v => decide (v.txn ≠ c.vote.txn) || decide (v.part ≠ c.vote.part) else x.votes⟩

theorem ordB_cons {T : Type} {lt : T → T → Bool} (tr : ∀ a b c, lt a b = true → lt b c = true → lt a c = true) : ∀ {l : List T} {a : T}, ordB lt (a :: l) = true → ordB lt l = true ∧ ∀ b ∈ l, lt a b = true
  | [], a, _ => ⟨rfl, fun b hb => by simp at hb⟩
  | b :: r, a, h => by
    simp only [ordB, Bool.and_eq_true] at h
    obtain ⟨h1, h2⟩ := h
    refine ⟨h2, fun z hz => ?_⟩
    rcases List.mem_cons.1 hz with e | e
    · rw [e]; exact h1
    · exact tr _ _ _ h1 ((ordB_cons tr h2).2 z e)
theorem ordB_mk {T : Type} {lt : T → T → Bool} {l : List T} {a : T} (h : ordB lt l = true) (h' : ∀ b ∈ l, lt a b = true) : ordB lt (a :: l) = true := by
  cases l with
  | nil => rfl
  | cons b r => simp only [ordB, Bool.and_eq_true]; exact ⟨h' b (by simp), h⟩

/-! votes -/
theorem Vote.ahead_iff {a b : Vote} : a.ahead b = true ↔ a.txn < b.txn ∨ (a.txn = b.txn ∧ a.part < b.part) := by simp [Vote.ahead]
theorem Vote.ahead_not {a b : Vote} : a.ahead b = false ↔ b.txn < a.txn ∨ (a.txn = b.txn ∧ b.part ≤ a.part) := by
  have := @Vote.ahead_iff a b
  cases h : a.ahead b with
  | true => have := this.1 h; constructor <;> intro hh; cases hh; omega
  | false => have : ¬ (a.txn < b.txn ∨ (a.txn = b.txn ∧ a.part < b.part)) := fun hh => by have := this.2 hh; rw [h] at this; cases this
             simp; omega
theorem Vote.ahead_tr (a b c : Vote) (h : a.ahead b = true) (h' : b.ahead c = true) : a.ahead c = true := by
  rw [Vote.ahead_iff] at *; omega
theorem ahead_ne {a b : Vote} (h : a.ahead b = true) : (decide (a.txn ≠ b.txn) || decide (a.part ≠ b.part)) = true ∧ (decide (b.txn ≠ a.txn) || decide (b.part ≠ a.part)) = true := by
  rw [Vote.ahead_iff] at h; simp; omega
theorem filter_all {T : Type} {p : T → Bool} {l : List T} (h : ∀ x ∈ l, p x = true) : l.filter p = l := List.filter_eq_self.2 h
theorem accepted_mem : ∀ {l : List Vote} {v a : Vote}, a ∈ accepted l v → a ∈ l ∨ a = v
  | [], v, a, h => by simp only [accepted, List.mem_singleton] at h; exact .inr h
  | b :: r, v, a, h => by
    simp only [accepted] at h
    split at h
    · rcases List.mem_cons.1 h with e | e
      · exact .inl (by simp [e])
      · rcases accepted_mem e with e | e
        · exact .inl (by simp [e])
        · exact .inr e
    · split at h
      · rcases List.mem_cons.1 h with e | e
        · exact .inr e
        · exact .inl (by simp [e])
      · rcases List.mem_cons.1 h with e | e
        · exact .inr e
        · exact .inl e
theorem accepted_ok : ∀ (l : List Vote) (v : Vote), ordB Vote.ahead l = true →
    ordB Vote.ahead (accepted l v) = true ∧ (accepted l v).filter (fun a => decide (a.txn ≠ v.txn) || decide (a.part ≠ v.part)) = l.filter (fun a => decide (a.txn ≠ v.txn) || decide (a.part ≠ v.part)) ∧
    (l.filter (fun a => decide (a.txn ≠ v.txn) || decide (a.part ≠ v.part))).length + 1 = (accepted l v).length ∧ accepted (accepted l v) v = accepted l v ∧ (accepted l v).length ≤ l.length + 1
  | [], v, _ => by
    have : v.ahead v = false := by rw [Vote.ahead_not]; omega
    simp [accepted, ordB, this]
  | a :: r, v, h => by
    obtain ⟨h1, h2⟩ := ordB_cons Vote.ahead_tr h
    obtain ⟨i1, i2, i3, i4, i5⟩ := accepted_ok r v h1
    have vv : v.ahead v = false := by rw [Vote.ahead_not]; omega
    simp only [accepted]
    by_cases c : a.ahead v = true
    · rw [if_pos c]
      obtain ⟨n1, n2⟩ := ahead_ne c
      refine ⟨ordB_mk i1 fun b hb => ?_, ?_, ?_, ?_, by simp; omega⟩
      · rcases accepted_mem hb with hb | hb
        · exact h2 b hb
        · rw [hb]; exact c
      · simp only [List.filter_cons, n1, if_true, i2]
      · simp only [List.filter_cons, n1, if_true, List.length_cons, i3]
      · simp only [accepted, if_pos c, i4]
    · rw [if_neg c]
      have c' : a.ahead v = false := by simpa using c
      have c2 := c'
      rw [Vote.ahead_not] at c2
      by_cases k : a.txn = v.txn ∧ a.part = v.part
      · rw [if_pos k]
        have hv : ∀ b ∈ r, v.ahead b = true := fun b hb => by have := h2 b hb; rw [Vote.ahead_iff] at this ⊢; omega
        have fr : r.filter (fun a => decide (a.txn ≠ v.txn) || decide (a.part ≠ v.part)) = r := filter_all fun b hb => (ahead_ne (hv b hb)).2
        refine ⟨ordB_mk h1 hv, ?_, ?_, ?_, by simp⟩
        · simp [List.filter_cons, k]
        · simp only [List.filter_cons]; rw [if_neg (by simp [k]), fr]; simp
        · simp [accepted, vv]
      · rw [if_neg k]
        have va : v.ahead a = true := by rw [Vote.ahead_iff]; omega
        have hv : ∀ b ∈ a :: r, v.ahead b = true := fun b hb => by
          rcases List.mem_cons.1 hb with e | e
          · rw [e]; exact va
          · exact Vote.ahead_tr _ _ _ va (h2 b e)
        have fr : (a :: r).filter (fun a => decide (a.txn ≠ v.txn) || decide (a.part ≠ v.part)) = a :: r := filter_all fun b hb => (ahead_ne (hv b hb)).2
        refine ⟨ordB_mk h hv, ?_, ?_, ?_, by simp⟩
        · rw [List.filter_cons, if_neg (by simp)]
        · rw [fr]; simp
        · simp [accepted, vv]

/-! Hards -/
theorem turned_group (x : Hard) (c : Change) : (x.turned c).1.group = x.group := by
  simp only [Hard.turned]; repeat' split
  all_goals rfl
theorem snapped_base (x : Hard) (c : Change) : (x.snapped c).base = c.log.base ∧ (x.snapped c).bterm = c.log.bterm := by
  simp only [Hard.snapped]
  split
  · rename_i h
    simp only [Log.cut, h.1, if_true]; exact ⟨trivial, h.2⟩
  · exact ⟨rfl, rfl⟩
theorem cut_self (l : Log) : l.cut l.base = l := by
  have hh : l.has l.base = true := by simp only [Log.has, Log.last, Bool.and_eq_true, decide_eq_true_eq]; exact ⟨Int.le_refl _, decide_eq_true (Int.le_add_of_nonneg_right (Int.natCast_nonneg _))⟩
  have ht : l.term l.base = l.bterm := by simp [Log.term, hh]
  simp only [Log.cut, hh, if_true, ht]
  simp
theorem snapped_self (l : Log) (c : Change) (x : Hard) (hb : l.base = c.log.base) (ht : l.bterm = c.log.bterm) : ({ x with log := l } : Hard).snapped c = l := by
  have hh : l.has l.base = true := by simp only [Log.has, Log.last, Bool.and_eq_true, decide_eq_true_eq]; exact ⟨Int.le_refl _, decide_eq_true (Int.le_add_of_nonneg_right (Int.natCast_nonneg _))⟩
  have ht' : l.term l.base = l.bterm := by simp [Log.term, hh]
  simp only [Hard.snapped, ← hb, ← ht, hh, ht', and_self, if_true]
  exact cut_self l
theorem turned_twice (x : Hard) (c : Change) (h : (x.turned c).2 = 0) : (x.turned c).1.turned c = ((x.turned c).1, 0) := by
  by_cases k1 : c.kind = 1
  · simp [Hard.turned, k1]
  by_cases k2 : c.kind = 2
  · by_cases c1 : c.from_ ≤ x.log.base ∨ x.log.last + 1 < c.from_
    · simp [Hard.turned, k2, c1] at h
    · have e : x.turned c = ({ x with log := ⟨x.log.base, x.log.bterm, x.log.es.take (c.from_ - x.log.base - 1).toNat ++ c.log.es⟩ }, 0) := by simp only [Hard.turned]; rw [if_neg k1, if_pos k2, if_neg c1]
      rw [e]
      simp only [Hard.turned]
      rw [if_neg k1, if_pos k2]
      have hl : x.log.last = x.log.base + x.log.es.length := rfl
      have htk : (x.log.es.take (c.from_ - x.log.base - 1).toNat).length = (c.from_ - x.log.base - 1).toNat := by simp; omega
      rw [if_neg (by simp only [Log.last, List.length_append, htk]; omega)]
      rw [List.take_append_of_le_length (by omega), List.take_of_length_le (by omega)]
  by_cases k3 : c.kind = 3
  · have e : x.turned c = ({ x with log := x.snapped c, conf := c.conf, snap := c.snap }, 0) := by simp only [Hard.turned]; rw [if_neg k1, if_neg k2, if_pos k3]
    rw [e]
    simp only [Hard.turned]
    rw [if_neg k1, if_neg k2, if_pos k3]
    obtain ⟨b1, b2⟩ := snapped_base x c
    have := snapped_self (x.snapped c) c { x with conf := c.conf, snap := c.snap } b1 b2
    rw [this]
  · have e : x.turned c = (x, 0) := by simp only [Hard.turned]; rw [if_neg k1, if_neg k2, if_neg k3]
    rw [e]; exact e

theorem turnIn_ok : ∀ {l l' : List Hard} {c : Change}, turnIn l c = some (l', 0) →
    l'.map Hard.group = l.map Hard.group ∧ l'.filter (fun y => decide (y.group ≠ c.group)) = l.filter (fun y => decide (y.group ≠ c.group)) ∧ turnIn l' c = some (l', 0) ∧ (∃ y ∈ l, y.group = c.group) ∧
      ∀ y ∈ l', y ∈ l ∨ ∃ z ∈ l, (z.turned c).2 = 0 ∧ y = (z.turned c).1
  | [], l', c, h => by simp [turnIn] at h
  | a :: r, l', c, h => by
    simp only [turnIn] at h
    by_cases k : a.group = c.group
    · rw [if_pos k] at h
      simp only [Option.some.injEq, Prod.mk.injEq] at h
      obtain ⟨rfl, h0⟩ := h
      have g := turned_group a c
      have tt := turned_twice a c h0
      refine ⟨by simp [g], ?_, ?_, ⟨a, by simp, k⟩, fun y hy => ?_⟩
      · simp [List.filter_cons, g, k]
      · simp only [turnIn, g, k, if_true, tt]
      · rcases List.mem_cons.1 hy with e | e
        · exact .inr ⟨a, by simp, h0, e⟩
        · exact .inl (by simp [e])
    · rw [if_neg k] at h
      simp only [Option.map_eq_some_iff] at h
      obtain ⟨⟨m, e⟩, hm, hh⟩ := h
      simp only [Prod.mk.injEq] at hh
      obtain ⟨rfl, rfl⟩ := hh
      obtain ⟨i1, i2, i3, ⟨y, hy, i4⟩, i5⟩ := turnIn_ok hm
      refine ⟨by simp [i1], by simp only [List.filter_cons, i2], ?_, ⟨y, by simp [hy], i4⟩, fun y hy => ?_⟩
      · simp only [turnIn, if_neg k, i3, Option.map_some]
      · rcases List.mem_cons.1 hy with e | e
        · exact .inl (by simp [e])
        · rcases i5 y e with e | ⟨z, hz, e⟩
          · exact .inl (by simp [e])
          · exact .inr ⟨z, by simp [hz], e⟩
theorem group_tr (a b c : Hard) (h : decide (a.group < b.group) = true) (h' : decide (b.group < c.group) = true) : decide (a.group < c.group) = true := by
  simp at *; omega
theorem ordB_group : ∀ {l l' : List Hard}, l'.map Hard.group = l.map Hard.group → ordB (fun a b : Hard => decide (a.group < b.group)) l = true → ordB (fun a b : Hard => decide (a.group < b.group)) l' = true
  | [], [], _, _ => rfl
  | [], _ :: _, h, _ => by simp at h
  | _ :: _, [], h, _ => by simp at h
  | [a], [b], _, _ => rfl
  | [a], b :: b' :: l', h, _ => by simp at h
  | a :: a' :: l, [b], h, _ => by simp at h
  | a :: a' :: l, b :: b' :: l', h, o => by
    simp only [List.map_cons, List.cons.injEq] at h
    obtain ⟨h1, h2, h3⟩ := h
    simp only [ordB, Bool.and_eq_true] at o ⊢
    refine ⟨by rw [h1, h2]; exact o.1, ordB_group (l := a' :: l) (by simp [h2, h3]) o.2⟩
theorem one_less : ∀ {l : List Hard} {g : Int}, ordB (fun a b : Hard => decide (a.group < b.group)) l = true → (∃ y ∈ l, y.group = g) → (l.filter fun y => decide (y.group ≠ g)).length + 1 = l.length
  | [], g, _, h => by obtain ⟨y, hy, _⟩ := h; simp at hy
  | a :: r, g, o, h => by
    obtain ⟨o1, o2⟩ := ordB_cons group_tr o
    by_cases k : a.group = g
    · have fr : r.filter (fun y => decide (y.group ≠ g)) = r := filter_all fun b hb => by have := o2 b hb; simp at this ⊢; omega
      rw [List.filter_cons, if_neg (by simp [k]), fr]; simp
    · obtain ⟨y, hy, e⟩ := h
      have : y ∈ r := by
        rcases List.mem_cons.1 hy with h | h
        · rw [h] at e; exact absurd e k
        · exact h
      have := one_less o1 ⟨y, this, e⟩
      rw [List.filter_cons, if_pos (by simp [k]), List.length_cons, this, List.length_cons]

/-- what ImageApart asks -/
theorem applied_apart (x : Image) (c : Change) (ho : x.ordered = true) (h : (x.applied c).2 = 0) :
    ((x.applied c).1.without c).hards.length + ((x.applied c).1.without c).votes.length + 1 = (x.applied c).1.hards.length + (x.applied c).1.votes.length ∧ (c.kind ≠ 4 → (x.applied c).1.hards.length = x.hards.length) ∧
    (x.applied c).1.ordered = true ∧ x.without c = (x.applied c).1.without c ∧ (x.applied c).1.applied c = ((x.applied c).1, 0) ∧
    (∀ y ∈ (x.applied c).1.hards, y ∈ x.hards ∨ ∃ z ∈ x.hards, (z.turned c).2 = 0 ∧ y = (z.turned c).1) ∧ (∀ v ∈ (x.applied c).1.votes, v ∈ x.votes ∨ v = c.vote) ∧ (x.applied c).1.hards.length = x.hards.length ∧ (x.applied c).1.votes.length ≤ x.votes.length + 1 := by
  simp only [Image.ordered, Bool.and_eq_true] at ho
  obtain ⟨o1, o2⟩ := ho
  by_cases k0 : c.kind < 1 ∨ 4 < c.kind
  · simp only [Image.applied] at h; rw [if_pos k0] at h; cases h
  by_cases k4 : c.kind = 4
  · have e : x.applied c = (⟨x.hards, accepted x.votes c.vote⟩, 0) := by simp only [Image.applied]; rw [if_neg k0, if_pos k4]
    obtain ⟨i1, i2, i3, i4, i5⟩ := accepted_ok x.votes c.vote o2
    rw [e]
    refine ⟨?_, fun hh => absurd k4 hh, by simp [Image.ordered, o1, i1], ?_, ?_, fun y hy => .inl hy, fun v hv => accepted_mem hv, rfl, i5⟩
    · simp only [Image.without, k4, if_true]
      rw [i2]; omega
    · simp only [Image.without, k4, if_true, i2]
    · simp only [Image.applied]; rw [if_neg k0, if_pos k4, i4]
  · simp only [Image.applied] at h
    rw [if_neg k0, if_neg k4] at h
    cases ht : turnIn x.hards c with
    | none => rw [ht] at h; cases h
    | some p =>
      obtain ⟨l, e⟩ := p
      rw [ht] at h
      simp only at h
      by_cases he : e ≠ 0
      · rw [if_pos he] at h; exact absurd h he
      have e0 : e = 0 := by simpa using he
      subst e0
      have e : x.applied c = (⟨l, x.votes⟩, 0) := by simp only [Image.applied]; rw [if_neg k0, if_neg k4, ht]; simp
      obtain ⟨i1, i2, i3, i4, i5⟩ := turnIn_ok ht
      have len : l.length = x.hards.length := by have := congrArg List.length i1; simpa using this
      rw [e]
      refine ⟨?_, fun _ => len, by simp [Image.ordered, o2, ordB_group i1 o1], ?_, ?_, i5, fun v hv => .inl hv, len, by simp⟩
      · simp only [Image.without, k4, if_false]
        rw [i2]
        have := one_less o1 i4
        omega
      · simp only [Image.without, k4, if_false, i2]
      · simp only [Image.applied]; rw [if_neg k0, if_neg k4, i3]; simp

end Glb
