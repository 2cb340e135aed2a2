/-
  A library of its own, for whatever program: arguments that read as plain data are data in memory that stays.
-/
import Derived.Test.YtoijpkpfgamlpaaGlbOwnT
import Derived.Test.YtoijpkpfgamlpaaGlbTop
import Derived.ChangeArms
import Derived.WideKeyArgs
import Derived.Below
set_option linter.unusedSimpArgs false
set_option linter.unusedVariables false
namespace Glb
open Go

mutual
/-- data, in memory that stays -/
def D.av : D → AV
  | .int k n => .int k n
  | .bool b => .bool b
  | .str s => .str s
  | .sl sz es => .vals 0 false sz (D.avLL es)
def D.avL : List D → List AV
  | [] => []
  | d :: r => D.av d :: D.avL r
def D.avLL : List (List D) → List (List AV)
  | [] => []
  | e :: r => D.avL e :: D.avLL r
end

theorem avL_map : ∀ l : List D, D.avL l = l.map D.av
  | [] => rfl
  | d :: r => by simp only [D.avL, List.map_cons, avL_map r]
theorem avLL_map : ∀ l : List (List D), D.avLL l = l.map D.avL
  | [] => rfl
  | d :: r => by simp only [D.avLL, List.map_cons, avLL_map r]

theorem av_scalar (d : D) : d.av.scalar = true := by cases d <;> simp only [D.av] <;> rfl

mutual
theorem rd_av (F : Nat → Prop) (h : AHeap) : ∀ d : D, Rd F h d d.av
  | .int k n => by simp only [Rd, D.av]
  | .bool b => by simp only [Rd, D.av]
  | .str s => by simp only [Rd, D.av]
  | .sl sz es => by
    simp only [Rd, D.av]
    exact ⟨_, .inr (.inl ⟨0, false, rfl⟩), rdLL_av F h es⟩
theorem rdL_av (F : Nat → Prop) (h : AHeap) : ∀ l : List D, RdL F h l (D.avL l)
  | [] => by simp only [RdL, D.avL]
  | d :: r => by simp only [RdL, D.avL]; exact ⟨_, _, rfl, rd_av F h d, rdL_av F h r⟩
theorem rdLL_av (F : Nat → Prop) (h : AHeap) : ∀ l : List (List D), RdLL F h l (D.avLL l)
  | [] => by simp only [RdLL, D.avLL]
  | d :: r => by simp only [RdLL, D.avLL]; exact ⟨_, _, rfl, rdL_av F h d, rdLL_av F h r⟩
end

def tyFields (P : Program) (g : TypeId → Option (List Ty)) : List Field → Nat → Option (List Ty)
  | [], _ => some []
  | f :: r, o => match g f.type with
    | some ts => if f.offset = o ∧ P.cellsOf f.type = ts.length then (tyFields P g r (o + ts.length)).map (ts ++ ·) else none
    | none => none

/-- the cells of a type, where it is one of plain data -/
def tysOf (P : Program) : Nat → TypeId → Option (List Ty)
  | 0, _ => none
  | n + 1, t =>
    match P.underlying t with
    | some .bool => some [.bool]
    | some (.int k) => some [.int k]
    | some .string => some [.str]
    | some (.slice e) => match tysOf P n e with
      | some (x :: ts) => if P.cellsOf e = (x :: ts).length then some [.sl (P.cellsOf e) (x :: ts)] else none
      | _ => none
    | some (.struct fs) => match tyFields P (tysOf P n) fs.toList 0 with
      | some ts => if P.cellsOf t = ts.length then some ts else none
      | none => none
    | _ => none

mutual
def Fits : D → Ty → Prop
  | .int k n, t => t = .int k ∧ (Lit.int k n).wf = true
  | .bool _, t => t = .bool
  | .str _, t => t = .str
  | .sl sz ds, t => ∃ ts, t = .sl sz ts ∧ FitsLL ds ts
def FitsL : List D → List Ty → Prop
  | [], ts => ts = []
  | d :: ds, l => ∃ t ts, l = t :: ts ∧ Fits d t ∧ FitsL ds ts
def FitsLL : List (List D) → List Ty → Prop
  | [], _ => True
  | e :: ds, ts => FitsL e ts ∧ FitsLL ds ts
end

theorem FitsL_length : ∀ {ds : List D} {ts : List Ty}, FitsL ds ts → ds.length = ts.length := by
  intro ds
  induction ds with
  | nil => intro ts h; simp only [FitsL] at h; subst h; rfl
  | cons d ds ih => intro ts h; simp only [FitsL] at h; obtain ⟨t, ts', rfl, _, h⟩ := h; simp [ih h]

theorem FitsL_app : ∀ {ds ds' : List D} {ts ts' : List Ty}, FitsL ds ts → FitsL ds' ts' → FitsL (ds ++ ds') (ts ++ ts') := by
  intro ds
  induction ds with
  | nil => intro ds' ts ts' h h'; simp only [FitsL] at h; subst h; exact h'
  | cons d ds ih => intro ds' ts ts' h h'; simp only [FitsL] at h; obtain ⟨t, ts1, rfl, h1, h2⟩ := h; simp only [List.cons_append, FitsL]; exact ⟨t, _, rfl, h1, ih h2 h'⟩

theorem FitsLL_mk : ∀ {ds : List (List D)} {ts : List Ty}, (∀ d ∈ ds, FitsL d ts) → FitsLL ds ts := by
  intro ds
  induction ds with
  | nil => intro ts _; trivial
  | cons e ds ih => intro ts h; exact ⟨h e (by simp), ih fun d hd => h d (by simp [hd])⟩

theorem FitsLL_get : ∀ {ds : List (List D)} {ts : List Ty}, FitsLL ds ts → ∀ d ∈ ds, FitsL d ts := by
  intro ds
  induction ds with
  | nil => intro ts _ d h; simp at h
  | cons e ds ih =>
    intro ts h d hd
    simp only [FitsLL] at h
    rcases List.mem_cons.1 hd with rfl | hd
    · exact h.1
    · exact ih h.2 d hd

/-- all that is there stays -/
def Gh.all (w : World) : Gh := { N := 0, loc := fun _ => none, nil := fun _ => False, live := fun _ => False, tag := fun _ _ => False, S := fun b => b < w.heap.size }

theorem Gam.all (w : World) : Gam (Gh.all w) w [] where
  len := rfl
  live n := ⟨fun h => h.elim, fun ⟨⟨_, _, _, h⟩, _⟩ => by simp at h⟩
  tag _ _ h := h.elim
  inj _ _ _ h := h.elim
  liveTag _ _ _ h := h.elim
  liveS _ _ h := h.elim
  tagInj _ _ _ h := h.elim
  tagS _ _ h := h.elim
  tagLt _ _ h := h.elim
  sLt _ h := h
  arr _ _ _ _ _ h := by simp at h
  nil _ _ _ _ h := by simp at h
  nilLoc _ h := h.elim

theorem cell_lt_size {w : World} {a : Addr} {v : Value} (h : w.cell? a = some v) : a.block < w.heap.size := by
  simp only [World.cell?] at h
  split at h
  · rename_i hh; exact (Array.getElem?_eq_some_iff.1 hh).1
  · cases h

theorem cell_spot {w : World} {a : Addr} {v : Value} (h : w.cell? a = some v) : a.spot = none := by
  simp only [World.cell?] at h
  split at h
  · split at h
    · cases h
    · rename_i hs; simpa using hs
  · cases h

section
variable {H : Type} {enc : TypeId × Value → H} {P : Program} {w : World} {held : Bool}

theorem cells_get {a : Addr} {n : Nat} {cs : List Value} (h : w.cells? 0 a n = some cs) : cs.length = n ∧ ∀ j, j < n → w.cell? (a.add j) = cs[j]? := by
  simp only [World.cells?, Nat.zero_le, if_true] at h
  have hl := mapM_some_length h
  refine ⟨by simpa using hl, fun j hj => ?_⟩
  exact mapM_some_get h j j (by simp [hj])

theorem trod_view : ∀ (fuel n : Nat) (t : TypeId) (cs : List Value) (x : DataW H × List MemPlace) (ts : List Ty), DataW.trod enc P w 0 (fun _ => true) held fuel t cs = some x → tysOf P n t = some ts →
    ∃ ds : List D, FitsL ds ts ∧ ds.length = cs.length ∧ ∀ (j : Nat) (d : D) (v : Value), ds[j]? = some d → cs[j]? = some v → V (Gh.all w) w d.av v := by
  intro fuel
  induction fuel with
  | zero => intro n t cs x ts h _; simp [DataW.trod] at h
  | succ m ih =>
    intro n t cs x ts h ht
    cases n with
    | zero => simp [tysOf] at ht
    | succ n =>
      simp only [tysOf] at ht
      split at ht
      · rename_i hu
        cases ht
        unfold DataW.trod at h
        rw [hu] at h
        split at h <;> simp_all
        rename_i b
        refine ⟨[.bool b], by simp [FitsL, Fits], rfl, fun j d v hd hv => ?_⟩
        cases j <;> simp at hd hv
        subst hd hv; simp only [D.av]; exact .bool b
      · rename_i k hu
        cases ht
        unfold DataW.trod at h
        rw [hu] at h
        split at h <;> simp_all
        rename_i z heq
        obtain ⟨⟨hk, hw⟩, _⟩ := h
        subst heq
        subst hk
        refine ⟨[.int _ z], by simp only [FitsL, Fits]; exact ⟨_, _, rfl, ⟨rfl, hw⟩, rfl⟩, rfl, fun j d v hd hv => ?_⟩
        cases j <;> simp at hd hv
        subst hd hv; simp only [D.av]; exact .int _ _
      · rename_i hu
        cases ht
        unfold DataW.trod at h
        rw [hu] at h
        split at h <;> simp_all
        rename_i s
        refine ⟨[.str s], by simp [FitsL, Fits], rfl, fun j d v hd hv => ?_⟩
        cases j <;> simp at hd hv
        subst hd hv; simp only [D.av]; exact .str s
      · rename_i e hu
        split at ht
        · rename_i x0 ts0 hte
          split at ht
          · rename_i hsz
            cases ht
            rcases DataW.trod_slice hu h with ⟨rfl, _⟩ | ⟨a, len, cap, elems, rest, n', hfe, rfl, _, _, hlc, _, hel, hget, hrest, _⟩
            · refine ⟨[.sl (P.cellsOf e) []], by simp only [FitsL, Fits]; exact ⟨_, _, rfl, ⟨_, rfl, trivial⟩, rfl⟩, rfl, fun j d v hd hv => ?_⟩
              cases j <;> simp at hd hv
              subst hd hv; simp only [D.av, D.avLL]; exact .valsNil _ _ _
            · have hn' : n' = m := by omega
              subst hn'
              generalize hq : P.cellsOf e = q at *
              have hq0 : 0 < q := by rw [hsz]; simp
              have one : ∀ i, i < len → ∃ ds : List D, FitsL ds (x0 :: ts0) ∧ ∃ cs' : List Value, w.cells? 0 (a.add (i * q)) q = some cs' ∧ ds.length = cs'.length ∧
                  ∀ (j : Nat) (d : D) (v : Value), ds[j]? = some d → cs'[j]? = some v → V (Gh.all w) w d.av v := by
                intro i hi
                have := hget i hi
                have he : elems[i]? = some (elems[i]'(by omega)) := by rw [List.getElem?_eq_getElem]
                rw [he] at this
                obtain ⟨cs', hcs, htr⟩ := Option.bind_eq_some_iff.1 this
                obtain ⟨ds, h1, h2, h3⟩ := ih n e cs' _ _ htr hte
                exact ⟨ds, h1, cs', hcs, h2, h3⟩
              let f : Nat → List D := fun i => if hi : i < len then Classical.choose (one i hi) else []
              have hf : ∀ i (hi : i < len), FitsL (f i) (x0 :: ts0) ∧ ∃ cs' : List Value, w.cells? 0 (a.add (i * q)) q = some cs' ∧ (f i).length = cs'.length ∧
                  ∀ (j : Nat) (d : D) (v : Value), (f i)[j]? = some d → cs'[j]? = some v → V (Gh.all w) w d.av v := by
                intro i hi
                have := Classical.choose_spec (one i hi)
                simp only [f, dif_pos hi]; exact this
              have hspot : cap ≠ 0 → a.spot = none := by
                intro hc
                have some0 : ∃ cs', w.cells? 0 (a.add (0 * q)) q = some cs' := by
                  rcases Nat.eq_zero_or_pos len with h0 | h0
                  · obtain ⟨hr1, hr2⟩ := hrest rfl
                    have := hr2 0 (by omega)
                    rw [h0, Nat.zero_add] at this
                    have he : rest[0]? = some (rest[0]'(by omega)) := by rw [List.getElem?_eq_getElem]
                    rw [he] at this
                    obtain ⟨cs', hcs, _⟩ := Option.bind_eq_some_iff.1 this
                    exact ⟨cs', hcs⟩
                  · obtain ⟨_, cs', hcs, _⟩ := hf 0 h0
                    exact ⟨cs', hcs⟩
                obtain ⟨cs', hcs⟩ := some0
                obtain ⟨hl, hg⟩ := cells_get hcs
                have := hg 0 hq0
                rw [List.getElem?_eq_getElem (by omega)] at this
                have := cell_spot this
                simpa [Addr.add] using this
              have hgc : ∀ i j c, getc (D.avLL ((List.range len).map f)) i j = some c → i < len ∧ ∃ d, (f i)[j]? = some d ∧ c = d.av := by
                intro i j c hc
                simp only [getc, avLL_map, List.getElem?_map, List.map_map] at hc
                rcases Nat.lt_or_ge i len with hi | hi
                · rw [List.getElem?_range hi] at hc
                  simp only [Option.map_some, Option.bind_some, Function.comp, avL_map, List.getElem?_map, Option.map_eq_some_iff] at hc
                  obtain ⟨d, h1, h2⟩ := hc
                  exact ⟨hi, d, h1, h2.symm⟩
                · rw [List.getElem?_eq_none (by simpa using hi)] at hc; simp at hc
              have hcell : ∀ i j c, getc (D.avLL ((List.range len).map f)) i j = some c → ∃ v, w.cell? ⟨a.block, a.off + (i * q + j), none⟩ = some v ∧ V (Gh.all w) w c v := by
                intro i j c hc
                obtain ⟨hi, d, hd, rfl⟩ := hgc i j c hc
                obtain ⟨_, cs', hcs, hl, hV⟩ := hf i hi
                obtain ⟨hl', hg⟩ := cells_get hcs
                have hj : j < q := by have := (List.getElem?_eq_some_iff.1 hd).1; omega
                have hcj : cs'[j]? = some (cs'[j]'(by omega)) := by rw [List.getElem?_eq_getElem]
                have hv := hg j hj
                rw [hcj] at hv
                have hs := hspot (by omega)
                rw [addr_add' (a := a.add (i * q)) (by rw [addr_add' hs]), addr_add' hs] at hv
                refine ⟨_, ?_, hV j d _ hd hcj⟩
                rw [← hv]; simp [Nat.add_assoc]
              refine ⟨[.sl q ((List.range len).map f)], ?_, rfl, fun j d v hd hv => ?_⟩
              · simp only [FitsL, Fits]
                refine ⟨_, _, rfl, ⟨_, rfl, FitsLL_mk fun d hd => ?_⟩, rfl⟩
                obtain ⟨i, hi, rfl⟩ := List.mem_map.1 hd
                exact (hf i (by simpa using hi)).1
              · cases j <;> simp at hd hv
                subst hd hv
                simp only [D.av]
                have hlen : (D.avLL ((List.range len).map f)).length = len := by simp [avLL_map]
                have := V.vals (G := Gh.all w) (w := w) 0 false q (D.avLL ((List.range len).map f)) a cap
                  (fun i j => (w.cell? ⟨a.block, a.off + (i * q + j), none⟩).getD undef) (by omega) (by simp) hspot ?_ ?_ ?_ ?_
                · rw [hlen] at this; exact this
                · intro hne
                  have h0 : 0 < len := by
                    rcases Nat.eq_zero_or_pos len with h0 | h0
                    · exact absurd (List.eq_nil_of_length_eq_zero (by omega)) hne
                    · exact h0
                  obtain ⟨_, cs', hcs, hl, hV⟩ := hf 0 h0
                  obtain ⟨hl', hg⟩ := cells_get hcs
                  have := hg 0 hq0
                  rw [List.getElem?_eq_getElem (by omega)] at this
                  have := cell_lt_size this
                  simpa [Addr.add, Gh.prot, Gh.all] using this
                · intro e' he'
                  rw [avLL_map] at he'
                  simp only [List.map_map, List.mem_map] at he'
                  obtain ⟨i, hi, rfl⟩ := he'
                  have hi' : i < len := by simpa using hi
                  obtain ⟨h1, cs', hcs, hl, _⟩ := hf i hi'
                  obtain ⟨hl', _⟩ := cells_get hcs
                  simp only [Function.comp, avL_map]
                  refine ⟨by simp; omega, ?_⟩
                  rw [List.all_eq_true]
                  intro z hz
                  obtain ⟨d, _, rfl⟩ := List.mem_map.1 hz
                  exact av_scalar d
                · intro i j c hc
                  obtain ⟨v, hv, _⟩ := hcell i j c hc
                  simp [hv]
                · intro i j c hc
                  obtain ⟨v, hv, hV⟩ := hcell i j c hc
                  simp [hv, hV]
          · cases ht
        · cases ht
      · rename_i fs hu
        obtain ⟨hts1, hcl⟩ : tyFields P (tysOf P n) fs.toList 0 = some ts ∧ P.cellsOf t = ts.length := by
          split at ht
          · split at ht
            · rename_i h1 h2; cases ht; exact ⟨h1, h2⟩
            · cases ht
          · cases ht
        obtain ⟨xs, n', hfe, _, hlen, hxl, hfd⟩ := DataW.trod_struct hu h
        have hn' : n' = m := by omega
        subst hn'
        -- the fields from one on
        have key : ∀ (k : Nat) (r : List Field) (o : Nat) (ts : List Ty), fs.toList.drop k = r → tyFields P (tysOf P n) r o = some ts → o ≤ cs.length →
            ∃ ds : List D, FitsL ds ts ∧ o + ds.length ≤ cs.length ∧ ∀ (j : Nat) (d : D) (v : Value), ds[j]? = some d → cs[o + j]? = some v → V (Gh.all w) w d.av v := by
          intro k r
          induction r generalizing k with
          | nil =>
            intro o ts _ hts ho
            simp only [tyFields, Option.some.injEq] at hts
            subst hts
            exact ⟨[], by simp [FitsL], by simpa using ho, fun j d v hd => by simp at hd⟩
          | cons f r ihr =>
            intro o ts hk hts ho
            simp only [tyFields] at hts
            split at hts
            · rename_i tf htf
              split at hts
              · rename_i hoff
                obtain ⟨h1, h2⟩ := hoff
                simp only [Option.map_eq_some_iff] at hts
                obtain ⟨tr, htr, rfl⟩ := hts
                have hfk : fs[k]? = some f := by
                  have : (fs.toList.drop k)[0]? = some f := by rw [hk]; rfl
                  simpa using this
                have hklt : k < fs.size := (Array.getElem?_eq_some_iff.1 hfk).1
                have := hfd k f hfk
                have hxk : xs[k]? = some (xs[k]'(by omega)) := by rw [List.getElem?_eq_getElem]
                rw [hxk] at this
                obtain ⟨d1, g1, g2, g3⟩ := ih n f.type _ _ _ this htf
                have hd1 := FitsL_length g1
                simp only [List.length_take, List.length_drop, h1, h2] at g2
                have ho' : o + tf.length ≤ cs.length := by omega
                have hk' : fs.toList.drop (k + 1) = r := by
                  rw [← List.drop_drop, hk]; rfl
                obtain ⟨d2, q1, q2, q3⟩ := ihr (k + 1) (o + tf.length) tr hk' htr ho'
                refine ⟨d1 ++ d2, FitsL_app g1 q1, by simp; omega, fun j d v hd hv => ?_⟩
                rw [List.getElem?_append] at hd
                split at hd
                · rename_i hj
                  refine g3 j d v hd ?_
                  rw [List.getElem?_take_of_lt (by rw [h2]; omega), List.getElem?_drop, h1]; exact hv
                · rename_i hj
                  refine q3 (j - d1.length) d v hd ?_
                  rw [show o + tf.length + (j - d1.length) = o + j by omega]; exact hv
              · cases hts
            · cases hts
        obtain ⟨ds, g1, g2, g3⟩ := key 0 fs.toList 0 ts rfl hts1 (Nat.zero_le _)
        exact ⟨ds, g1, by rw [FitsL_length g1, ← hcl, hlen], fun j d v hd hv => g3 j d v hd (by rw [Nat.zero_add]; exact hv)⟩
      · cases ht

/-! a whole list of arguments -/

def isStructT (P : Program) (t : TypeId) : Bool :=
  match P.underlying t with
  | some (.struct _) => true
  | _ => false

def shapes (P : Program) (n : Nat) : List TypeId → Option (List (Bool × List Ty))
  | [] => some []
  | t :: r => match tysOf P n t, shapes P n r with
    | some ts, some l => some ((isStructT P t, ts) :: l)
    | _, _ => none

def argAV (b : Bool) (ds : List D) : AV := if b then .agg (D.avL ds) else match ds with
  | [d] => d.av
  | _ => .top

def FitsAll : List (List D) → List (Bool × List Ty) → Prop
  | [], l => l = []
  | d :: ds, l => ∃ s r, l = s :: r ∧ FitsL d s.2 ∧ FitsAll ds r

def argAVs : List (List D) → List (Bool × List Ty) → List AV
  | d :: ds, s :: r => argAV s.1 d :: argAVs ds r
  | _, _ => []

theorem okWide_struct {r : Reach} {b0 : Nat} {t : TypeId} {v : Value} (hs : isStructT P t = true) (hv : Value.okWide P w r b0 t v) : ∃ cs, v = .agg cs := by
  unfold isStructT at hs
  unfold Value.okWide at hv
  split at hs
  · rename_i fs hu
    rw [hu] at hv
    obtain ⟨cs, rfl, _⟩ := hv
    exact ⟨cs, rfl⟩
  · cases hs

theorem okWide_one {r : Reach} {b0 : Nat} {t : TypeId} {v : Value} {n : Nat} {ts : List Ty} (ht : tysOf P n t = some ts) (hs : isStructT P t = false) (hv : Value.okWide P w r b0 t v) : v.cells = #[v] := by
  unfold isStructT at hs
  cases n with
  | zero => simp [tysOf] at ht
  | succ n =>
    simp only [tysOf] at ht
    unfold Value.okWide Cell.okWide Cell.ok at hv
    split at ht
    · rename_i hu; rw [hu] at hv; simp only at hv; split at hv <;> simp_all [Value.cells]
    · rename_i k hu; rw [hu] at hv; simp only at hv; split at hv <;> simp_all [Value.cells]
    · rename_i hu; rw [hu] at hv; simp only at hv; split at hv <;> simp_all [Value.cells]
    · rename_i e hu; rw [hu] at hv; simp only at hv; split at hv <;> simp_all [Value.cells]
    · rename_i fs hu; rw [hu] at hs; cases hs
    · cases ht

theorem args_view {r : Reach} {b0 n : Nat} : ∀ (tts : List TypeId) (vs : List Value) (ds : List (DataW H)) (ps : List MemPlace) (sh : List (Bool × List Ty)),
    DataW.TrodAll enc P w 0 (fun _ => true) held tts vs ds ps → (∀ (j : Nat) (t : TypeId) (v : Value), tts[j]? = some t → vs[j]? = some v → Value.okWide P w r b0 t v) → shapes P n tts = some sh →
    ∃ dss, FitsAll dss sh ∧ VL (Gh.all w) w (argAVs dss sh) vs.toArray := by
  intro tts
  induction tts with
  | nil =>
    intro vs ds ps sh h _ hs
    simp only [shapes, Option.some.injEq] at hs
    subst hs
    cases vs with
    | nil => exact ⟨[], rfl, VL.nil _ _⟩
    | cons v vs => cases ds <;> simp [DataW.TrodAll] at h
  | cons t tts ih =>
    intro vs ds ps sh h hok hs
    simp only [shapes] at hs
    split at hs
    · rename_i ts l ht hl
      cases hs
      cases vs with
      | nil => cases ds <;> simp [DataW.TrodAll] at h
      | cons v vs =>
        cases ds with
        | nil => simp [DataW.TrodAll] at h
        | cons d ds =>
          obtain ⟨p, q, ⟨fuel, hd⟩, hrest, _⟩ := h
          obtain ⟨dss, h1, h2⟩ := ih vs ds q l hrest (fun j t v a b => hok (j + 1) t v (by simpa using a) (by simpa using b)) hl
          obtain ⟨d1, g1, g2, g3⟩ := trod_view fuel n t _ _ ts hd ht
          refine ⟨d1 :: dss, ⟨_, _, rfl, g1, h1⟩, ?_⟩
          refine VL.cons ?_ h2
          simp only [argAV]
          cases hst : isStructT P t with
          | true =>
            obtain ⟨cs, rfl⟩ := okWide_struct hst (hok 0 t v rfl rfl)
            simp only [if_true]
            simp only [Value.cells, Array.length_toList] at g2 g3
            refine .agg _ _ (by rw [avL_map]; simpa using g2) (fun j c v hc hv => ?_)
            rw [avL_map, List.getElem?_map] at hc
            cases hj : d1[j]? with
            | none => rw [hj] at hc; cases hc
            | some x =>
              rw [hj] at hc
              simp only [Option.map_some, Option.some.injEq] at hc
              subst hc
              exact g3 j x v hj (by simpa using hv)
          | false =>
            have hc1 := okWide_one ht hst (hok 0 t v rfl rfl)
            rw [hc1] at g2 g3
            simp only [List.length_cons, List.length_nil] at g2
            match d1, g2 with
            | [x], _ =>
              simp only [Bool.false_eq_true, if_false]
              exact g3 0 x v rfl rfl
    · cases hs

/-- a law that answers yes for whatever data -/
theorem law_calls {f : FuncId} {sh : List (Bool × List Ty)} {r : Reach} {b0 n : Nat} {tts : List TypeId} {args : Array Value} {ds : List (DataW H)} {ps : List MemPlace} (hs : shapes P n tts = some sh)
    (hlaw : ∀ dss, FitsAll dss sh → ACalls P f (argAVs dss sh) [] fun r _ => r = .bool true) (h : DataW.TrodAll enc P w 0 (fun _ => true) held tts args.toList ds ps)
    (hok : ∀ (j : Nat) (t : TypeId) (v : Value), tts[j]? = some t → args[j]? = some v → Value.okWide P w r b0 t v) :
    Calls P f args w fun e w' => e = .returned (.bool true) ∧ Go.RowKit.Grown w w' ∧ ∀ b, b < w.heap.size → w'.heap[b]? = w.heap[b]? := by
  obtain ⟨dss, h1, h2⟩ := args_view tts args.toList ds ps sh h (fun j t v a b => hok j t v a (by simpa using b)) hs
  refine (hlaw dss h1 (Gh.all w) w args (Gam.all w) (by simpa using h2)).mono ?_
  rintro e w' ⟨v, q, h'', G', rfl, rfl, _, hV, hst⟩
  cases hV
  have hno : ∀ b, ¬ (Gh.all w).owned b := fun b hb => by rcases hb with ⟨n, hn, _⟩ | ⟨n, hn⟩ <;> exact hn.elim
  exact ⟨rfl, hst.grown hno, fun b hb => hst.frame b hb (hno b)⟩

/-- arguments that read as they did -/
theorem trodAll_stays (hl : laidOutB P = true) {W W' : World} {sp : Nat → Bool} (hsame : ∀ b, b < W.heap.size → W'.heap[b]? = W.heap[b]?) : ∀ (tts : List TypeId) (vs : List Value) (ds : List (DataW H)) (ps : List MemPlace),
    (tts.all fun t => P.readableRec t && decide (t < P.types.size)) = true → DataW.TrodAll enc P W 0 (fun _ => true) true tts vs ds ps → (∀ p ∈ ps, p.block < W.heap.size) → (∀ p ∈ ps, sp p.block = true) →
    DataW.TrodAll enc P W' 0 sp true tts vs ds ps := by
  intro tts
  induction tts with
  | nil => intro vs ds ps _ h _ _; cases vs <;> cases ds <;> first | exact h | simp [DataW.TrodAll] at h
  | cons t tts ih =>
    intro vs ds ps hall h hlt hsp
    simp only [List.all_cons, Bool.and_eq_true, decide_eq_true_eq] at hall
    cases vs with
    | nil => cases ds <;> simp [DataW.TrodAll] at h
    | cons v vs =>
      cases ds with
      | nil => simp [DataW.TrodAll] at h
      | cons d ds =>
        obtain ⟨p, q, h1, h2, rfl⟩ := h
        refine ⟨p, q, ?_, ih vs ds q (by simpa using hall.2) h2 (fun x hx => hlt x (List.mem_append_right _ hx)) (fun x hx => hsp x (List.mem_append_right _ hx)), rfl⟩
        refine WideElems.Trod_stays hl hall.1.1 hall.1.2 h1 (fun x hx => ?_) (fun x hx => hsp x (List.mem_append_left _ hx))
        have := hsame x.block (hlt x (List.mem_append_left _ hx))
        cases x with
        | cell b o => exact World.cell?_of_block (w := W) this
        | map b => exact this

end
end Glb
