/-
  A library of its own, for whatever program: what a call made and nobody names is left out.
-/
import Derived.Test.YtoijpkpfgamlpaaGlbWp
set_option linter.unusedSimpArgs false
set_option linter.unusedVariables false
namespace Glb
open Go

mutual
/-- no name at or above a number -/
def AV.upto (k : Nat) : AV → Bool
  | .ptr n _ _ _ => decide (n < k)
  | .ref n _ _ _ _ => decide (n < k)
  | .vptr t cs => decide (t ≤ k) && AV.uptoL k cs
  | .vals t _ _ es => (es.isEmpty || decide (t ≤ k)) && AV.uptoLL k es
  | .agg cs => AV.uptoL k cs
  | .tup cs => AV.uptoL k cs
  | .clo _ fs cs => AV.uptoL k fs && AV.uptoL k cs
  | .iface _ v => AV.upto k v
  | _ => true
def AV.uptoL (k : Nat) : List AV → Bool
  | [] => true
  | v :: r => AV.upto k v && AV.uptoL k r
def AV.uptoLL (k : Nat) : List (List AV) → Bool
  | [] => true
  | v :: r => AV.uptoL k v && AV.uptoLL k r
end

theorem belowL_get {k : Nat} : ∀ {cs : List AV}, AV.uptoL k cs = true → ∀ (j : Nat) (c : AV), cs[j]? = some c → c.upto k = true := by
  intro cs
  induction cs with
  | nil => intro _ j c h; simp at h
  | cons v r ih =>
    intro h j c hj
    simp only [AV.uptoL, Bool.and_eq_true] at h
    cases j with
    | zero => simp at hj; subst hj; exact h.1
    | succ j => exact ih h.2 j c (by simpa using hj)

theorem belowLL_get {k : Nat} : ∀ {es : List (List AV)}, AV.uptoLL k es = true → ∀ (i j : Nat) (c : AV), getc es i j = some c → c.upto k = true := by
  intro es
  induction es with
  | nil => intro _ i j c h; simp [getc] at h
  | cons v r ih =>
    intro h i j c hj
    simp only [AV.uptoLL, Bool.and_eq_true] at h
    cases i with
    | zero => simp [getc] at hj; exact belowL_get h.1 j c hj
    | succ i => exact ih h.2 i j c (by simpa [getc] using hj)

def Gh.trunc (G : Gh) (k : Nat) : Gh := { G with N := k, live := fun n => G.live n ∧ n < k, tag := fun n b => G.tag n b ∧ n < k }

theorem prot_trunc {G : Gh} {k t b : Nat} (ht : t ≤ k) (h : G.prot t b) : (G.trunc k).prot t b := by
  cases t with
  | zero => exact h
  | succ n => exact ⟨h, by omega⟩

theorem V.trunc {G w av v k} (h : V G w av v) (hb : av.upto k = true) : V (G.trunc k) w av v := by
  induction h with
  | top v => exact .top v
  | bool b => exact .bool b
  | int k n => exact .int k n
  | str s => exact .str s
  | raw v => exact .raw v
  | nils => exact .nils
  | ptr n sz i o b hn hl => exact .ptr n sz i o b (by simpa [AV.upto, Gh.trunc] using hb) hl
  | vptr t cs b off f hp hc _ ih =>
    simp only [AV.upto, Bool.and_eq_true, decide_eq_true_eq] at hb
    exact .vptr t cs b off f (prot_trunc hb.1 hp) hc (fun j c hj => ih j c hj (belowL_get hb.2 j c hj))
  | ref n sz off len cap c ty m b hn hl hle hcap hs hm => exact .ref n sz off len cap c ty m b (by simpa [AV.upto, Gh.trunc] using hb) hl hle hcap hs hm
  | refNil n sz cap hn hl hc => exact .refNil n sz cap (by simpa [AV.upto, Gh.trunc] using hb) hl hc
  | vals t clip sz es a cap f hl hcl hsp hp hes hc _ ih =>
    simp only [AV.upto, Bool.and_eq_true, Bool.or_eq_true, decide_eq_true_eq, List.isEmpty_iff] at hb
    exact .vals t clip sz es a cap f hl hcl hsp (fun h => prot_trunc (hb.1.resolve_left h) (hp h)) hes hc (fun i j c hj => ih i j c hj (belowLL_get hb.2 i j c hj))
  | valsNil t clip sz => exact .valsNil t clip sz
  | agg cs vs hl _ ih => exact .agg cs vs hl (fun j c v hc hv => ih j c v hc hv (belowL_get (by simpa [AV.upto] using hb) j c hc))
  | tup cs vs hl _ ih => exact .tup cs vs hl (fun j c v hc hv => ih j c v hc hv (belowL_get (by simpa [AV.upto] using hb) j c hc))
  | clo f fs us cs vs hl _ hl' _ ih ih' =>
    simp only [AV.upto, Bool.and_eq_true] at hb
    exact .clo f fs us cs vs hl (fun j c v hc hv => ih j c v hc hv (belowL_get hb.1 j c hc)) hl' (fun j c v hc hv => ih' j c v hc hv (belowL_get hb.2 j c hc))
  | iface t c v _ ih => exact .iface t c v (ih (by simpa [AV.upto] using hb))

theorem belowL_mk {k : Nat} : ∀ {cs : List AV}, (∀ (j : Nat) (c : AV), cs[j]? = some c → c.upto k = true) → AV.uptoL k cs = true := by
  intro cs
  induction cs with
  | nil => intro _; rfl
  | cons v r ih =>
    intro h
    simp only [AV.uptoL, Bool.and_eq_true]
    exact ⟨h 0 v rfl, ih fun j c hj => h (j + 1) c (by simpa using hj)⟩

theorem belowLL_mk {k : Nat} : ∀ {es : List (List AV)}, (∀ (i j : Nat) (c : AV), getc es i j = some c → c.upto k = true) → AV.uptoLL k es = true := by
  intro es
  induction es with
  | nil => intro _; rfl
  | cons v r ih =>
    intro h
    simp only [AV.uptoLL, Bool.and_eq_true]
    exact ⟨belowL_mk fun j c hj => h 0 j c (by simpa [getc] using hj), ih fun i j c hj => h (i + 1) j c (by simpa [getc] using hj)⟩

theorem Gam.protN {G w h} (g : Gam G w h) {t b : Nat} (hp : G.prot t b) : t ≤ G.N := by
  cases t with
  | zero => exact Nat.zero_le _
  | succ n => exact g.ltN (g.tag n b hp)

theorem V.isUpto {G w h} (g : Gam G w h) {av v} (hv : V G w av v) : av.upto G.N = true := by
  induction hv with
  | top v => rfl
  | bool b => rfl
  | int k n => rfl
  | str s => rfl
  | raw v => rfl
  | nils => rfl
  | ptr n sz i o b hn hl => simpa [AV.upto] using hn
  | vptr t cs b off f hp hc _ ih => simp only [AV.upto, Bool.and_eq_true, decide_eq_true_eq]; exact ⟨g.protN hp, belowL_mk fun j c hj => ih j c hj⟩
  | ref n sz off len cap c ty m b hn hl hle hcap hs hm => simpa [AV.upto] using hn
  | refNil n sz cap hn hl hc => simpa [AV.upto] using hn
  | vals t clip sz es a cap f hl hcl hsp hp hes hc _ ih =>
    simp only [AV.upto, Bool.and_eq_true, Bool.or_eq_true, decide_eq_true_eq, List.isEmpty_iff]
    refine ⟨?_, belowLL_mk fun i j c hj => ih i j c hj⟩
    by_cases h : es = []
    · exact .inl h
    · exact .inr (g.protN (hp h))
  | valsNil t clip sz => simp [AV.upto, AV.uptoLL]
  | agg cs vs hl hv ih =>
    refine belowL_mk fun j c hj => ?_
    have hlt := (List.getElem?_eq_some_iff.1 hj).1
    exact ih j c _ hj (by simp [← hl, hlt] : vs[j]? = some (vs[j]'(by omega)))
  | tup cs vs hl hv ih =>
    refine belowL_mk fun j c hj => ?_
    have hlt := (List.getElem?_eq_some_iff.1 hj).1
    exact ih j c _ hj (by simp [← hl, hlt] : vs[j]? = some (vs[j]'(by omega)))
  | clo f fs us cs vs hl _ hl' _ ih ih' =>
    simp only [AV.upto, Bool.and_eq_true]
    refine ⟨belowL_mk fun j c hj => ?_, belowL_mk fun j c hj => ?_⟩
    · have hlt := (List.getElem?_eq_some_iff.1 hj).1
      exact ih j c _ hj (by simp [← hl, hlt] : us[j]? = some (us[j]'(by omega)))
    · have hlt := (List.getElem?_eq_some_iff.1 hj).1
      exact ih' j c _ hj (by simp [← hl', hlt] : vs[j]? = some (vs[j]'(by omega)))
  | iface t c v _ ih => exact ih

/-- what of the heap was changed, at most -/
def Ext (F : Nat → Prop) (h h' : AHeap) : Prop := h.length ≤ h'.length ∧ ∀ m, m < h.length → ¬ F m → h'[m]? = h[m]?

def nof : Nat → Prop := fun _ => False

theorem Gam.trunc {G w h G' w' h'} (g : Gam G w h) (g' : Gam G' w' h') (s : Stp G w G' w') (hx : Ext nof h h') : Gam (G'.trunc h.length) w' h ∧ Stp G w (G'.trunc h.length) w' := by
  have hN : h.length = G.N := g.len
  have same : ∀ n, n < h.length → h'[n]? = h[n]? := fun n hn => hx.2 n hn (fun x => x)
  have lt : ∀ {n : Nat} {x : Option ABlk}, h[n]? = some x → n < h.length := fun hn => (List.getElem?_eq_some_iff.1 hn).1
  have k : Keeps G w (G'.trunc h.length) w' := by
    refine ⟨Nat.le_of_eq hN.symm, fun n b hn hb => s.keep.loc n b hn hb, fun n hn hb => s.keep.nil n hn hb, fun t b hp => ?_, s.keep.heap, s.keep.shape⟩
    exact prot_trunc (by rw [hN]; exact g.protN hp) (s.keep.prot t b hp)
  refine ⟨{ len := rfl, live := ?_, tag := ?_, inj := fun a b c h1 h2 => g'.inj a b c h1.1 h2.1, liveTag := fun a b c h1 hl h2 => g'.liveTag a b c h1.1 hl h2.1,
            liveS := fun a b h1 => g'.liveS a b h1.1, tagInj := fun a b c h1 h2 => g'.tagInj a b c h1.1 h2.1, tagS := fun a b h1 => g'.tagS a b h1.1, tagLt := fun a b h1 => g'.tagLt a b h1.1,
            sLt := g'.sLt, arr := ?_, nil := ?_, nilLoc := g'.nilLoc }, ?_⟩
  · intro n
    constructor
    · rintro ⟨hl, hn⟩
      obtain ⟨⟨a, b, c, hh⟩, hb⟩ := (g'.live n).1 hl
      exact ⟨⟨a, b, c, by rw [← same n hn]; exact hh⟩, hb⟩
    · rintro ⟨⟨a, b, c, hh⟩, hb⟩
      have hn := lt hh
      exact ⟨(g'.live n).2 ⟨⟨a, b, c, by rw [same n hn]; exact hh⟩, hb⟩, hn⟩
  · rintro n b ⟨ht, hn⟩
    rw [← same n hn]; exact g'.tag n b ht
  · intro n sz es gr b hh hb
    have hn := lt hh
    obtain ⟨⟨cells, ty, hc, h1, h2, h3⟩, hs⟩ := g'.arr n sz es gr b (by rw [same n hn]; exact hh) hb
    have hb0 : G.loc n = some b := by rw [← s.locEq n (by omega)]; exact hb
    obtain ⟨⟨cells0, ty0, hc0, _, _, h30⟩, _⟩ := g.arr n sz es gr b hh hb0
    refine ⟨⟨cells, ty, hc, h1, h2, fun i j c hj => ?_⟩, hs⟩
    obtain ⟨v, hv, hV⟩ := h3 i j c hj
    obtain ⟨v0, _, hV0⟩ := h30 i j c hj
    exact ⟨v, hv, hV.trunc (by rw [hN]; exact hV0.isUpto g)⟩
  · intro n sz es gr hh hb
    exact g'.nil n sz es gr (by rw [same n (lt hh)]; exact hh) hb
  · refine ⟨k, s.S, s.locEq, s.nilEq, s.size, s.frame, fun b hb => ?_, s.rest⟩
    refine s.own b ?_
    rcases hb with ⟨n, hn, hl⟩ | ⟨n, hn⟩
    · exact .inl ⟨n, hn.1, hl⟩
    · exact .inr ⟨n, hn.1⟩

/-- a call that changes nothing of what was there, and whose answer names nothing new -/
theorem ACalls.trunc {P : Program} {f : FuncId} {avs : List AV} {h : AHeap} {K : AV → AHeap → Prop} {K' : AV → Prop} (hc : ACalls P f avs h K)
    (hk : ∀ r h', K r h' → Ext nof h h' ∧ r.upto h.length = true ∧ K' r) : ACalls P f avs h fun r h' => h' = h ∧ K' r := by
  intro G w vs hg hv
  refine (hc G w vs hg hv).mono ?_
  rintro e w' ⟨v, r, h', G', rfl, hK, hg', hV, hs⟩
  obtain ⟨hx, hb, hK'⟩ := hk r h' hK
  obtain ⟨g2, s2⟩ := hg.trunc hg' hs hx
  exact ⟨v, r, h, _, rfl, ⟨rfl, hK'⟩, g2, hV.trunc hb, s2⟩

/-! changes, one behind the other -/

theorem Ext.refl (F : Nat → Prop) (h : AHeap) : Ext F h h := ⟨Nat.le_refl _, fun _ _ _ => rfl⟩
theorem Ext.app (F : Nat → Prop) (h x : AHeap) : Ext F h (h ++ x) := ⟨by simp, fun m hm _ => List.getElem?_append_left hm⟩
theorem Ext.trans {F F' F'' : Nat → Prop} {h h1 h2 : AHeap} (a : Ext F h h1) (b : Ext F' h1 h2) (hF : ∀ m, m < h.length → F m → F'' m) (hF' : ∀ m, m < h.length → F' m → F'' m) : Ext F'' h h2 :=
  ⟨Nat.le_trans a.1 b.1, fun m hm hn => by
    rw [b.2 m (Nat.lt_of_lt_of_le hm a.1) (fun x => hn (hF' m hm x)), a.2 m hm (fun x => hn (hF m hm x))]⟩
theorem Ext.tr {h h1 h2 : AHeap} (a : Ext nof h h1) (b : Ext nof h1 h2) : Ext nof h h2 := a.trans b (fun _ _ x => x) (fun _ _ x => x)
theorem Ext.set {F : Nat → Prop} {h : AHeap} {n : Nat} (x : Option ABlk) (hn : n < h.length → F n) : Ext F h (h.set n x) :=
  ⟨by simp, fun m hm hF => List.getElem?_set_ne (by rintro rfl; exact hF (hn hm))⟩
theorem Ext.weak {F F' : Nat → Prop} {h h' : AHeap} (a : Ext F h h') (hF : ∀ m, m < h.length → F m → F' m) : Ext F' h h' := ⟨a.1, fun m hm hn => a.2 m hm (fun x => hn (hF m hm x))⟩
theorem Ext.get {h h' : AHeap} (a : Ext nof h h') {n : Nat} {x : Option ABlk} (hn : h[n]? = some x) : h'[n]? = some x := by
  rw [a.2 n (List.getElem?_eq_some_iff.1 hn).1 (fun x => x)]; exact hn

end Glb
