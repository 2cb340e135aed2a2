/-
  A library of its own: its parts, one behind the other.
-/
import Derived.Test.YtdeiamnhnfmilaaGreatGlbLibD
set_option linter.unusedSimpArgs false
set_option linter.unusedVariables false
namespace Glb
open Go
def Gh.frozen (G : Gh) (k : Nat) : Gh :=
 { G with N := k, live := fun n => G.live n /\ n < k, tag := fun n b => G.tag n b /\ n < k, S := fun b => G.S b \/ ∃ n, k <= n /\ ((G.live n /\ G.loc n = some b) \/ G.tag n b) }
theorem Gh.trunc_frozen (G : Gh) (k : Nat) (w : World) : Keeps (G.trunc k) w (G.frozen k) w where
 N := Nat.le_refl _
 loc _ _ _ h := h
 nil _ _ h := h
 prot t b h := by
  cases t with
  | zero => exact .inl h
  | succ n => exact h
 heap _ _ _ := rfl
 shape _ _ := rfl
theorem V.frz {G w av v k} (h : V G w av v) (hb : av.upto k = true) : V (G.frozen k) w av v := (h.trunc hb).keep (G.trunc_frozen k w)
def Frz (k : Nat) (h : AHeap) (r r' : AV) : Prop := ∀ (G : Gh) (w : World) (v : Value), Gam G w h -> V G w r v -> V (G.frozen k) w r' v
theorem Frz.upto {k h r} (hb : r.upto k = true) : Frz k h r r := fun _ _ _ _ hv => hv.frz hb
theorem Frz.int {k h} (i : IntKind) (n : Int) : Frz k h (.int i n) (.int i n) := Frz.upto rfl
theorem Frz.bool {k h} (b : Bool) : Frz k h (.bool b) (.bool b) := Frz.upto rfl
def FrzRow (k : Nat) (h : AHeap) (es es' : List (List AV)) : Prop := es'.length = es.length /\ ∀ i j c', getc es' i j = some c' -> ∃ c, getc es i j = some c /\ Frz k h c c'
structure FrzH (h h' h'' : AHeap) : Prop where
 len' : h.length <= h'.length
 len : h''.length = h.length
 row : ∀ m, m < h.length -> (h'[m]? = h[m]? /\ h''[m]? = h[m]?) \/
  ∃ sz0 es0 g0 sz es es' g, h[m]? = some (some (.arr sz0 es0 g0)) /\ h'[m]? = some (some (.arr sz es g)) /\ h''[m]? = some (some (.arr sz es' g)) /\ okes sz es' /\ FrzRow h.length h' es es'
theorem FrzH.same {h h' : AHeap} (x : Ext nof h h') : FrzH h h' h := ⟨x.1, rfl, fun m hm => .inl ⟨x.2 m hm (fun y => y), rfl⟩⟩
theorem Gam.frozen {G w h G' w' h' h''} (g : Gam G w h) (g' : Gam G' w' h') (s : Stp G w G' w') (hx : FrzH h h' h'') :
    Gam (G'.frozen h.length) w' h'' /\ Stp G w (G'.frozen h.length) w' := by
  have hN : h.length = G.N := g.len
  have k : Keeps G w (G'.frozen h.length) w' := by
    refine ⟨Nat.le_of_eq hN.symm, fun n b hn hb => s.keep.loc n b hn hb, fun n hn hb => s.keep.nil n hn hb, fun t b hp => ?_, s.keep.heap, s.keep.shape⟩
    have h1 := s.keep.prot t b hp
    cases t with
    | zero => exact .inl h1
    | succ n => exact ⟨h1, by have := g.protN hp; omega⟩
  have arr' : ∀ n, n < h.length -> ((∃ B, h'[n]? = some (some B) /\ B.real = true) ↔ ∃ B, h''[n]? = some (some B) /\ B.real = true) := by
    intro n hn
    rcases hx.row n hn with ⟨h1, h2⟩ | ⟨_, _, _, sz, es, es', gr, h0, h1, h2, _⟩
    · rw [h1, h2]
    · exact ⟨fun _ => ⟨_, h2, rfl⟩, fun _ => ⟨_, h1, rfl⟩⟩
  have lt : ∀ {n : Nat} {x : Option ABlk}, h''[n]? = some x -> n < h.length := fun hn => by rw [<- hx.len]; exact (List.getElem?_eq_some_iff.1 hn).1
  have newS : ∀ {n b m : Nat}, n < h.length -> h.length <= m -> ((G'.live m /\ G'.loc m = some b) \/ G'.tag m b) -> (G'.live n /\ G'.loc n = some b) \/ G'.tag n b -> False := by
    intro n b m hn hm h1 h2
    rcases h1 with ⟨a1, a2⟩ | a1 <;> rcases h2 with ⟨b1, b2⟩ | b1
    · have := g'.inj n m b b1 a1 b2 a2; omega
    · exact g'.liveTag m n b a1 a2 b1
    · exact g'.liveTag n m b b1 b2 a1
    · have := g'.tagInj n m b b1 a1; omega
  refine ⟨{ len := hx.len, live := ?_, tag := ?_, inj := fun a b c h1 h2 => g'.inj a b c h1.1 h2.1, liveTag := fun a b c h1 hl h2 => g'.liveTag a b c h1.1 hl h2.1,
            liveS := ?_, tagInj := fun a b c h1 h2 => g'.tagInj a b c h1.1 h2.1, tagS := ?_, tagLt := fun a b h1 => g'.tagLt a b h1.1,
            sLt := ?_, arr := ?_, nil := ?_, nilLoc := g'.nilLoc, map := ?_ }, ?_⟩
  · intro n
    constructor
    · rintro ⟨hl, hn⟩
      obtain ⟨hh, hb⟩ := (g'.live n).1 hl
      exact ⟨(arr' n hn).1 hh, hb⟩
    · rintro ⟨⟨B, hh, hr⟩, hb⟩
      have hn := lt hh
      exact ⟨(g'.live n).2 ⟨(arr' n hn).2 ⟨B, hh, hr⟩, hb⟩, hn⟩
  · rintro n b ⟨ht, hn⟩
    have h1 := g'.tag n b ht
    rcases hx.row n hn with ⟨h2, h3⟩ | ⟨_, _, _, sz, es, es', gr, h0, h2, h3, _⟩
    · rw [h3, <- h2]; exact h1
    · rw [h2] at h1; cases h1
  · rintro n b ⟨hl, hn⟩ hb (hs | ⟨m, hm, h1⟩)
    · exact g'.liveS n b hl hb hs
    · exact newS hn hm h1 (.inl ⟨hl, hb⟩)
  · rintro n b ⟨ht, hn⟩ (hs | ⟨m, hm, h1⟩)
    · exact g'.tagS n b ht hs
    · exact newS hn hm h1 (.inr ht)
  · rintro b (hs | ⟨m, hm, h1⟩)
    · exact g'.sLt b hs
    · rcases h1 with ⟨a1, a2⟩ | a1
      · exact g'.locLt a1 a2
      · exact g'.tagLt m b a1
  · intro n sz es gr b hh hb
    have hn := lt hh
    rcases hx.row n hn with ⟨h2, h3⟩ | ⟨_, _, _, sz1, es1, es1', gr1, h0, h2, h3, hok, hl1, hf⟩
    · rw [h3] at hh
      obtain ⟨⟨cells, ty, hc, h1, h2', h3'⟩, hs⟩ := g'.arr n sz es gr b (by rw [h2]; exact hh) hb
      have hb0 : G.loc n = some b := by rw [<- s.locEq n (by omega)]; exact hb
      obtain ⟨⟨cells0, ty0, hc0, _, _, h30⟩, _⟩ := g.arr n sz es gr b hh hb0
      refine ⟨⟨cells, ty, hc, h1, h2', fun i j c hj => ?_⟩, hs⟩
      obtain ⟨v, hv, hV⟩ := h3' i j c hj
      obtain ⟨v0, _, hV0⟩ := h30 i j c hj
      exact ⟨v, hv, hV.frz (by rw [hN]; exact hV0.isUpto g)⟩
    · rw [h3] at hh
      cases hh
      obtain ⟨⟨cells, ty, hc, h1, h2', h3'⟩, hs⟩ := g'.arr n _ _ _ b h2 hb
      refine ⟨⟨cells, ty, hc, by rw [hl1]; exact h1, fun e => by rw [hl1]; exact h2' e, fun i j c hj => ?_⟩, hok⟩
      obtain ⟨c0, e0, f0⟩ := hf i j c hj
      obtain ⟨v, hv, hV⟩ := h3' i j c0 e0
      exact ⟨v, hv, f0 G' w' v g' hV⟩
  · intro n sz es gr hh hb
    have hn := lt hh
    rcases hx.row n hn with ⟨h2, h3⟩ | ⟨_, _, _, sz1, es1, es1', gr1, h0, h2, h3, hok, hl1, hf⟩
    · exact g'.nil n sz es gr (by rw [h2, <- h3]; exact hh) hb
    · rw [h3] at hh
      cases hh
      have := g'.nil n _ _ _ h2 hb
      subst this
      exact List.eq_nil_of_length_eq_zero (by simpa using hl1)
  · intro n es b hh hb
    have hn := lt hh
    rcases hx.row n hn with ⟨h2, h3⟩ | ⟨_, _, _, sz1, es1, es1', gr1, h0, h2, h3, hok, hl1, hf⟩
    · rw [h3] at hh
      obtain ⟨⟨entries, clock, hc, h1, h2', h3'⟩, hs⟩ := g'.map n es b (by rw [h2]; exact hh) hb
      have hb0 : G.loc n = some b := by rw [<- s.locEq n (by omega)]; exact hb
      obtain ⟨⟨entries0, clock0, hc0, _, _, h30⟩, _⟩ := g.map n es b hh hb0
      refine ⟨⟨entries, clock, hc, h1, h2', fun i key c hj => ?_⟩, hs⟩
      obtain ⟨e, he, hk, hV⟩ := h3' i key c hj
      obtain ⟨e0, _, _, hV0⟩ := h30 i key c hj
      exact ⟨e, he, hk, hV.frz (by rw [hN]; exact hV0.isUpto g)⟩
    · rw [h3] at hh; cases hh
  · refine ⟨k, ⟨fun b hb => .inl (s.S.1 b hb), ?_⟩, s.locEq, s.nilEq, s.size, s.frame, fun b hb => ?_, s.rest⟩
    · rintro b (hb | ⟨n, hn, h1⟩)
      · exact s.S.2 b hb
      · right
        apply Classical.byContradiction
        intro hlt
        have ho : G'.owned b := h1.elim (fun h => .inl ⟨n, h⟩) (fun h => .inr ⟨n, h⟩)
        rcases (s.own b ho).resolve_right hlt with ⟨m, a1, a2⟩ | ⟨m, a1⟩
        · obtain ⟨⟨B, hh, hr⟩, _⟩ := (g.live m).1 a1
          have hm := (List.getElem?_eq_some_iff.1 hh).1
          have hl : G'.loc m = some b := by rw [s.locEq m (by omega)]; exact a2
          have hh' : ∃ B, h'[m]? = some (some B) /\ B.real = true := by
            rcases hx.row m hm with ⟨h2, h3⟩ | ⟨_, _, _, sz, es, es', gr, h0, h2, h3, _⟩
            · exact ⟨_, h2.trans hh, hr⟩
            · exact ⟨_, h2, rfl⟩
          exact newS hm hn h1 (.inl ⟨(g'.live m).2 ⟨hh', b, hl⟩, hl⟩)
        · have hm := g.ltN (g.tag m b a1)
          exact newS (by omega) hn h1 (.inr (s.keep.prot (m + 1) b a1))
    · refine s.own b ?_
      rcases hb with ⟨n, hn, hl⟩ | ⟨n, hn⟩
      · exact .inl ⟨n, hn.1, hl⟩
      · exact .inr ⟨n, hn.1⟩
theorem ACalls.freezeH {P : Program} {f : FuncId} {avs : List AV} {h : AHeap} {K K' : AV -> AHeap -> Prop} (hc : ACalls P f avs h K)
  (hk : ∀ r h', K r h' -> ∃ r' h'', FrzH h h' h'' /\ Frz h.length h' r r' /\ K' r' h'') : ACalls P f avs h K' := by
 intro G w vs hg hv
 refine (hc G w vs hg hv).mono ?_
 rintro e w' ⟨v, r, h', G', rfl, hK, hg', hV, hs⟩
 obtain ⟨r', h'', hx, hr, hK'⟩ := hk r h' hK
 obtain ⟨g2, s2⟩ := hg.frozen hg' hs hx
 exact ⟨v, r', h'', _, rfl, hK', g2, hr _ _ _ hg' hV, s2⟩
theorem ACalls.freeze {P : Program} {f : FuncId} {avs : List AV} {h : AHeap} {K : AV -> AHeap -> Prop} {K' : AV -> Prop} (hc : ACalls P f avs h K)
  (hk : ∀ r h', K r h' -> Ext nof h h' /\ ∃ r', Frz h.length h' r r' /\ K' r') : ACalls P f avs h fun r h' => K' r /\ h' = h :=
 hc.freezeH fun r h' hK => let ⟨hx, r', hr, hK'⟩ := hk r h' hK; ⟨r', h, FrzH.same hx, hr, hK', rfl⟩
mutual
def Fz (k : Nat) (h : AHeap) : D -> AV -> Prop
 | .int i n, av => av = .int i n
 | .bool b, av => av = .bool b
 | .str s, av => av = .str s
 | .sl sz ds, av => (av = .nils /\ ds = []) \/ (∃ t c es, av = .vals t c sz es /\ (t = 0 \/ k < t \/ es = []) /\ FzLL k h ds es) \/
   ∃ n off cap row g, av = .ref n sz off ds.length cap /\ k <= n /\ h[n]? = some (some (.arr sz row g)) /\ off + ds.length <= row.length /\ FzLL k h ds ((row.drop off).take ds.length)
def FzL (k : Nat) (h : AHeap) : List D -> List AV -> Prop
 | [], l => l = []
 | d :: ds, l => ∃ a r, l = a :: r /\ Fz k h d a /\ FzL k h ds r
def FzLL (k : Nat) (h : AHeap) : List (List D) -> List (List AV) -> Prop
 | [], l => l = []
 | e :: ds, l => ∃ a r, l = a :: r /\ FzL k h e a /\ FzLL k h ds r
end
mutual
theorem fz_self (k : Nat) (h : AHeap) : ∀ d : D, Fz k h d d.av
 | .int i n => by simp only [Fz, D.av]
 | .bool b => by simp only [Fz, D.av]
 | .str s => by simp only [Fz, D.av]
 | .sl sz es => by
  simp only [Fz, D.av]
  exact .inr (.inl ⟨0, false, _, rfl, .inl rfl, fzLL_self k h es⟩)
theorem fzL_self (k : Nat) (h : AHeap) : ∀ l : List D, FzL k h l (D.avL l)
 | [] => by simp only [FzL, D.avL]
 | d :: r => by simp only [FzL, D.avL]; exact ⟨_, _, rfl, fz_self k h d, fzL_self k h r⟩
theorem fzLL_self (k : Nat) (h : AHeap) : ∀ l : List (List D), FzLL k h l (D.avLL l)
 | [] => by simp only [FzLL, D.avLL]
 | d :: r => by simp only [FzLL, D.avLL]; exact ⟨_, _, rfl, fzL_self k h d, fzLL_self k h r⟩
end
mutual
theorem Own.fz : ∀ (d : D) {F : Nat -> Prop} {k : Nat} {h : AHeap} (_ : ∀ m, F m -> k <= m) (av : AV), Own d F h av -> Fz k h d av
 | .int i n, F, k, h, hF, av, ho => by simp only [Own] at ho; simp only [Fz]; exact ho
 | .bool b, F, k, h, hF, av, ho => by simp only [Own] at ho; simp only [Fz]; exact ho
 | .str s, F, k, h, hF, av, ho => by simp only [Own] at ho; simp only [Fz]; exact ho
 | .sl sz ds, F, k, h, hF, av, ho => by
  simp only [Own] at ho
  simp only [Fz]
  rcases ho with ⟨rfl, rfl⟩ | ⟨t, c, rfl, rfl⟩ | ⟨n, off, cap, row, g, rfl, h1, h2, h3, _, h5⟩
  ·exact .inl ⟨rfl, rfl⟩
  ·exact .inr (.inl ⟨t, c, [], rfl, .inr (.inr rfl), by simp only [FzLL]⟩)
  ·exact .inr (.inr ⟨n, off, cap, row, g, rfl, hF n h1, h2, h3, OwnLL.fz ds (fun m hm => hF m hm.1) _ h5⟩)
theorem OwnL.fz : ∀ (ds : List D) {F : Nat -> Prop} {k : Nat} {h : AHeap} (_ : ∀ m, F m -> k <= m) (l : List AV), OwnL ds F h l -> FzL k h ds l
 | [], F, k, h, hF, l, ho => by simp only [OwnL] at ho; simp only [FzL]; exact ho
 | d :: ds, F, k, h, hF, l, ho => by
  simp only [OwnL] at ho
  simp only [FzL]
  obtain ⟨a, r, rfl, h1, h2⟩ := ho
  exact ⟨a, r, rfl, Own.fz d hF a h1, OwnL.fz ds hF r h2⟩
theorem OwnLL.fz : ∀ (ds : List (List D)) {F : Nat -> Prop} {k : Nat} {h : AHeap} (_ : ∀ m, F m -> k <= m) (l : List (List AV)), OwnLL ds F h l -> FzLL k h ds l
 | [], F, k, h, hF, l, ho => by simp only [OwnLL] at ho; simp only [FzLL]; exact ho
 | d :: ds, F, k, h, hF, l, ho => by
  simp only [OwnLL] at ho
  simp only [FzLL]
  obtain ⟨a, r, rfl, h1, h2⟩ := ho
  exact ⟨a, r, rfl, OwnL.fz d hF a h1, OwnLL.fz ds hF r h2⟩
end
theorem FzL_length {k h} : ∀ {ds : List D} {l : List AV}, FzL k h ds l -> l.length = ds.length := by
 intro ds
 induction ds with
 | nil => intro l hh; simp only [FzL] at hh; subst hh; rfl
 | cons e ds ih => intro l hh; simp only [FzL] at hh; obtain ⟨a, r, rfl, _, hh⟩ := hh; simp [ih hh]
theorem FzLL_length {k h} : ∀ {ds : List (List D)} {l : List (List AV)}, FzLL k h ds l -> l.length = ds.length := by
 intro ds
 induction ds with
 | nil => intro l hh; simp only [FzLL] at hh; subst hh; rfl
 | cons e ds ih => intro l hh; simp only [FzLL] at hh; obtain ⟨a, r, rfl, _, hh⟩ := hh; simp [ih hh]
theorem FzLL_get {k h} : ∀ {ds : List (List D)} {es : List (List AV)}, FzLL k h ds es -> ∀ (i : Nat) (e : List AV), es[i]? = some e -> ∃ d, ds[i]? = some d /\ FzL k h d e := by
 intro ds
 induction ds with
 | nil => intro es hh i e he; simp only [FzLL] at hh; subst hh; simp at he
 | cons d ds ih =>
  intro es hh i e he
  simp only [FzLL] at hh
  obtain ⟨a, r, rfl, h1, h2⟩ := hh
  cases i with
  | zero => simp at he; subst he; exact ⟨d, rfl, h1⟩
  | succ i => exact ih h2 i e (by simpa using he)
theorem avL_length (l : List D) : (D.avL l).length = l.length := by rw [avL_map]; simp
theorem avLL_length (l : List (List D)) : (D.avLL l).length = l.length := by rw [avLL_map]; simp
theorem avL_scalars (l : List D) : (D.avL l).all AV.scalar = true := by rw [avL_map]; simp [av_scalar]
theorem okes_avLL {sz k h} {ds : List (List D)} {es : List (List AV)} (hh : FzLL k h ds es) (ho : okes sz es) : okes sz (D.avLL ds) := by
 intro e he
 rw [avLL_map, List.mem_map] at he
 obtain ⟨d, hd, rfl⟩ := he
 refine ⟨?_, avL_scalars d⟩
 obtain ⟨i, hi, rfl⟩ := List.getElem_of_mem hd
 have hl := FzLL_length hh
 have hi' : i < es.length := by omega
 obtain ⟨d', hd', hf⟩ := FzLL_get hh i es[i] (by simp)
 have : d' = ds[i] := by simpa [hi] using hd'.symm
 subst this
 rw [avL_length, <- FzL_length hf]
 exact (ho _ (List.getElem_mem hi')).1
section
variable {k : Nat} {h : AHeap} {G : Gh} {w : World}
mutual
theorem fz_av (g : Gam G w h) : ∀ (d : D) (av : AV) (v : Value), Fz k h d av -> V G w av v -> V (G.frozen k) w d.av v
 | .int i n, av, v, hh, hv => by simp only [Fz] at hh; subst hh; simp only [D.av]; cases hv; exact .int _ _
 | .bool b, av, v, hh, hv => by simp only [Fz] at hh; subst hh; simp only [D.av]; cases hv; exact .bool _
 | .str s, av, v, hh, hv => by simp only [Fz] at hh; subst hh; simp only [D.av]; cases hv; exact .str _
 | .sl sz ds, av, v, hh, hv => by
  simp only [Fz] at hh
  simp only [D.av]
  rcases hh with ⟨rfl, rfl⟩ | ⟨t, c, es, rfl, ht, hf⟩ | ⟨n, off, cap, row, gr, rfl, hkn, hrow, hle, hf⟩
  ·cases hv; exact .valsNil _ _ _
  ·have hl := FzLL_length hf
   cases hv with
   | valsNil =>
    have : ds = [] := List.eq_nil_of_length_eq_zero (by simpa using hl.symm)
    subst this
    exact .valsNil _ _ _
   | vals _ _ _ _ a cap f hle hcl hsp hp hes hc hV =>
    have := V.vals (G := G.frozen k) (w := w) 0 false sz (D.avLL ds) a cap f (by rw [avLL_length]; omega) (fun e => by cases e) hsp (fun hne => ?_) (okes_avLL hf hes)
     (fun i j c hj => ?_) (fun i j c hj => ?_)
    ·rw [avLL_length, <- hl] at this; exact this
    ·have hne' : es ≠ [] := by
      rintro rfl
      have : ds = [] := List.eq_nil_of_length_eq_zero (by simpa using hl.symm)
      subst this; exact hne rfl
     have hp' := hp hne'
     rcases ht with rfl | ht | he
     ·exact .inl hp'
     ·cases t with
      | zero => omega
      | succ t => exact .inr ⟨t, by omega, .inr hp'⟩
     ·exact absurd he hne'
    ·obtain ⟨c0, h0, _⟩ := fzLL_av g ds es hf i j c hj
     exact hc i j c0 h0
    ·obtain ⟨c0, h0, h1⟩ := fzLL_av g ds es hf i j c hj
     exact h1 _ (hV i j c0 h0)
  ·generalize hlen : ds.length = len at hv
   cases hv with
   | refNil =>
    have : ds = [] := List.eq_nil_of_length_eq_zero hlen
    subst this
    exact .valsNil _ _ _
   | ref _ _ _ _ _ c ty m b hn hb hl hcap hs hm =>
    subst hlen
    obtain ⟨⟨cells, ty', hcs, h1, h2, h3⟩, hok⟩ := g.arr n sz row gr b hrow hb
    have hok' : okes sz ((row.drop off).take ds.length) := fun e he => hok e (List.mem_of_mem_drop (List.mem_of_mem_take he))
    have key : ∀ (i j : Nat) (c0 : AV), getc ((row.drop off).take ds.length) i j = some c0 -> getc row (off + i) j = some c0 := by
     intro i j c0 hj
     simp only [getc] at hj ⊢
     rw [List.getElem?_take] at hj
     split at hj
     ·rwa [List.getElem?_drop] at hj
     ·simp at hj
    have := V.vals (G := G.frozen k) (w := w) 0 false sz (D.avLL ds) ⟨b, off * sz, none⟩ c (fun i j => cells.getD ((off + i) * sz + j) undef) (by rw [avLL_length]; exact hl) (fun e => by cases e) (fun _ => rfl)
     (fun _ => .inr ⟨n, hkn, .inl ⟨g.mkLive hrow hb, hb⟩⟩) (okes_avLL hf hok') (fun i j c hj => ?_) (fun i j c hj => ?_)
    ·rw [avLL_length] at this; exact this
    ·obtain ⟨c0, h0, _⟩ := fzLL_av g ds _ hf i j c hj
     obtain ⟨v0, hv0, _⟩ := h3 _ j c0 (key i j c0 h0)
     simp only [World.cell?, hcs, Option.isSome_none, Bool.false_eq_true, if_false]
     rw [show off * sz + (i * sz + j) = (off + i) * sz + j by rw [Nat.add_mul]; omega, hv0]
     simp [hv0]
    ·obtain ⟨c0, h0, h1'⟩ := fzLL_av g ds _ hf i j c hj
     obtain ⟨v0, hv0, hV0⟩ := h3 _ j c0 (key i j c0 h0)
     have : cells.getD ((off + i) * sz + j) undef = v0 := by simp [hv0]
     rw [this]
     exact h1' _ hV0
theorem fzL_av (g : Gam G w h) : ∀ (ds : List D) (l : List AV), FzL k h ds l -> ∀ (j : Nat) (c : AV), (D.avL ds)[j]? = some c -> ∃ c0, l[j]? = some c0 /\ ∀ v, V G w c0 v -> V (G.frozen k) w c v
 | [], l, hh, j, c, hj => by simp [D.avL] at hj
 | d :: ds, l, hh, j, c, hj => by
  simp only [FzL] at hh
  obtain ⟨a, r, rfl, h1, h2⟩ := hh
  simp only [D.avL] at hj
  cases j with
  | zero => simp at hj; subst hj; exact ⟨a, rfl, fun v hv => fz_av g d a v h1 hv⟩
  | succ j => exact fzL_av g ds r h2 j c (by simpa using hj)
theorem fzLL_av (g : Gam G w h) : ∀ (ds : List (List D)) (es : List (List AV)), FzLL k h ds es -> ∀ (i j : Nat) (c : AV), getc (D.avLL ds) i j = some c -> ∃ c0, getc es i j = some c0 /\ ∀ v, V G w c0 v -> V (G.frozen k) w c v
 | [], es, hh, i, j, c, hj => by simp [D.avLL, getc] at hj
 | d :: ds, es, hh, i, j, c, hj => by
  simp only [FzLL] at hh
  obtain ⟨a, r, rfl, h1, h2⟩ := hh
  simp only [D.avLL] at hj
  cases i with
  | zero => exact fzL_av g d a h1 j c (by simpa [getc] using hj)
  | succ i => exact fzLL_av g ds r h2 i j c (by simpa [getc] using hj)
end
end
theorem Frz.d {k h r} {d : D} (hh : Fz k h d r) : Frz k h r d.av := fun _ _ v g hv => fz_av g d r v hh hv
theorem Frz.agg {k h} {l l' : List AV} (hl : l'.length = l.length) (hh : ∀ (j : Nat) (c' : AV), l'[j]? = some c' -> ∃ c, l[j]? = some c /\ Frz k h c c') : Frz k h (.agg l) (.agg l') := by
 intro G w v g hv
 cases hv with
 | agg _ vs hl' hV =>
  refine .agg _ _ (hl.trans hl') fun j c v hc hv => ?_
  obtain ⟨c0, h0, h1⟩ := hh j c hc
  exact h1 G w v g (hV j c0 v h0 hv)
theorem Frz.tup {k h} {l l' : List AV} (hl : l'.length = l.length) (hh : ∀ (j : Nat) (c' : AV), l'[j]? = some c' -> ∃ c, l[j]? = some c /\ Frz k h c c') : Frz k h (.tup l) (.tup l') := by
 intro G w v g hv
 cases hv with
 | tup _ vs hl' hV =>
  refine .tup _ _ (hl.trans hl') fun j c v hc hv => ?_
  obtain ⟨c0, h0, h1⟩ := hh j c hc
  exact h1 G w v g (hV j c0 v h0 hv)
theorem Frz.tup2 {k h a a' b b'} (h1 : Frz k h a a') (h2 : Frz k h b b') : Frz k h (.tup [a, b]) (.tup [a', b']) := by
 refine .tup rfl fun j c hj => ?_
 match j with
 | 0 => simp at hj; subst hj; exact ⟨a, rfl, h1⟩
 | 1 => simp at hj; subst hj; exact ⟨b, rfl, h2⟩
 | j + 2 => simp at hj
theorem Frz.aggD {k h l} {ds : List D} (hh : FzL k h ds l) : Frz k h (.agg l) (.agg (D.avL ds)) := by
 refine .agg (by rw [avL_length, FzL_length hh]) fun j c hj => ?_
 have : ∃ c0, l[j]? = some c0 /\ ∃ d, ds[j]? = some d /\ c = d.av /\ Fz k h d c0 := by
  induction ds generalizing l j with
  | nil => simp [D.avL] at hj
  | cons d ds ih =>
   simp only [FzL] at hh
   obtain ⟨a, r, rfl, h1, h2⟩ := hh
   simp only [D.avL] at hj
   cases j with
   | zero => simp at hj; subst hj; exact ⟨a, rfl, d, rfl, rfl, h1⟩
   | succ j => simpa using ih h2 j (by simpa using hj)
 obtain ⟨c0, h0, d, _, rfl, hf⟩ := this
 exact ⟨c0, h0, Frz.d hf⟩
theorem post_same {H : Type} {enc : TypeId × Value -> H} {P : Program} {f : Func} {s : ChangeSpec} {apart fresh handsOn again : Bool} {W W' : World} {args : Array Value} {v : Value} {ds gs : List (DataW H)} {before pa pv : List MemPlace}
  (hW : DataW.Whole enc P f.params.toList s.vars apart W args.toList ds gs before)
  (hres : ∀ (b : Nat) (sp : Nat -> Bool) (hd : Bool), DataW.TrodAll enc P W' b sp hd f.resultTypes.toList (v.resultList f.resultTypes.size) (s.fn H (ds ++ gs)).results [])
  (hargs : ∀ sp : Nat -> Bool, (∀ p ∈ before, sp p.block = true) -> DataW.TrodAll enc P W' 0 sp true f.params.toList args.toList (s.fn H (ds ++ gs)).args pa)
  (hvars : ∀ sp : Nat -> Bool, (∀ p ∈ before, sp p.block = true) -> DataW.TrodVars enc P W' sp s.vars (s.fn H (ds ++ gs)).vars pv)
  (hps : before = pa ++ pv) (hk : W.keptBut W' (· ∈ before)) (hfz : ∀ a, a.block < W.heap.size -> W'.frozen? a = W.frozen? a)
  (hok : ∀ (j : Nat) (t : TypeId) (r : Value), f.resultTypes[j]? = some t -> (v.resultList f.resultTypes.size)[j]? = some r -> Value.okWide P W' .any 0 t r) :
  s.post enc P f apart fresh handsOn again W args v W' := by
 have hlt := fun p hp => hW.lt p hp
 have hold : ∀ p ∈ before, (fun b => decide (b < W.heap.size)) p.block = true := fun p hp => by simpa using hlt p hp
 refine ⟨ds, gs, before, [], pa, pv, hW, hres _ _ _, hargs _ hold, hvars _ hold, World.keptBut_mono (fun p hp => ⟨hp, ?_⟩) hk, fun _ => ?_⟩
 ·rw [hps, List.mem_append] at hp
  exact Or.inr hp
 ·obtain ⟨_, _, _, _, _, hz, hn⟩ := hW
  refine ⟨hok, _, _, ([] ++ pa) ++ pv, ⟨[] ++ pa, pv, Go.ChangeShapes.trodAll_append (hargs _ (fun _ _ => rfl)) (hres _ _ _), hvars _ (fun _ _ => rfl), rfl, ?_, ?_⟩, ?_⟩
  ·intro b off hp
   have hm : MemPlace.cell b off ∈ before := by rw [hps]; simpa using hp
   rw [hfz _ (hlt _ hm)]
   exact hz b off hm
  ·intro ha
   have := hn ha
   rw [hps] at this
   simpa using this
  ·intro p hp _
   rw [hps]
   simpa using hp
theorem Ext.junk {h h' : AHeap} (x : Ext nof h h') : ∃ j, h' = h ++ j := by
 refine ⟨h'.drop h.length, ?_⟩
 apply List.ext_getElem?
 intro m
 rcases Nat.lt_or_ge m h.length with hm | hm
 ·rw [List.getElem?_append_left hm]; exact x.2 m hm (fun y => y)
 ·rw [List.getElem?_append_right hm, List.getElem?_drop]; congr 1; omega
end Glb
namespace Glb
open Go
theorem bj10 (h j : AHeap) (x0 : Option ABlk) : (h ++ [x0] ++ j)[h.length]? = some x0 :=
 (List.getElem?_append_left (by simp)).trans (bx10 h x0)
theorem sj10 (h j : AHeap) (x0 y : Option ABlk) : (h ++ [x0] ++ j).set (h.length) y = h ++ [y] ++ j :=
 (List.set_append_left _ _ (by simp)).trans (congrArg (· ++ j) (sx10 h x0 y))
theorem bj20 (h j : AHeap) (x0 x1 : Option ABlk) : (h ++ [x0] ++ [x1] ++ j)[h.length]? = some x0 :=
 (List.getElem?_append_left (by simp)).trans (bx20 h x0 x1)
theorem sj20 (h j : AHeap) (x0 x1 y : Option ABlk) : (h ++ [x0] ++ [x1] ++ j).set (h.length) y = h ++ [y] ++ [x1] ++ j :=
 (List.set_append_left _ _ (by simp)).trans (congrArg (· ++ j) (sx20 h x0 x1 y))
theorem bj21 (h j : AHeap) (x0 x1 : Option ABlk) : (h ++ [x0] ++ [x1] ++ j)[h.length + 1]? = some x1 :=
 (List.getElem?_append_left (by simp)).trans (bx21 h x0 x1)
theorem sj21 (h j : AHeap) (x0 x1 y : Option ABlk) : (h ++ [x0] ++ [x1] ++ j).set (h.length + 1) y = h ++ [x0] ++ [y] ++ j :=
 (List.set_append_left _ _ (by simp)).trans (congrArg (· ++ j) (sx21 h x0 x1 y))
theorem bj30 (h j : AHeap) (x0 x1 x2 : Option ABlk) : (h ++ [x0] ++ [x1] ++ [x2] ++ j)[h.length]? = some x0 :=
 (List.getElem?_append_left (by simp)).trans (bx30 h x0 x1 x2)
theorem sj30 (h j : AHeap) (x0 x1 x2 y : Option ABlk) : (h ++ [x0] ++ [x1] ++ [x2] ++ j).set (h.length) y = h ++ [y] ++ [x1] ++ [x2] ++ j :=
 (List.set_append_left _ _ (by simp)).trans (congrArg (· ++ j) (sx30 h x0 x1 x2 y))
theorem bj31 (h j : AHeap) (x0 x1 x2 : Option ABlk) : (h ++ [x0] ++ [x1] ++ [x2] ++ j)[h.length + 1]? = some x1 :=
 (List.getElem?_append_left (by simp)).trans (bx31 h x0 x1 x2)
theorem sj31 (h j : AHeap) (x0 x1 x2 y : Option ABlk) : (h ++ [x0] ++ [x1] ++ [x2] ++ j).set (h.length + 1) y = h ++ [x0] ++ [y] ++ [x2] ++ j :=
 (List.set_append_left _ _ (by simp)).trans (congrArg (· ++ j) (sx31 h x0 x1 x2 y))
theorem bj32 (h j : AHeap) (x0 x1 x2 : Option ABlk) : (h ++ [x0] ++ [x1] ++ [x2] ++ j)[h.length + 1 + 1]? = some x2 :=
 (List.getElem?_append_left (by simp)).trans (bx32 h x0 x1 x2)
theorem sj32 (h j : AHeap) (x0 x1 x2 y : Option ABlk) : (h ++ [x0] ++ [x1] ++ [x2] ++ j).set (h.length + 1 + 1) y = h ++ [x0] ++ [x1] ++ [y] ++ j :=
 (List.set_append_left _ _ (by simp)).trans (congrArg (· ++ j) (sx32 h x0 x1 x2 y))
theorem bj40 (h j : AHeap) (x0 x1 x2 x3 : Option ABlk) : (h ++ [x0] ++ [x1] ++ [x2] ++ [x3] ++ j)[h.length]? = some x0 :=
 (List.getElem?_append_left (by simp)).trans (bx40 h x0 x1 x2 x3)
theorem sj40 (h j : AHeap) (x0 x1 x2 x3 y : Option ABlk) : (h ++ [x0] ++ [x1] ++ [x2] ++ [x3] ++ j).set (h.length) y = h ++ [y] ++ [x1] ++ [x2] ++ [x3] ++ j :=
 (List.set_append_left _ _ (by simp)).trans (congrArg (· ++ j) (sx40 h x0 x1 x2 x3 y))
theorem bj41 (h j : AHeap) (x0 x1 x2 x3 : Option ABlk) : (h ++ [x0] ++ [x1] ++ [x2] ++ [x3] ++ j)[h.length + 1]? = some x1 :=
 (List.getElem?_append_left (by simp)).trans (bx41 h x0 x1 x2 x3)
theorem sj41 (h j : AHeap) (x0 x1 x2 x3 y : Option ABlk) : (h ++ [x0] ++ [x1] ++ [x2] ++ [x3] ++ j).set (h.length + 1) y = h ++ [x0] ++ [y] ++ [x2] ++ [x3] ++ j :=
 (List.set_append_left _ _ (by simp)).trans (congrArg (· ++ j) (sx41 h x0 x1 x2 x3 y))
theorem bj42 (h j : AHeap) (x0 x1 x2 x3 : Option ABlk) : (h ++ [x0] ++ [x1] ++ [x2] ++ [x3] ++ j)[h.length + 1 + 1]? = some x2 :=
 (List.getElem?_append_left (by simp)).trans (bx42 h x0 x1 x2 x3)
theorem sj42 (h j : AHeap) (x0 x1 x2 x3 y : Option ABlk) : (h ++ [x0] ++ [x1] ++ [x2] ++ [x3] ++ j).set (h.length + 1 + 1) y = h ++ [x0] ++ [x1] ++ [y] ++ [x3] ++ j :=
 (List.set_append_left _ _ (by simp)).trans (congrArg (· ++ j) (sx42 h x0 x1 x2 x3 y))
theorem bj43 (h j : AHeap) (x0 x1 x2 x3 : Option ABlk) : (h ++ [x0] ++ [x1] ++ [x2] ++ [x3] ++ j)[h.length + 1 + 1 + 1]? = some x3 :=
 (List.getElem?_append_left (by simp)).trans (bx43 h x0 x1 x2 x3)
theorem sj43 (h j : AHeap) (x0 x1 x2 x3 y : Option ABlk) : (h ++ [x0] ++ [x1] ++ [x2] ++ [x3] ++ j).set (h.length + 1 + 1 + 1) y = h ++ [x0] ++ [x1] ++ [x2] ++ [y] ++ j :=
 (List.set_append_left _ _ (by simp)).trans (congrArg (· ++ j) (sx43 h x0 x1 x2 x3 y))
theorem bj50 (h j : AHeap) (x0 x1 x2 x3 x4 : Option ABlk) : (h ++ [x0] ++ [x1] ++ [x2] ++ [x3] ++ [x4] ++ j)[h.length]? = some x0 :=
 (List.getElem?_append_left (by simp)).trans (bx50 h x0 x1 x2 x3 x4)
theorem sj50 (h j : AHeap) (x0 x1 x2 x3 x4 y : Option ABlk) : (h ++ [x0] ++ [x1] ++ [x2] ++ [x3] ++ [x4] ++ j).set (h.length) y = h ++ [y] ++ [x1] ++ [x2] ++ [x3] ++ [x4] ++ j :=
 (List.set_append_left _ _ (by simp)).trans (congrArg (· ++ j) (sx50 h x0 x1 x2 x3 x4 y))
theorem bj51 (h j : AHeap) (x0 x1 x2 x3 x4 : Option ABlk) : (h ++ [x0] ++ [x1] ++ [x2] ++ [x3] ++ [x4] ++ j)[h.length + 1]? = some x1 :=
 (List.getElem?_append_left (by simp)).trans (bx51 h x0 x1 x2 x3 x4)
theorem sj51 (h j : AHeap) (x0 x1 x2 x3 x4 y : Option ABlk) : (h ++ [x0] ++ [x1] ++ [x2] ++ [x3] ++ [x4] ++ j).set (h.length + 1) y = h ++ [x0] ++ [y] ++ [x2] ++ [x3] ++ [x4] ++ j :=
 (List.set_append_left _ _ (by simp)).trans (congrArg (· ++ j) (sx51 h x0 x1 x2 x3 x4 y))
theorem bj52 (h j : AHeap) (x0 x1 x2 x3 x4 : Option ABlk) : (h ++ [x0] ++ [x1] ++ [x2] ++ [x3] ++ [x4] ++ j)[h.length + 1 + 1]? = some x2 :=
 (List.getElem?_append_left (by simp)).trans (bx52 h x0 x1 x2 x3 x4)
theorem sj52 (h j : AHeap) (x0 x1 x2 x3 x4 y : Option ABlk) : (h ++ [x0] ++ [x1] ++ [x2] ++ [x3] ++ [x4] ++ j).set (h.length + 1 + 1) y = h ++ [x0] ++ [x1] ++ [y] ++ [x3] ++ [x4] ++ j :=
 (List.set_append_left _ _ (by simp)).trans (congrArg (· ++ j) (sx52 h x0 x1 x2 x3 x4 y))
theorem bj53 (h j : AHeap) (x0 x1 x2 x3 x4 : Option ABlk) : (h ++ [x0] ++ [x1] ++ [x2] ++ [x3] ++ [x4] ++ j)[h.length + 1 + 1 + 1]? = some x3 :=
 (List.getElem?_append_left (by simp)).trans (bx53 h x0 x1 x2 x3 x4)
theorem sj53 (h j : AHeap) (x0 x1 x2 x3 x4 y : Option ABlk) : (h ++ [x0] ++ [x1] ++ [x2] ++ [x3] ++ [x4] ++ j).set (h.length + 1 + 1 + 1) y = h ++ [x0] ++ [x1] ++ [x2] ++ [y] ++ [x4] ++ j :=
 (List.set_append_left _ _ (by simp)).trans (congrArg (· ++ j) (sx53 h x0 x1 x2 x3 x4 y))
theorem bj54 (h j : AHeap) (x0 x1 x2 x3 x4 : Option ABlk) : (h ++ [x0] ++ [x1] ++ [x2] ++ [x3] ++ [x4] ++ j)[h.length + 1 + 1 + 1 + 1]? = some x4 :=
 (List.getElem?_append_left (by simp)).trans (bx54 h x0 x1 x2 x3 x4)
theorem sj54 (h j : AHeap) (x0 x1 x2 x3 x4 y : Option ABlk) : (h ++ [x0] ++ [x1] ++ [x2] ++ [x3] ++ [x4] ++ j).set (h.length + 1 + 1 + 1 + 1) y = h ++ [x0] ++ [x1] ++ [x2] ++ [x3] ++ [y] ++ j :=
 (List.set_append_left _ _ (by simp)).trans (congrArg (· ++ j) (sx54 h x0 x1 x2 x3 x4 y))
theorem bx60 (h : AHeap) (x0 x1 x2 x3 x4 x5 : Option ABlk) : (h ++ [x0] ++ [x1] ++ [x2] ++ [x3] ++ [x4] ++ [x5])[h.length]? = some x0 := by
 simp [List.getElem?_append]
theorem sx60 (h : AHeap) (x0 x1 x2 x3 x4 x5 y : Option ABlk) : (h ++ [x0] ++ [x1] ++ [x2] ++ [x3] ++ [x4] ++ [x5]).set (h.length) y = h ++ [y] ++ [x1] ++ [x2] ++ [x3] ++ [x4] ++ [x5] := by
 simp [Nat.add_assoc]
theorem bj60 (h j : AHeap) (x0 x1 x2 x3 x4 x5 : Option ABlk) : (h ++ [x0] ++ [x1] ++ [x2] ++ [x3] ++ [x4] ++ [x5] ++ j)[h.length]? = some x0 :=
 (List.getElem?_append_left (by simp)).trans (bx60 h x0 x1 x2 x3 x4 x5)
theorem sj60 (h j : AHeap) (x0 x1 x2 x3 x4 x5 y : Option ABlk) : (h ++ [x0] ++ [x1] ++ [x2] ++ [x3] ++ [x4] ++ [x5] ++ j).set (h.length) y = h ++ [y] ++ [x1] ++ [x2] ++ [x3] ++ [x4] ++ [x5] ++ j :=
 (List.set_append_left _ _ (by simp)).trans (congrArg (· ++ j) (sx60 h x0 x1 x2 x3 x4 x5 y))
theorem bx61 (h : AHeap) (x0 x1 x2 x3 x4 x5 : Option ABlk) : (h ++ [x0] ++ [x1] ++ [x2] ++ [x3] ++ [x4] ++ [x5])[h.length + 1]? = some x1 := by
 simp [List.getElem?_append]
theorem sx61 (h : AHeap) (x0 x1 x2 x3 x4 x5 y : Option ABlk) : (h ++ [x0] ++ [x1] ++ [x2] ++ [x3] ++ [x4] ++ [x5]).set (h.length + 1) y = h ++ [x0] ++ [y] ++ [x2] ++ [x3] ++ [x4] ++ [x5] := by
 simp [Nat.add_assoc]
theorem bj61 (h j : AHeap) (x0 x1 x2 x3 x4 x5 : Option ABlk) : (h ++ [x0] ++ [x1] ++ [x2] ++ [x3] ++ [x4] ++ [x5] ++ j)[h.length + 1]? = some x1 :=
 (List.getElem?_append_left (by simp)).trans (bx61 h x0 x1 x2 x3 x4 x5)
theorem sj61 (h j : AHeap) (x0 x1 x2 x3 x4 x5 y : Option ABlk) : (h ++ [x0] ++ [x1] ++ [x2] ++ [x3] ++ [x4] ++ [x5] ++ j).set (h.length + 1) y = h ++ [x0] ++ [y] ++ [x2] ++ [x3] ++ [x4] ++ [x5] ++ j :=
 (List.set_append_left _ _ (by simp)).trans (congrArg (· ++ j) (sx61 h x0 x1 x2 x3 x4 x5 y))
theorem bx62 (h : AHeap) (x0 x1 x2 x3 x4 x5 : Option ABlk) : (h ++ [x0] ++ [x1] ++ [x2] ++ [x3] ++ [x4] ++ [x5])[h.length + 1 + 1]? = some x2 := by
 simp [Nat.add_assoc]
theorem sx62 (h : AHeap) (x0 x1 x2 x3 x4 x5 y : Option ABlk) : (h ++ [x0] ++ [x1] ++ [x2] ++ [x3] ++ [x4] ++ [x5]).set (h.length + 1 + 1) y = h ++ [x0] ++ [x1] ++ [y] ++ [x3] ++ [x4] ++ [x5] := by
 simp [Nat.add_assoc]
theorem bj62 (h j : AHeap) (x0 x1 x2 x3 x4 x5 : Option ABlk) : (h ++ [x0] ++ [x1] ++ [x2] ++ [x3] ++ [x4] ++ [x5] ++ j)[h.length + 1 + 1]? = some x2 :=
 (List.getElem?_append_left (by simp)).trans (bx62 h x0 x1 x2 x3 x4 x5)
theorem sj62 (h j : AHeap) (x0 x1 x2 x3 x4 x5 y : Option ABlk) : (h ++ [x0] ++ [x1] ++ [x2] ++ [x3] ++ [x4] ++ [x5] ++ j).set (h.length + 1 + 1) y = h ++ [x0] ++ [x1] ++ [y] ++ [x3] ++ [x4] ++ [x5] ++ j :=
 (List.set_append_left _ _ (by simp)).trans (congrArg (· ++ j) (sx62 h x0 x1 x2 x3 x4 x5 y))
theorem bx63 (h : AHeap) (x0 x1 x2 x3 x4 x5 : Option ABlk) : (h ++ [x0] ++ [x1] ++ [x2] ++ [x3] ++ [x4] ++ [x5])[h.length + 1 + 1 + 1]? = some x3 := by
 simp [Nat.add_assoc]
theorem sx63 (h : AHeap) (x0 x1 x2 x3 x4 x5 y : Option ABlk) : (h ++ [x0] ++ [x1] ++ [x2] ++ [x3] ++ [x4] ++ [x5]).set (h.length + 1 + 1 + 1) y = h ++ [x0] ++ [x1] ++ [x2] ++ [y] ++ [x4] ++ [x5] := by
 simp [Nat.add_assoc]
theorem bj63 (h j : AHeap) (x0 x1 x2 x3 x4 x5 : Option ABlk) : (h ++ [x0] ++ [x1] ++ [x2] ++ [x3] ++ [x4] ++ [x5] ++ j)[h.length + 1 + 1 + 1]? = some x3 :=
 (List.getElem?_append_left (by simp)).trans (bx63 h x0 x1 x2 x3 x4 x5)
theorem sj63 (h j : AHeap) (x0 x1 x2 x3 x4 x5 y : Option ABlk) : (h ++ [x0] ++ [x1] ++ [x2] ++ [x3] ++ [x4] ++ [x5] ++ j).set (h.length + 1 + 1 + 1) y = h ++ [x0] ++ [x1] ++ [x2] ++ [y] ++ [x4] ++ [x5] ++ j :=
 (List.set_append_left _ _ (by simp)).trans (congrArg (· ++ j) (sx63 h x0 x1 x2 x3 x4 x5 y))
theorem bx64 (h : AHeap) (x0 x1 x2 x3 x4 x5 : Option ABlk) : (h ++ [x0] ++ [x1] ++ [x2] ++ [x3] ++ [x4] ++ [x5])[h.length + 1 + 1 + 1 + 1]? = some x4 := by
 simp [Nat.add_assoc]
theorem sx64 (h : AHeap) (x0 x1 x2 x3 x4 x5 y : Option ABlk) : (h ++ [x0] ++ [x1] ++ [x2] ++ [x3] ++ [x4] ++ [x5]).set (h.length + 1 + 1 + 1 + 1) y = h ++ [x0] ++ [x1] ++ [x2] ++ [x3] ++ [y] ++ [x5] := by
 simp [Nat.add_assoc]
theorem bj64 (h j : AHeap) (x0 x1 x2 x3 x4 x5 : Option ABlk) : (h ++ [x0] ++ [x1] ++ [x2] ++ [x3] ++ [x4] ++ [x5] ++ j)[h.length + 1 + 1 + 1 + 1]? = some x4 :=
 (List.getElem?_append_left (by simp)).trans (bx64 h x0 x1 x2 x3 x4 x5)
theorem sj64 (h j : AHeap) (x0 x1 x2 x3 x4 x5 y : Option ABlk) : (h ++ [x0] ++ [x1] ++ [x2] ++ [x3] ++ [x4] ++ [x5] ++ j).set (h.length + 1 + 1 + 1 + 1) y = h ++ [x0] ++ [x1] ++ [x2] ++ [x3] ++ [y] ++ [x5] ++ j :=
 (List.set_append_left _ _ (by simp)).trans (congrArg (· ++ j) (sx64 h x0 x1 x2 x3 x4 x5 y))
theorem bx65 (h : AHeap) (x0 x1 x2 x3 x4 x5 : Option ABlk) : (h ++ [x0] ++ [x1] ++ [x2] ++ [x3] ++ [x4] ++ [x5])[h.length + 1 + 1 + 1 + 1 + 1]? = some x5 := by
 simp [Nat.add_assoc]
theorem sx65 (h : AHeap) (x0 x1 x2 x3 x4 x5 y : Option ABlk) : (h ++ [x0] ++ [x1] ++ [x2] ++ [x3] ++ [x4] ++ [x5]).set (h.length + 1 + 1 + 1 + 1 + 1) y = h ++ [x0] ++ [x1] ++ [x2] ++ [x3] ++ [x4] ++ [y] := by
 simp [Nat.add_assoc]
theorem bj65 (h j : AHeap) (x0 x1 x2 x3 x4 x5 : Option ABlk) : (h ++ [x0] ++ [x1] ++ [x2] ++ [x3] ++ [x4] ++ [x5] ++ j)[h.length + 1 + 1 + 1 + 1 + 1]? = some x5 :=
 (List.getElem?_append_left (by simp)).trans (bx65 h x0 x1 x2 x3 x4 x5)
theorem sj65 (h j : AHeap) (x0 x1 x2 x3 x4 x5 y : Option ABlk) : (h ++ [x0] ++ [x1] ++ [x2] ++ [x3] ++ [x4] ++ [x5] ++ j).set (h.length + 1 + 1 + 1 + 1 + 1) y = h ++ [x0] ++ [x1] ++ [x2] ++ [x3] ++ [x4] ++ [y] ++ j :=
 (List.set_append_left _ _ (by simp)).trans (congrArg (· ++ j) (sx65 h x0 x1 x2 x3 x4 x5 y))
theorem bx70 (h : AHeap) (x0 x1 x2 x3 x4 x5 x6 : Option ABlk) : (h ++ [x0] ++ [x1] ++ [x2] ++ [x3] ++ [x4] ++ [x5] ++ [x6])[h.length]? = some x0 := by
 simp [List.getElem?_append]
theorem sx70 (h : AHeap) (x0 x1 x2 x3 x4 x5 x6 y : Option ABlk) : (h ++ [x0] ++ [x1] ++ [x2] ++ [x3] ++ [x4] ++ [x5] ++ [x6]).set (h.length) y = h ++ [y] ++ [x1] ++ [x2] ++ [x3] ++ [x4] ++ [x5] ++ [x6] := by
 simp [Nat.add_assoc]
theorem bj70 (h j : AHeap) (x0 x1 x2 x3 x4 x5 x6 : Option ABlk) : (h ++ [x0] ++ [x1] ++ [x2] ++ [x3] ++ [x4] ++ [x5] ++ [x6] ++ j)[h.length]? = some x0 :=
 (List.getElem?_append_left (by simp)).trans (bx70 h x0 x1 x2 x3 x4 x5 x6)
theorem sj70 (h j : AHeap) (x0 x1 x2 x3 x4 x5 x6 y : Option ABlk) : (h ++ [x0] ++ [x1] ++ [x2] ++ [x3] ++ [x4] ++ [x5] ++ [x6] ++ j).set (h.length) y = h ++ [y] ++ [x1] ++ [x2] ++ [x3] ++ [x4] ++ [x5] ++ [x6] ++ j :=
 (List.set_append_left _ _ (by simp)).trans (congrArg (· ++ j) (sx70 h x0 x1 x2 x3 x4 x5 x6 y))
theorem bx71 (h : AHeap) (x0 x1 x2 x3 x4 x5 x6 : Option ABlk) : (h ++ [x0] ++ [x1] ++ [x2] ++ [x3] ++ [x4] ++ [x5] ++ [x6])[h.length + 1]? = some x1 := by
 simp [List.getElem?_append]
theorem sx71 (h : AHeap) (x0 x1 x2 x3 x4 x5 x6 y : Option ABlk) : (h ++ [x0] ++ [x1] ++ [x2] ++ [x3] ++ [x4] ++ [x5] ++ [x6]).set (h.length + 1) y = h ++ [x0] ++ [y] ++ [x2] ++ [x3] ++ [x4] ++ [x5] ++ [x6] := by
 simp [Nat.add_assoc]
theorem bj71 (h j : AHeap) (x0 x1 x2 x3 x4 x5 x6 : Option ABlk) : (h ++ [x0] ++ [x1] ++ [x2] ++ [x3] ++ [x4] ++ [x5] ++ [x6] ++ j)[h.length + 1]? = some x1 :=
 (List.getElem?_append_left (by simp)).trans (bx71 h x0 x1 x2 x3 x4 x5 x6)
theorem sj71 (h j : AHeap) (x0 x1 x2 x3 x4 x5 x6 y : Option ABlk) : (h ++ [x0] ++ [x1] ++ [x2] ++ [x3] ++ [x4] ++ [x5] ++ [x6] ++ j).set (h.length + 1) y = h ++ [x0] ++ [y] ++ [x2] ++ [x3] ++ [x4] ++ [x5] ++ [x6] ++ j :=
 (List.set_append_left _ _ (by simp)).trans (congrArg (· ++ j) (sx71 h x0 x1 x2 x3 x4 x5 x6 y))
theorem bx72 (h : AHeap) (x0 x1 x2 x3 x4 x5 x6 : Option ABlk) : (h ++ [x0] ++ [x1] ++ [x2] ++ [x3] ++ [x4] ++ [x5] ++ [x6])[h.length + 1 + 1]? = some x2 := by
 simp [Nat.add_assoc]
theorem sx72 (h : AHeap) (x0 x1 x2 x3 x4 x5 x6 y : Option ABlk) : (h ++ [x0] ++ [x1] ++ [x2] ++ [x3] ++ [x4] ++ [x5] ++ [x6]).set (h.length + 1 + 1) y = h ++ [x0] ++ [x1] ++ [y] ++ [x3] ++ [x4] ++ [x5] ++ [x6] := by
 simp [Nat.add_assoc]
theorem bj72 (h j : AHeap) (x0 x1 x2 x3 x4 x5 x6 : Option ABlk) : (h ++ [x0] ++ [x1] ++ [x2] ++ [x3] ++ [x4] ++ [x5] ++ [x6] ++ j)[h.length + 1 + 1]? = some x2 :=
 (List.getElem?_append_left (by simp)).trans (bx72 h x0 x1 x2 x3 x4 x5 x6)
theorem sj72 (h j : AHeap) (x0 x1 x2 x3 x4 x5 x6 y : Option ABlk) : (h ++ [x0] ++ [x1] ++ [x2] ++ [x3] ++ [x4] ++ [x5] ++ [x6] ++ j).set (h.length + 1 + 1) y = h ++ [x0] ++ [x1] ++ [y] ++ [x3] ++ [x4] ++ [x5] ++ [x6] ++ j :=
 (List.set_append_left _ _ (by simp)).trans (congrArg (· ++ j) (sx72 h x0 x1 x2 x3 x4 x5 x6 y))
theorem bx73 (h : AHeap) (x0 x1 x2 x3 x4 x5 x6 : Option ABlk) : (h ++ [x0] ++ [x1] ++ [x2] ++ [x3] ++ [x4] ++ [x5] ++ [x6])[h.length + 1 + 1 + 1]? = some x3 := by
 simp [Nat.add_assoc]
theorem sx73 (h : AHeap) (x0 x1 x2 x3 x4 x5 x6 y : Option ABlk) : (h ++ [x0] ++ [x1] ++ [x2] ++ [x3] ++ [x4] ++ [x5] ++ [x6]).set (h.length + 1 + 1 + 1) y = h ++ [x0] ++ [x1] ++ [x2] ++ [y] ++ [x4] ++ [x5] ++ [x6] := by
 simp [Nat.add_assoc]
theorem bj73 (h j : AHeap) (x0 x1 x2 x3 x4 x5 x6 : Option ABlk) : (h ++ [x0] ++ [x1] ++ [x2] ++ [x3] ++ [x4] ++ [x5] ++ [x6] ++ j)[h.length + 1 + 1 + 1]? = some x3 :=
 (List.getElem?_append_left (by simp)).trans (bx73 h x0 x1 x2 x3 x4 x5 x6)
theorem sj73 (h j : AHeap) (x0 x1 x2 x3 x4 x5 x6 y : Option ABlk) : (h ++ [x0] ++ [x1] ++ [x2] ++ [x3] ++ [x4] ++ [x5] ++ [x6] ++ j).set (h.length + 1 + 1 + 1) y = h ++ [x0] ++ [x1] ++ [x2] ++ [y] ++ [x4] ++ [x5] ++ [x6] ++ j :=
 (List.set_append_left _ _ (by simp)).trans (congrArg (· ++ j) (sx73 h x0 x1 x2 x3 x4 x5 x6 y))
theorem bx74 (h : AHeap) (x0 x1 x2 x3 x4 x5 x6 : Option ABlk) : (h ++ [x0] ++ [x1] ++ [x2] ++ [x3] ++ [x4] ++ [x5] ++ [x6])[h.length + 1 + 1 + 1 + 1]? = some x4 := by
 simp [Nat.add_assoc]
theorem sx74 (h : AHeap) (x0 x1 x2 x3 x4 x5 x6 y : Option ABlk) : (h ++ [x0] ++ [x1] ++ [x2] ++ [x3] ++ [x4] ++ [x5] ++ [x6]).set (h.length + 1 + 1 + 1 + 1) y = h ++ [x0] ++ [x1] ++ [x2] ++ [x3] ++ [y] ++ [x5] ++ [x6] := by
 simp [Nat.add_assoc]
theorem bj74 (h j : AHeap) (x0 x1 x2 x3 x4 x5 x6 : Option ABlk) : (h ++ [x0] ++ [x1] ++ [x2] ++ [x3] ++ [x4] ++ [x5] ++ [x6] ++ j)[h.length + 1 + 1 + 1 + 1]? = some x4 :=
 (List.getElem?_append_left (by simp)).trans (bx74 h x0 x1 x2 x3 x4 x5 x6)
theorem sj74 (h j : AHeap) (x0 x1 x2 x3 x4 x5 x6 y : Option ABlk) : (h ++ [x0] ++ [x1] ++ [x2] ++ [x3] ++ [x4] ++ [x5] ++ [x6] ++ j).set (h.length + 1 + 1 + 1 + 1) y = h ++ [x0] ++ [x1] ++ [x2] ++ [x3] ++ [y] ++ [x5] ++ [x6] ++ j :=
 (List.set_append_left _ _ (by simp)).trans (congrArg (· ++ j) (sx74 h x0 x1 x2 x3 x4 x5 x6 y))
theorem bx75 (h : AHeap) (x0 x1 x2 x3 x4 x5 x6 : Option ABlk) : (h ++ [x0] ++ [x1] ++ [x2] ++ [x3] ++ [x4] ++ [x5] ++ [x6])[h.length + 1 + 1 + 1 + 1 + 1]? = some x5 := by
 simp [Nat.add_assoc]
theorem sx75 (h : AHeap) (x0 x1 x2 x3 x4 x5 x6 y : Option ABlk) : (h ++ [x0] ++ [x1] ++ [x2] ++ [x3] ++ [x4] ++ [x5] ++ [x6]).set (h.length + 1 + 1 + 1 + 1 + 1) y = h ++ [x0] ++ [x1] ++ [x2] ++ [x3] ++ [x4] ++ [y] ++ [x6] := by
 simp [Nat.add_assoc]
theorem bj75 (h j : AHeap) (x0 x1 x2 x3 x4 x5 x6 : Option ABlk) : (h ++ [x0] ++ [x1] ++ [x2] ++ [x3] ++ [x4] ++ [x5] ++ [x6] ++ j)[h.length + 1 + 1 + 1 + 1 + 1]? = some x5 :=
 (List.getElem?_append_left (by simp)).trans (bx75 h x0 x1 x2 x3 x4 x5 x6)
theorem sj75 (h j : AHeap) (x0 x1 x2 x3 x4 x5 x6 y : Option ABlk) : (h ++ [x0] ++ [x1] ++ [x2] ++ [x3] ++ [x4] ++ [x5] ++ [x6] ++ j).set (h.length + 1 + 1 + 1 + 1 + 1) y = h ++ [x0] ++ [x1] ++ [x2] ++ [x3] ++ [x4] ++ [y] ++ [x6] ++ j :=
 (List.set_append_left _ _ (by simp)).trans (congrArg (· ++ j) (sx75 h x0 x1 x2 x3 x4 x5 x6 y))
theorem bx76 (h : AHeap) (x0 x1 x2 x3 x4 x5 x6 : Option ABlk) : (h ++ [x0] ++ [x1] ++ [x2] ++ [x3] ++ [x4] ++ [x5] ++ [x6])[h.length + 1 + 1 + 1 + 1 + 1 + 1]? = some x6 := by
 simp [Nat.add_assoc]
theorem sx76 (h : AHeap) (x0 x1 x2 x3 x4 x5 x6 y : Option ABlk) : (h ++ [x0] ++ [x1] ++ [x2] ++ [x3] ++ [x4] ++ [x5] ++ [x6]).set (h.length + 1 + 1 + 1 + 1 + 1 + 1) y = h ++ [x0] ++ [x1] ++ [x2] ++ [x3] ++ [x4] ++ [x5] ++ [y] := by
 simp [Nat.add_assoc]
theorem bj76 (h j : AHeap) (x0 x1 x2 x3 x4 x5 x6 : Option ABlk) : (h ++ [x0] ++ [x1] ++ [x2] ++ [x3] ++ [x4] ++ [x5] ++ [x6] ++ j)[h.length + 1 + 1 + 1 + 1 + 1 + 1]? = some x6 :=
 (List.getElem?_append_left (by simp)).trans (bx76 h x0 x1 x2 x3 x4 x5 x6)
theorem sj76 (h j : AHeap) (x0 x1 x2 x3 x4 x5 x6 y : Option ABlk) : (h ++ [x0] ++ [x1] ++ [x2] ++ [x3] ++ [x4] ++ [x5] ++ [x6] ++ j).set (h.length + 1 + 1 + 1 + 1 + 1 + 1) y = h ++ [x0] ++ [x1] ++ [x2] ++ [x3] ++ [x4] ++ [x5] ++ [y] ++ j :=
 (List.set_append_left _ _ (by simp)).trans (congrArg (· ++ j) (sx76 h x0 x1 x2 x3 x4 x5 x6 y))
theorem bx80 (h : AHeap) (x0 x1 x2 x3 x4 x5 x6 x7 : Option ABlk) : (h ++ [x0] ++ [x1] ++ [x2] ++ [x3] ++ [x4] ++ [x5] ++ [x6] ++ [x7])[h.length]? = some x0 := by
 simp [List.getElem?_append]
theorem sx80 (h : AHeap) (x0 x1 x2 x3 x4 x5 x6 x7 y : Option ABlk) : (h ++ [x0] ++ [x1] ++ [x2] ++ [x3] ++ [x4] ++ [x5] ++ [x6] ++ [x7]).set (h.length) y = h ++ [y] ++ [x1] ++ [x2] ++ [x3] ++ [x4] ++ [x5] ++ [x6] ++ [x7] := by
 simp [Nat.add_assoc]
theorem bj80 (h j : AHeap) (x0 x1 x2 x3 x4 x5 x6 x7 : Option ABlk) : (h ++ [x0] ++ [x1] ++ [x2] ++ [x3] ++ [x4] ++ [x5] ++ [x6] ++ [x7] ++ j)[h.length]? = some x0 :=
 (List.getElem?_append_left (by simp)).trans (bx80 h x0 x1 x2 x3 x4 x5 x6 x7)
theorem sj80 (h j : AHeap) (x0 x1 x2 x3 x4 x5 x6 x7 y : Option ABlk) : (h ++ [x0] ++ [x1] ++ [x2] ++ [x3] ++ [x4] ++ [x5] ++ [x6] ++ [x7] ++ j).set (h.length) y = h ++ [y] ++ [x1] ++ [x2] ++ [x3] ++ [x4] ++ [x5] ++ [x6] ++ [x7] ++ j :=
 (List.set_append_left _ _ (by simp)).trans (congrArg (· ++ j) (sx80 h x0 x1 x2 x3 x4 x5 x6 x7 y))
theorem bx81 (h : AHeap) (x0 x1 x2 x3 x4 x5 x6 x7 : Option ABlk) : (h ++ [x0] ++ [x1] ++ [x2] ++ [x3] ++ [x4] ++ [x5] ++ [x6] ++ [x7])[h.length + 1]? = some x1 := by
 simp [List.getElem?_append]
theorem sx81 (h : AHeap) (x0 x1 x2 x3 x4 x5 x6 x7 y : Option ABlk) : (h ++ [x0] ++ [x1] ++ [x2] ++ [x3] ++ [x4] ++ [x5] ++ [x6] ++ [x7]).set (h.length + 1) y = h ++ [x0] ++ [y] ++ [x2] ++ [x3] ++ [x4] ++ [x5] ++ [x6] ++ [x7] := by
 simp [Nat.add_assoc]
theorem bj81 (h j : AHeap) (x0 x1 x2 x3 x4 x5 x6 x7 : Option ABlk) : (h ++ [x0] ++ [x1] ++ [x2] ++ [x3] ++ [x4] ++ [x5] ++ [x6] ++ [x7] ++ j)[h.length + 1]? = some x1 :=
 (List.getElem?_append_left (by simp)).trans (bx81 h x0 x1 x2 x3 x4 x5 x6 x7)
theorem sj81 (h j : AHeap) (x0 x1 x2 x3 x4 x5 x6 x7 y : Option ABlk) : (h ++ [x0] ++ [x1] ++ [x2] ++ [x3] ++ [x4] ++ [x5] ++ [x6] ++ [x7] ++ j).set (h.length + 1) y = h ++ [x0] ++ [y] ++ [x2] ++ [x3] ++ [x4] ++ [x5] ++ [x6] ++ [x7] ++ j :=
 (List.set_append_left _ _ (by simp)).trans (congrArg (· ++ j) (sx81 h x0 x1 x2 x3 x4 x5 x6 x7 y))
theorem bx82 (h : AHeap) (x0 x1 x2 x3 x4 x5 x6 x7 : Option ABlk) : (h ++ [x0] ++ [x1] ++ [x2] ++ [x3] ++ [x4] ++ [x5] ++ [x6] ++ [x7])[h.length + 1 + 1]? = some x2 := by
 simp [Nat.add_assoc]
theorem sx82 (h : AHeap) (x0 x1 x2 x3 x4 x5 x6 x7 y : Option ABlk) : (h ++ [x0] ++ [x1] ++ [x2] ++ [x3] ++ [x4] ++ [x5] ++ [x6] ++ [x7]).set (h.length + 1 + 1) y = h ++ [x0] ++ [x1] ++ [y] ++ [x3] ++ [x4] ++ [x5] ++ [x6] ++ [x7] := by
 simp [Nat.add_assoc]
theorem bj82 (h j : AHeap) (x0 x1 x2 x3 x4 x5 x6 x7 : Option ABlk) : (h ++ [x0] ++ [x1] ++ [x2] ++ [x3] ++ [x4] ++ [x5] ++ [x6] ++ [x7] ++ j)[h.length + 1 + 1]? = some x2 :=
 (List.getElem?_append_left (by simp)).trans (bx82 h x0 x1 x2 x3 x4 x5 x6 x7)
theorem sj82 (h j : AHeap) (x0 x1 x2 x3 x4 x5 x6 x7 y : Option ABlk) : (h ++ [x0] ++ [x1] ++ [x2] ++ [x3] ++ [x4] ++ [x5] ++ [x6] ++ [x7] ++ j).set (h.length + 1 + 1) y = h ++ [x0] ++ [x1] ++ [y] ++ [x3] ++ [x4] ++ [x5] ++ [x6] ++ [x7] ++ j :=
 (List.set_append_left _ _ (by simp)).trans (congrArg (· ++ j) (sx82 h x0 x1 x2 x3 x4 x5 x6 x7 y))
theorem bx83 (h : AHeap) (x0 x1 x2 x3 x4 x5 x6 x7 : Option ABlk) : (h ++ [x0] ++ [x1] ++ [x2] ++ [x3] ++ [x4] ++ [x5] ++ [x6] ++ [x7])[h.length + 1 + 1 + 1]? = some x3 := by
 simp [Nat.add_assoc]
theorem sx83 (h : AHeap) (x0 x1 x2 x3 x4 x5 x6 x7 y : Option ABlk) : (h ++ [x0] ++ [x1] ++ [x2] ++ [x3] ++ [x4] ++ [x5] ++ [x6] ++ [x7]).set (h.length + 1 + 1 + 1) y = h ++ [x0] ++ [x1] ++ [x2] ++ [y] ++ [x4] ++ [x5] ++ [x6] ++ [x7] := by
 simp [Nat.add_assoc]
theorem bj83 (h j : AHeap) (x0 x1 x2 x3 x4 x5 x6 x7 : Option ABlk) : (h ++ [x0] ++ [x1] ++ [x2] ++ [x3] ++ [x4] ++ [x5] ++ [x6] ++ [x7] ++ j)[h.length + 1 + 1 + 1]? = some x3 :=
 (List.getElem?_append_left (by simp)).trans (bx83 h x0 x1 x2 x3 x4 x5 x6 x7)
theorem sj83 (h j : AHeap) (x0 x1 x2 x3 x4 x5 x6 x7 y : Option ABlk) : (h ++ [x0] ++ [x1] ++ [x2] ++ [x3] ++ [x4] ++ [x5] ++ [x6] ++ [x7] ++ j).set (h.length + 1 + 1 + 1) y = h ++ [x0] ++ [x1] ++ [x2] ++ [y] ++ [x4] ++ [x5] ++ [x6] ++ [x7] ++ j :=
 (List.set_append_left _ _ (by simp)).trans (congrArg (· ++ j) (sx83 h x0 x1 x2 x3 x4 x5 x6 x7 y))
theorem bx84 (h : AHeap) (x0 x1 x2 x3 x4 x5 x6 x7 : Option ABlk) : (h ++ [x0] ++ [x1] ++ [x2] ++ [x3] ++ [x4] ++ [x5] ++ [x6] ++ [x7])[h.length + 1 + 1 + 1 + 1]? = some x4 := by
 simp [Nat.add_assoc]
theorem sx84 (h : AHeap) (x0 x1 x2 x3 x4 x5 x6 x7 y : Option ABlk) : (h ++ [x0] ++ [x1] ++ [x2] ++ [x3] ++ [x4] ++ [x5] ++ [x6] ++ [x7]).set (h.length + 1 + 1 + 1 + 1) y = h ++ [x0] ++ [x1] ++ [x2] ++ [x3] ++ [y] ++ [x5] ++ [x6] ++ [x7] := by
 simp [Nat.add_assoc]
theorem bj84 (h j : AHeap) (x0 x1 x2 x3 x4 x5 x6 x7 : Option ABlk) : (h ++ [x0] ++ [x1] ++ [x2] ++ [x3] ++ [x4] ++ [x5] ++ [x6] ++ [x7] ++ j)[h.length + 1 + 1 + 1 + 1]? = some x4 :=
 (List.getElem?_append_left (by simp)).trans (bx84 h x0 x1 x2 x3 x4 x5 x6 x7)
theorem sj84 (h j : AHeap) (x0 x1 x2 x3 x4 x5 x6 x7 y : Option ABlk) : (h ++ [x0] ++ [x1] ++ [x2] ++ [x3] ++ [x4] ++ [x5] ++ [x6] ++ [x7] ++ j).set (h.length + 1 + 1 + 1 + 1) y = h ++ [x0] ++ [x1] ++ [x2] ++ [x3] ++ [y] ++ [x5] ++ [x6] ++ [x7] ++ j :=
 (List.set_append_left _ _ (by simp)).trans (congrArg (· ++ j) (sx84 h x0 x1 x2 x3 x4 x5 x6 x7 y))
theorem bx85 (h : AHeap) (x0 x1 x2 x3 x4 x5 x6 x7 : Option ABlk) : (h ++ [x0] ++ [x1] ++ [x2] ++ [x3] ++ [x4] ++ [x5] ++ [x6] ++ [x7])[h.length + 1 + 1 + 1 + 1 + 1]? = some x5 := by
 simp [Nat.add_assoc]
theorem sx85 (h : AHeap) (x0 x1 x2 x3 x4 x5 x6 x7 y : Option ABlk) : (h ++ [x0] ++ [x1] ++ [x2] ++ [x3] ++ [x4] ++ [x5] ++ [x6] ++ [x7]).set (h.length + 1 + 1 + 1 + 1 + 1) y = h ++ [x0] ++ [x1] ++ [x2] ++ [x3] ++ [x4] ++ [y] ++ [x6] ++ [x7] := by
 simp [Nat.add_assoc]
theorem bj85 (h j : AHeap) (x0 x1 x2 x3 x4 x5 x6 x7 : Option ABlk) : (h ++ [x0] ++ [x1] ++ [x2] ++ [x3] ++ [x4] ++ [x5] ++ [x6] ++ [x7] ++ j)[h.length + 1 + 1 + 1 + 1 + 1]? = some x5 :=
 (List.getElem?_append_left (by simp)).trans (bx85 h x0 x1 x2 x3 x4 x5 x6 x7)
theorem sj85 (h j : AHeap) (x0 x1 x2 x3 x4 x5 x6 x7 y : Option ABlk) : (h ++ [x0] ++ [x1] ++ [x2] ++ [x3] ++ [x4] ++ [x5] ++ [x6] ++ [x7] ++ j).set (h.length + 1 + 1 + 1 + 1 + 1) y = h ++ [x0] ++ [x1] ++ [x2] ++ [x3] ++ [x4] ++ [y] ++ [x6] ++ [x7] ++ j :=
 (List.set_append_left _ _ (by simp)).trans (congrArg (· ++ j) (sx85 h x0 x1 x2 x3 x4 x5 x6 x7 y))
theorem bx86 (h : AHeap) (x0 x1 x2 x3 x4 x5 x6 x7 : Option ABlk) : (h ++ [x0] ++ [x1] ++ [x2] ++ [x3] ++ [x4] ++ [x5] ++ [x6] ++ [x7])[h.length + 1 + 1 + 1 + 1 + 1 + 1]? = some x6 := by
 simp [Nat.add_assoc]
theorem sx86 (h : AHeap) (x0 x1 x2 x3 x4 x5 x6 x7 y : Option ABlk) : (h ++ [x0] ++ [x1] ++ [x2] ++ [x3] ++ [x4] ++ [x5] ++ [x6] ++ [x7]).set (h.length + 1 + 1 + 1 + 1 + 1 + 1) y = h ++ [x0] ++ [x1] ++ [x2] ++ [x3] ++ [x4] ++ [x5] ++ [y] ++ [x7] := by
 simp [Nat.add_assoc]
theorem bj86 (h j : AHeap) (x0 x1 x2 x3 x4 x5 x6 x7 : Option ABlk) : (h ++ [x0] ++ [x1] ++ [x2] ++ [x3] ++ [x4] ++ [x5] ++ [x6] ++ [x7] ++ j)[h.length + 1 + 1 + 1 + 1 + 1 + 1]? = some x6 :=
 (List.getElem?_append_left (by simp)).trans (bx86 h x0 x1 x2 x3 x4 x5 x6 x7)
theorem sj86 (h j : AHeap) (x0 x1 x2 x3 x4 x5 x6 x7 y : Option ABlk) : (h ++ [x0] ++ [x1] ++ [x2] ++ [x3] ++ [x4] ++ [x5] ++ [x6] ++ [x7] ++ j).set (h.length + 1 + 1 + 1 + 1 + 1 + 1) y = h ++ [x0] ++ [x1] ++ [x2] ++ [x3] ++ [x4] ++ [x5] ++ [y] ++ [x7] ++ j :=
 (List.set_append_left _ _ (by simp)).trans (congrArg (· ++ j) (sx86 h x0 x1 x2 x3 x4 x5 x6 x7 y))
theorem bx87 (h : AHeap) (x0 x1 x2 x3 x4 x5 x6 x7 : Option ABlk) : (h ++ [x0] ++ [x1] ++ [x2] ++ [x3] ++ [x4] ++ [x5] ++ [x6] ++ [x7])[h.length + 1 + 1 + 1 + 1 + 1 + 1 + 1]? = some x7 := by
 simp [Nat.add_assoc]
theorem sx87 (h : AHeap) (x0 x1 x2 x3 x4 x5 x6 x7 y : Option ABlk) : (h ++ [x0] ++ [x1] ++ [x2] ++ [x3] ++ [x4] ++ [x5] ++ [x6] ++ [x7]).set (h.length + 1 + 1 + 1 + 1 + 1 + 1 + 1) y = h ++ [x0] ++ [x1] ++ [x2] ++ [x3] ++ [x4] ++ [x5] ++ [x6] ++ [y] := by
 simp [Nat.add_assoc]
theorem bj87 (h j : AHeap) (x0 x1 x2 x3 x4 x5 x6 x7 : Option ABlk) : (h ++ [x0] ++ [x1] ++ [x2] ++ [x3] ++ [x4] ++ [x5] ++ [x6] ++ [x7] ++ j)[h.length + 1 + 1 + 1 + 1 + 1 + 1 + 1]? = some x7 :=
 (List.getElem?_append_left (by simp)).trans (bx87 h x0 x1 x2 x3 x4 x5 x6 x7)
theorem sj87 (h j : AHeap) (x0 x1 x2 x3 x4 x5 x6 x7 y : Option ABlk) : (h ++ [x0] ++ [x1] ++ [x2] ++ [x3] ++ [x4] ++ [x5] ++ [x6] ++ [x7] ++ j).set (h.length + 1 + 1 + 1 + 1 + 1 + 1 + 1) y = h ++ [x0] ++ [x1] ++ [x2] ++ [x3] ++ [x4] ++ [x5] ++ [x6] ++ [y] ++ j :=
 (List.set_append_left _ _ (by simp)).trans (congrArg (· ++ j) (sx87 h x0 x1 x2 x3 x4 x5 x6 x7 y))
theorem bx90 (h : AHeap) (x0 x1 x2 x3 x4 x5 x6 x7 x8 : Option ABlk) : (h ++ [x0] ++ [x1] ++ [x2] ++ [x3] ++ [x4] ++ [x5] ++ [x6] ++ [x7] ++ [x8])[h.length]? = some x0 := by
 simp [List.getElem?_append]
theorem sx90 (h : AHeap) (x0 x1 x2 x3 x4 x5 x6 x7 x8 y : Option ABlk) : (h ++ [x0] ++ [x1] ++ [x2] ++ [x3] ++ [x4] ++ [x5] ++ [x6] ++ [x7] ++ [x8]).set (h.length) y = h ++ [y] ++ [x1] ++ [x2] ++ [x3] ++ [x4] ++ [x5] ++ [x6] ++ [x7] ++ [x8] := by
 simp [Nat.add_assoc]
theorem bj90 (h j : AHeap) (x0 x1 x2 x3 x4 x5 x6 x7 x8 : Option ABlk) : (h ++ [x0] ++ [x1] ++ [x2] ++ [x3] ++ [x4] ++ [x5] ++ [x6] ++ [x7] ++ [x8] ++ j)[h.length]? = some x0 :=
 (List.getElem?_append_left (by simp)).trans (bx90 h x0 x1 x2 x3 x4 x5 x6 x7 x8)
theorem sj90 (h j : AHeap) (x0 x1 x2 x3 x4 x5 x6 x7 x8 y : Option ABlk) : (h ++ [x0] ++ [x1] ++ [x2] ++ [x3] ++ [x4] ++ [x5] ++ [x6] ++ [x7] ++ [x8] ++ j).set (h.length) y = h ++ [y] ++ [x1] ++ [x2] ++ [x3] ++ [x4] ++ [x5] ++ [x6] ++ [x7] ++ [x8] ++ j :=
 (List.set_append_left _ _ (by simp)).trans (congrArg (· ++ j) (sx90 h x0 x1 x2 x3 x4 x5 x6 x7 x8 y))
theorem bx91 (h : AHeap) (x0 x1 x2 x3 x4 x5 x6 x7 x8 : Option ABlk) : (h ++ [x0] ++ [x1] ++ [x2] ++ [x3] ++ [x4] ++ [x5] ++ [x6] ++ [x7] ++ [x8])[h.length + 1]? = some x1 := by
 simp [List.getElem?_append]
theorem sx91 (h : AHeap) (x0 x1 x2 x3 x4 x5 x6 x7 x8 y : Option ABlk) : (h ++ [x0] ++ [x1] ++ [x2] ++ [x3] ++ [x4] ++ [x5] ++ [x6] ++ [x7] ++ [x8]).set (h.length + 1) y = h ++ [x0] ++ [y] ++ [x2] ++ [x3] ++ [x4] ++ [x5] ++ [x6] ++ [x7] ++ [x8] := by
 simp [Nat.add_assoc]
theorem bj91 (h j : AHeap) (x0 x1 x2 x3 x4 x5 x6 x7 x8 : Option ABlk) : (h ++ [x0] ++ [x1] ++ [x2] ++ [x3] ++ [x4] ++ [x5] ++ [x6] ++ [x7] ++ [x8] ++ j)[h.length + 1]? = some x1 :=
 (List.getElem?_append_left (by simp)).trans (bx91 h x0 x1 x2 x3 x4 x5 x6 x7 x8)
theorem sj91 (h j : AHeap) (x0 x1 x2 x3 x4 x5 x6 x7 x8 y : Option ABlk) : (h ++ [x0] ++ [x1] ++ [x2] ++ [x3] ++ [x4] ++ [x5] ++ [x6] ++ [x7] ++ [x8] ++ j).set (h.length + 1) y = h ++ [x0] ++ [y] ++ [x2] ++ [x3] ++ [x4] ++ [x5] ++ [x6] ++ [x7] ++ [x8] ++ j :=
 (List.set_append_left _ _ (by simp)).trans (congrArg (· ++ j) (sx91 h x0 x1 x2 x3 x4 x5 x6 x7 x8 y))
theorem bx92 (h : AHeap) (x0 x1 x2 x3 x4 x5 x6 x7 x8 : Option ABlk) : (h ++ [x0] ++ [x1] ++ [x2] ++ [x3] ++ [x4] ++ [x5] ++ [x6] ++ [x7] ++ [x8])[h.length + 1 + 1]? = some x2 := by
 simp [Nat.add_assoc]
theorem sx92 (h : AHeap) (x0 x1 x2 x3 x4 x5 x6 x7 x8 y : Option ABlk) : (h ++ [x0] ++ [x1] ++ [x2] ++ [x3] ++ [x4] ++ [x5] ++ [x6] ++ [x7] ++ [x8]).set (h.length + 1 + 1) y = h ++ [x0] ++ [x1] ++ [y] ++ [x3] ++ [x4] ++ [x5] ++ [x6] ++ [x7] ++ [x8] := by
 simp [Nat.add_assoc]
theorem bj92 (h j : AHeap) (x0 x1 x2 x3 x4 x5 x6 x7 x8 : Option ABlk) : (h ++ [x0] ++ [x1] ++ [x2] ++ [x3] ++ [x4] ++ [x5] ++ [x6] ++ [x7] ++ [x8] ++ j)[h.length + 1 + 1]? = some x2 :=
 (List.getElem?_append_left (by simp)).trans (bx92 h x0 x1 x2 x3 x4 x5 x6 x7 x8)
theorem sj92 (h j : AHeap) (x0 x1 x2 x3 x4 x5 x6 x7 x8 y : Option ABlk) : (h ++ [x0] ++ [x1] ++ [x2] ++ [x3] ++ [x4] ++ [x5] ++ [x6] ++ [x7] ++ [x8] ++ j).set (h.length + 1 + 1) y = h ++ [x0] ++ [x1] ++ [y] ++ [x3] ++ [x4] ++ [x5] ++ [x6] ++ [x7] ++ [x8] ++ j :=
 (List.set_append_left _ _ (by simp)).trans (congrArg (· ++ j) (sx92 h x0 x1 x2 x3 x4 x5 x6 x7 x8 y))
theorem bx93 (h : AHeap) (x0 x1 x2 x3 x4 x5 x6 x7 x8 : Option ABlk) : (h ++ [x0] ++ [x1] ++ [x2] ++ [x3] ++ [x4] ++ [x5] ++ [x6] ++ [x7] ++ [x8])[h.length + 1 + 1 + 1]? = some x3 := by
 simp [Nat.add_assoc]
theorem sx93 (h : AHeap) (x0 x1 x2 x3 x4 x5 x6 x7 x8 y : Option ABlk) : (h ++ [x0] ++ [x1] ++ [x2] ++ [x3] ++ [x4] ++ [x5] ++ [x6] ++ [x7] ++ [x8]).set (h.length + 1 + 1 + 1) y = h ++ [x0] ++ [x1] ++ [x2] ++ [y] ++ [x4] ++ [x5] ++ [x6] ++ [x7] ++ [x8] := by
 simp [Nat.add_assoc]
theorem bj93 (h j : AHeap) (x0 x1 x2 x3 x4 x5 x6 x7 x8 : Option ABlk) : (h ++ [x0] ++ [x1] ++ [x2] ++ [x3] ++ [x4] ++ [x5] ++ [x6] ++ [x7] ++ [x8] ++ j)[h.length + 1 + 1 + 1]? = some x3 :=
 (List.getElem?_append_left (by simp)).trans (bx93 h x0 x1 x2 x3 x4 x5 x6 x7 x8)
theorem sj93 (h j : AHeap) (x0 x1 x2 x3 x4 x5 x6 x7 x8 y : Option ABlk) : (h ++ [x0] ++ [x1] ++ [x2] ++ [x3] ++ [x4] ++ [x5] ++ [x6] ++ [x7] ++ [x8] ++ j).set (h.length + 1 + 1 + 1) y = h ++ [x0] ++ [x1] ++ [x2] ++ [y] ++ [x4] ++ [x5] ++ [x6] ++ [x7] ++ [x8] ++ j :=
 (List.set_append_left _ _ (by simp)).trans (congrArg (· ++ j) (sx93 h x0 x1 x2 x3 x4 x5 x6 x7 x8 y))
theorem bx94 (h : AHeap) (x0 x1 x2 x3 x4 x5 x6 x7 x8 : Option ABlk) : (h ++ [x0] ++ [x1] ++ [x2] ++ [x3] ++ [x4] ++ [x5] ++ [x6] ++ [x7] ++ [x8])[h.length + 1 + 1 + 1 + 1]? = some x4 := by
 simp [Nat.add_assoc]
theorem sx94 (h : AHeap) (x0 x1 x2 x3 x4 x5 x6 x7 x8 y : Option ABlk) : (h ++ [x0] ++ [x1] ++ [x2] ++ [x3] ++ [x4] ++ [x5] ++ [x6] ++ [x7] ++ [x8]).set (h.length + 1 + 1 + 1 + 1) y = h ++ [x0] ++ [x1] ++ [x2] ++ [x3] ++ [y] ++ [x5] ++ [x6] ++ [x7] ++ [x8] := by
 simp [Nat.add_assoc]
theorem bj94 (h j : AHeap) (x0 x1 x2 x3 x4 x5 x6 x7 x8 : Option ABlk) : (h ++ [x0] ++ [x1] ++ [x2] ++ [x3] ++ [x4] ++ [x5] ++ [x6] ++ [x7] ++ [x8] ++ j)[h.length + 1 + 1 + 1 + 1]? = some x4 :=
 (List.getElem?_append_left (by simp)).trans (bx94 h x0 x1 x2 x3 x4 x5 x6 x7 x8)
theorem sj94 (h j : AHeap) (x0 x1 x2 x3 x4 x5 x6 x7 x8 y : Option ABlk) : (h ++ [x0] ++ [x1] ++ [x2] ++ [x3] ++ [x4] ++ [x5] ++ [x6] ++ [x7] ++ [x8] ++ j).set (h.length + 1 + 1 + 1 + 1) y = h ++ [x0] ++ [x1] ++ [x2] ++ [x3] ++ [y] ++ [x5] ++ [x6] ++ [x7] ++ [x8] ++ j :=
 (List.set_append_left _ _ (by simp)).trans (congrArg (· ++ j) (sx94 h x0 x1 x2 x3 x4 x5 x6 x7 x8 y))
theorem bx95 (h : AHeap) (x0 x1 x2 x3 x4 x5 x6 x7 x8 : Option ABlk) : (h ++ [x0] ++ [x1] ++ [x2] ++ [x3] ++ [x4] ++ [x5] ++ [x6] ++ [x7] ++ [x8])[h.length + 1 + 1 + 1 + 1 + 1]? = some x5 := by
 simp [Nat.add_assoc]
theorem sx95 (h : AHeap) (x0 x1 x2 x3 x4 x5 x6 x7 x8 y : Option ABlk) : (h ++ [x0] ++ [x1] ++ [x2] ++ [x3] ++ [x4] ++ [x5] ++ [x6] ++ [x7] ++ [x8]).set (h.length + 1 + 1 + 1 + 1 + 1) y = h ++ [x0] ++ [x1] ++ [x2] ++ [x3] ++ [x4] ++ [y] ++ [x6] ++ [x7] ++ [x8] := by
 simp [Nat.add_assoc]
theorem bj95 (h j : AHeap) (x0 x1 x2 x3 x4 x5 x6 x7 x8 : Option ABlk) : (h ++ [x0] ++ [x1] ++ [x2] ++ [x3] ++ [x4] ++ [x5] ++ [x6] ++ [x7] ++ [x8] ++ j)[h.length + 1 + 1 + 1 + 1 + 1]? = some x5 :=
 (List.getElem?_append_left (by simp)).trans (bx95 h x0 x1 x2 x3 x4 x5 x6 x7 x8)
theorem sj95 (h j : AHeap) (x0 x1 x2 x3 x4 x5 x6 x7 x8 y : Option ABlk) : (h ++ [x0] ++ [x1] ++ [x2] ++ [x3] ++ [x4] ++ [x5] ++ [x6] ++ [x7] ++ [x8] ++ j).set (h.length + 1 + 1 + 1 + 1 + 1) y = h ++ [x0] ++ [x1] ++ [x2] ++ [x3] ++ [x4] ++ [y] ++ [x6] ++ [x7] ++ [x8] ++ j :=
 (List.set_append_left _ _ (by simp)).trans (congrArg (· ++ j) (sx95 h x0 x1 x2 x3 x4 x5 x6 x7 x8 y))
theorem bx96 (h : AHeap) (x0 x1 x2 x3 x4 x5 x6 x7 x8 : Option ABlk) : (h ++ [x0] ++ [x1] ++ [x2] ++ [x3] ++ [x4] ++ [x5] ++ [x6] ++ [x7] ++ [x8])[h.length + 1 + 1 + 1 + 1 + 1 + 1]? = some x6 := by
 simp [Nat.add_assoc]
theorem sx96 (h : AHeap) (x0 x1 x2 x3 x4 x5 x6 x7 x8 y : Option ABlk) : (h ++ [x0] ++ [x1] ++ [x2] ++ [x3] ++ [x4] ++ [x5] ++ [x6] ++ [x7] ++ [x8]).set (h.length + 1 + 1 + 1 + 1 + 1 + 1) y = h ++ [x0] ++ [x1] ++ [x2] ++ [x3] ++ [x4] ++ [x5] ++ [y] ++ [x7] ++ [x8] := by
 simp [Nat.add_assoc]
theorem bj96 (h j : AHeap) (x0 x1 x2 x3 x4 x5 x6 x7 x8 : Option ABlk) : (h ++ [x0] ++ [x1] ++ [x2] ++ [x3] ++ [x4] ++ [x5] ++ [x6] ++ [x7] ++ [x8] ++ j)[h.length + 1 + 1 + 1 + 1 + 1 + 1]? = some x6 :=
 (List.getElem?_append_left (by simp)).trans (bx96 h x0 x1 x2 x3 x4 x5 x6 x7 x8)
theorem sj96 (h j : AHeap) (x0 x1 x2 x3 x4 x5 x6 x7 x8 y : Option ABlk) : (h ++ [x0] ++ [x1] ++ [x2] ++ [x3] ++ [x4] ++ [x5] ++ [x6] ++ [x7] ++ [x8] ++ j).set (h.length + 1 + 1 + 1 + 1 + 1 + 1) y = h ++ [x0] ++ [x1] ++ [x2] ++ [x3] ++ [x4] ++ [x5] ++ [y] ++ [x7] ++ [x8] ++ j :=
 (List.set_append_left _ _ (by simp)).trans (congrArg (· ++ j) (sx96 h x0 x1 x2 x3 x4 x5 x6 x7 x8 y))
theorem bx97 (h : AHeap) (x0 x1 x2 x3 x4 x5 x6 x7 x8 : Option ABlk) : (h ++ [x0] ++ [x1] ++ [x2] ++ [x3] ++ [x4] ++ [x5] ++ [x6] ++ [x7] ++ [x8])[h.length + 1 + 1 + 1 + 1 + 1 + 1 + 1]? = some x7 := by
 simp [Nat.add_assoc]
theorem sx97 (h : AHeap) (x0 x1 x2 x3 x4 x5 x6 x7 x8 y : Option ABlk) : (h ++ [x0] ++ [x1] ++ [x2] ++ [x3] ++ [x4] ++ [x5] ++ [x6] ++ [x7] ++ [x8]).set (h.length + 1 + 1 + 1 + 1 + 1 + 1 + 1) y = h ++ [x0] ++ [x1] ++ [x2] ++ [x3] ++ [x4] ++ [x5] ++ [x6] ++ [y] ++ [x8] := by
 simp [Nat.add_assoc]
theorem bj97 (h j : AHeap) (x0 x1 x2 x3 x4 x5 x6 x7 x8 : Option ABlk) : (h ++ [x0] ++ [x1] ++ [x2] ++ [x3] ++ [x4] ++ [x5] ++ [x6] ++ [x7] ++ [x8] ++ j)[h.length + 1 + 1 + 1 + 1 + 1 + 1 + 1]? = some x7 :=
 (List.getElem?_append_left (by simp)).trans (bx97 h x0 x1 x2 x3 x4 x5 x6 x7 x8)
theorem sj97 (h j : AHeap) (x0 x1 x2 x3 x4 x5 x6 x7 x8 y : Option ABlk) : (h ++ [x0] ++ [x1] ++ [x2] ++ [x3] ++ [x4] ++ [x5] ++ [x6] ++ [x7] ++ [x8] ++ j).set (h.length + 1 + 1 + 1 + 1 + 1 + 1 + 1) y = h ++ [x0] ++ [x1] ++ [x2] ++ [x3] ++ [x4] ++ [x5] ++ [x6] ++ [y] ++ [x8] ++ j :=
 (List.set_append_left _ _ (by simp)).trans (congrArg (· ++ j) (sx97 h x0 x1 x2 x3 x4 x5 x6 x7 x8 y))
theorem bx98 (h : AHeap) (x0 x1 x2 x3 x4 x5 x6 x7 x8 : Option ABlk) : (h ++ [x0] ++ [x1] ++ [x2] ++ [x3] ++ [x4] ++ [x5] ++ [x6] ++ [x7] ++ [x8])[h.length + 1 + 1 + 1 + 1 + 1 + 1 + 1 + 1]? = some x8 := by
 simp [Nat.add_assoc]
theorem sx98 (h : AHeap) (x0 x1 x2 x3 x4 x5 x6 x7 x8 y : Option ABlk) : (h ++ [x0] ++ [x1] ++ [x2] ++ [x3] ++ [x4] ++ [x5] ++ [x6] ++ [x7] ++ [x8]).set (h.length + 1 + 1 + 1 + 1 + 1 + 1 + 1 + 1) y = h ++ [x0] ++ [x1] ++ [x2] ++ [x3] ++ [x4] ++ [x5] ++ [x6] ++ [x7] ++ [y] := by
 simp [Nat.add_assoc]
theorem bj98 (h j : AHeap) (x0 x1 x2 x3 x4 x5 x6 x7 x8 : Option ABlk) : (h ++ [x0] ++ [x1] ++ [x2] ++ [x3] ++ [x4] ++ [x5] ++ [x6] ++ [x7] ++ [x8] ++ j)[h.length + 1 + 1 + 1 + 1 + 1 + 1 + 1 + 1]? = some x8 :=
 (List.getElem?_append_left (by simp)).trans (bx98 h x0 x1 x2 x3 x4 x5 x6 x7 x8)
theorem sj98 (h j : AHeap) (x0 x1 x2 x3 x4 x5 x6 x7 x8 y : Option ABlk) : (h ++ [x0] ++ [x1] ++ [x2] ++ [x3] ++ [x4] ++ [x5] ++ [x6] ++ [x7] ++ [x8] ++ j).set (h.length + 1 + 1 + 1 + 1 + 1 + 1 + 1 + 1) y = h ++ [x0] ++ [x1] ++ [x2] ++ [x3] ++ [x4] ++ [x5] ++ [x6] ++ [x7] ++ [y] ++ j :=
 (List.set_append_left _ _ (by simp)).trans (congrArg (· ++ j) (sx98 h x0 x1 x2 x3 x4 x5 x6 x7 x8 y))
attribute [go_sem] bj10 sj10 bj20 sj20 bj21 sj21 bj30 sj30 bj31 sj31 bj32 sj32 bj40 sj40 bj41 sj41 bj42 sj42 bj43 sj43 bj50 sj50 bj51 sj51 bj52 sj52 bj53 sj53 bj54 sj54 bx60 sx60 bj60 sj60 bx61 sx61 bj61 sj61 bx62 sx62 bj62 sj62 bx63 sx63 bj63 sj63 bx64 sx64 bj64 sj64 bx65 sx65 bj65 sj65 bx70 sx70 bj70 sj70 bx71 sx71 bj71 sj71 bx72 sx72 bj72 sj72 bx73 sx73 bj73 sj73 bx74 sx74 bj74 sj74 bx75 sx75 bj75 sj75 bx76 sx76 bj76 sj76 bx80 sx80 bj80 sj80 bx81 sx81 bj81 sj81 bx82 sx82 bj82 sj82 bx83 sx83 bj83 sj83 bx84 sx84 bj84 sj84 bx85 sx85 bj85 sj85 bx86 sx86 bj86 sj86 bx87 sx87 bj87 sj87 bx90 sx90 bj90 sj90 bx91 sx91 bj91 sj91 bx92 sx92 bj92 sj92 bx93 sx93 bj93 sj93 bx94 sx94 bj94 sj94 bx95 sx95 bj95 sj95 bx96 sx96 bj96 sj96 bx97 sx97 bj97 sj97 bx98 sx98 bj98 sj98
end Glb
namespace Glb
open Go
section
variable {F : Nat -> Prop} {h : AHeap} {G : Gh} {w : World}
end
end Glb
namespace Glb
open Go
theorem freeR_three (dep : Nat -> Nat -> Bool) (lo i : Nat) (l : List (Nat × Nat × ABlk)) (h : AHeap) :
  freeR dep lo 3 i l h = ((((l.any fun x => dep i x.1 && x.2.1 == lo) || isFree h[lo]?) && ((l.any fun x => dep i x.1 && x.2.1 == lo + 1) || isFree h[lo + 1]?)) && ((l.any fun x => dep i x.1 && x.2.1 == lo + 1 + 1) || isFree h[lo + 1 + 1]?)) := by
 simp [freeR, List.range_succ, Bool.and_assoc, Nat.add_assoc]
attribute [go_sem] freeR_three
end Glb
