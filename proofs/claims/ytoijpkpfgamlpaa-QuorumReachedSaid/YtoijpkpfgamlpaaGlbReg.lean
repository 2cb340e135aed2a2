/-
  A library of its own, for whatever program: regions whose order is drawn.
-/
import Derived.Test.YtoijpkpfgamlpaaGlbCode
import Derived.Orders
set_option linter.unusedSimpArgs false
set_option linter.unusedVariables false
namespace Glb
open Go

/-! a block laid at a name that was kept free -/

def Gh.put (G : Gh) (nm b : Nat) : Gh :=
  { G with loc := fun n => if n = nm then some b else G.loc n, live := fun n => G.live n ∨ n = nm }

theorem Gam.keepsPut {G w h} (g : Gam G w h) {nm : Nat} (hl : G.loc nm = none) (hn : ¬ G.nil nm) (o : Obj) : Keeps G w (G.put nm w.heap.size) (w.alloc o) where
  N := Nat.le_refl _
  loc n b hlt hb := by
    by_cases e : n = nm
    · subst e; rw [hl] at hb; cases hb
    · simp only [Gh.put, e, if_false]; exact hb
  nil n _ h := h
  prot t b hp := by cases t <;> exact hp
  heap t b hp := heap_alloc (g.protLt hp)
  shape b hb := shape_alloc hb

theorem Gam.gamPut {G w h} (g : Gam G w h) {nm : Nat} (hlt : nm < G.N) (hh : h[nm]? = some none) (hl : G.loc nm = none) (hn : ¬ G.nil nm)
    {cells : Array Value} {ty : TypeId} {sz : Nat} {es : List (List AV)} {gr : Bool}
    (hsz : okes sz es) (hle : es.length * sz ≤ cells.size) (hgr : gr = false → cells.size = es.length * sz)
    (hV : ∀ i j c, getc es i j = some c → ∃ v, cells[i * sz + j]? = some v ∧ V G w c v) :
    Gam (G.put nm w.heap.size) (w.alloc (.cells cells ty)) (h.set nm (some (.arr sz es gr))) := by
  have k := g.keepsPut hl hn (.cells cells ty)
  have hltH : nm < h.length := by rw [g.len]; exact hlt
  have locN : (G.put nm w.heap.size).loc nm = some w.heap.size := by simp [Gh.put]
  have locO : ∀ n, n ≠ nm → (G.put nm w.heap.size).loc n = G.loc n := fun n hn => by simp [Gh.put, hn]
  have liveO : ∀ n, n ≠ nm → ((G.put nm w.heap.size).live n ↔ G.live n) := fun n hn => ⟨fun h => h.resolve_right hn, .inl⟩
  have old : ∀ n, n ≠ nm → (h.set nm (some (.arr sz es gr)))[n]? = h[n]? := fun n hn => List.getElem?_set_ne (fun e => hn e.symm)
  have new : (h.set nm (some (.arr sz es gr)))[nm]? = some (some (.arr sz es gr)) := List.getElem?_set_self hltH
  refine { len := by simp [Gh.put, g.len], live := ?_, tag := ?_, inj := ?_, liveTag := ?_, liveS := ?_, tagInj := g.tagInj, tagS := g.tagS,
           tagLt := ?_, sLt := ?_, arr := ?_, nil := ?_, nilLoc := ?_ }
  · intro n
    by_cases e : n = nm
    · subst e; exact ⟨fun _ => ⟨⟨_, _, _, new⟩, _, locN⟩, fun _ => .inr rfl⟩
    · rw [liveO n e, locO n e, old n e]; exact g.live n
  · intro n b hb
    have e : n ≠ nm := by rintro rfl; rw [g.tag _ _ hb] at hh; cases hh
    rw [old n e]; exact g.tag n b hb
  · intro n m b hn hm hbn hbm
    by_cases h1 : n = nm <;> by_cases h2 : m = nm
    · rw [h1, h2]
    · subst h1; rw [locN] at hbn; rw [locO m h2] at hbm; cases hbn
      exact absurd (g.locLt ((liveO m h2).1 hm) hbm) (Nat.lt_irrefl _)
    · subst h2; rw [locN] at hbm; rw [locO n h1] at hbn; cases hbm
      exact absurd (g.locLt ((liveO n h1).1 hn) hbn) (Nat.lt_irrefl _)
    · rw [locO n h1] at hbn; rw [locO m h2] at hbm
      exact g.inj n m b ((liveO n h1).1 hn) ((liveO m h2).1 hm) hbn hbm
  · intro n m b hn hb ht
    by_cases h1 : n = nm
    · subst h1; rw [locN] at hb; cases hb; exact Nat.lt_irrefl _ (g.tagLt m _ ht)
    · rw [locO n h1] at hb; exact g.liveTag n m b ((liveO n h1).1 hn) hb ht
  · intro n b hn hb hs
    by_cases h1 : n = nm
    · subst h1; rw [locN] at hb; cases hb; exact Nat.lt_irrefl _ (g.sLt _ hs)
    · rw [locO n h1] at hb; exact g.liveS n b ((liveO n h1).1 hn) hb hs
  · intro n b hb; have := g.tagLt n b hb; simp; omega
  · intro b hb; have := g.sLt b hb; simp; omega
  · intro n sz' es' gr' b hq hb
    by_cases h1 : n = nm
    · subst h1
      rw [new] at hq
      obtain ⟨rfl, rfl, rfl⟩ : sz = sz' ∧ es = es' ∧ gr = gr' := by simpa using hq
      rw [locN] at hb; cases hb
      exact ⟨⟨cells, ty, heap_alloc_new, hle, hgr, fun i j c hj => let ⟨v, hv, hV⟩ := hV i j c hj; ⟨v, hv, hV.keep k⟩⟩, hsz⟩
    · rw [old n h1] at hq; rw [locO n h1] at hb
      exact (g.arr n sz' es' gr' b hq hb).keep k (heap_alloc (g.locLt (g.mkLive hq hb) hb))
  · intro n sz' es' gr' hq hb
    by_cases h1 : n = nm
    · subst h1; rw [locN] at hb; cases hb
    · rw [old n h1] at hq; rw [locO n h1] at hb; exact g.nil n sz' es' gr' hq hb
  · intro n hnn
    by_cases h1 : n = nm
    · subst h1; exact absurd hnn hn
    · rw [locO n h1]; exact g.nilLoc n hnn

theorem Stp.put {G0 w0 G w h} (s : Stp G0 w0 G w) (g : Gam G w h) {nm : Nat} (h0 : G0.N ≤ nm) (hl : G.loc nm = none) (hn : ¬ G.nil nm) (c : Array Value) (t : TypeId) :
    Stp G0 w0 (G.put nm w.heap.size) (w.alloc (.cells c t)) where
  rest := s.rest.trans (Rest.alloc w c t)
  keep := s.keep.trans (g.keepsPut hl hn _)
  S := s.S
  locEq n hlt := by
    have : n ≠ nm := by omega
    simp only [Gh.put, this, if_false]; exact s.locEq n hlt
  nilEq := s.nilEq
  size := by have := s.size; simp; omega
  frame b hb hno := by rw [heap_alloc (Nat.lt_of_lt_of_le hb s.size)]; exact s.frame b hb hno
  own b hb := by
    rcases hb with ⟨n, hlive, he⟩ | ⟨n, ht⟩
    · by_cases e : n = nm
      · simp only [Gh.put, e, if_true, Option.some.injEq] at he
        exact .inr (by have := s.size; omega)
      · simp only [Gh.put, e, if_false] at he
        exact s.own b (.inl ⟨n, hlive.resolve_right e, he⟩)
    · exact s.own b (.inr ⟨n, ht⟩)

/-! names kept free -/

def Gh.reserve (G : Gh) (k : Nat) : Gh :=
  { G with N := G.N + k, loc := fun n => if n < G.N then G.loc n else none, nil := fun n => n < G.N ∧ G.nil n }

theorem Gam.ltLive {G w h} (g : Gam G w h) {n} (hn : G.live n) : n < G.N := by
  obtain ⟨⟨_, _, _, hh⟩, _⟩ := (g.live n).1 hn
  exact g.ltN hh

theorem append_none {h : AHeap} {k n : Nat} {x : ABlk} : (h ++ List.replicate k none)[n]? = some (some x) ↔ h[n]? = some (some x) := by
  rcases Nat.lt_or_ge n h.length with hl | hl
  · rw [List.getElem?_append_left hl]
  · rw [List.getElem?_append_right hl, List.getElem?_eq_none hl, List.getElem?_replicate]
    split <;> simp

theorem Gam.reserve {G w h} (g : Gam G w h) (k : Nat) : Gam (G.reserve k) w (h ++ List.replicate k none) ∧ Stp G w (G.reserve k) w := by
  have loc : ∀ n, n < G.N → (G.reserve k).loc n = G.loc n := fun n hn => by simp [Gh.reserve, hn]
  have kp : Keeps G w (G.reserve k) w := ⟨Nat.le_add_right _ _, fun n b hn hb => by rw [loc n hn]; exact hb, fun n hn hb => ⟨hn, hb⟩, fun t b h => by cases t <;> exact h, fun _ _ _ => rfl, fun _ _ => rfl⟩
  have locL : ∀ n b, G.live n → (G.reserve k).loc n = some b → G.loc n = some b := fun n b hn hb => by rw [loc n (g.ltLive hn)] at hb; exact hb
  refine ⟨{ len := by simp [Gh.reserve, g.len], live := ?_, tag := ?_, inj := fun n m b hn hm h1 h2 => g.inj n m b hn hm (locL n b hn h1) (locL m b hm h2),
            liveTag := fun n m b hn hb => g.liveTag n m b hn (locL n b hn hb), liveS := fun n b hn hb => g.liveS n b hn (locL n b hn hb), tagInj := g.tagInj, tagS := g.tagS,
            tagLt := g.tagLt, sLt := g.sLt, arr := ?_, nil := ?_, nilLoc := ?_ },
    ⟨kp, ⟨fun _ h => h, fun _ h => .inl h⟩, loc, fun n hn => ⟨fun h => h.2, fun h => ⟨hn, h⟩⟩, Nat.le_refl _, fun _ _ _ => rfl, fun b hb => ?_, Rest.refl w⟩⟩
  · intro n
    constructor
    · intro hn
      obtain ⟨⟨a, b, c, hh⟩, hb⟩ := (g.live n).1 hn
      exact ⟨⟨a, b, c, append_none.2 hh⟩, by rw [loc n (g.ltLive hn)]; exact hb⟩
    · rintro ⟨⟨a, b, c, hh⟩, hb⟩
      have hh' := append_none.1 hh
      rw [loc n (g.ltN hh')] at hb
      exact (g.live n).2 ⟨⟨a, b, c, hh'⟩, hb⟩
  · intro n b hb; exact append_none.2 (g.tag n b hb)
  · intro n sz es gr b hh hb
    have hh' := append_none.1 hh
    rw [loc n (g.ltN hh')] at hb
    exact (g.arr n sz es gr b hh' hb).keep kp rfl
  · intro n sz es gr hh hb
    have hh' := append_none.1 hh
    rw [loc n (g.ltN hh')] at hb
    exact g.nil n sz es gr hh' hb
  · rintro n ⟨hn, hb⟩
    rw [loc n hn]; exact g.nilLoc n hb
  · rcases hb with ⟨n, hn, he⟩ | ⟨n, hn⟩
    · exact .inl (.inl ⟨n, hn, locL n b hn he⟩)
    · exact .inl (.inr ⟨n, hn⟩)

/-! a block of ours that is kept aside while something else goes on -/

def Gh.revive (G : Gh) (nm : Nat) : Gh := { G with live := fun m => G.live m ∨ m = nm }

theorem Gam.aside {G w h nm sz es gr b G' w' h'} (g : Gam G w h) (hh : h[nm]? = some (some (.arr sz es gr))) (hb : G.loc nm = some b)
    (s : Stp (G.kill nm) w G' w') (g' : Gam G' w' h') (hn : h'[nm]? = some none) :
    Gam (G'.revive nm) w' (h'.set nm (some (.arr sz es gr))) ∧ Stp G w (G'.revive nm) w' := by
  have hl := g.mkLive hh hb
  have hltN := g.ltN hh
  have hlt : nm < h'.length := (List.getElem?_eq_some_iff.1 hn).1
  have hbl := g.locLt hl hb
  have hb' : G'.loc nm = some b := by rw [s.locEq nm hltN]; exact hb
  have hnot : ¬ (G.kill nm).owned b := by
    rintro (⟨m, hm, he⟩ | ⟨m, hm⟩)
    · exact hm.2 (g.inj m nm b hm.1 hl he hb)
    · exact g.liveTag nm m b hl hb hm
  have hnot' : ¬ G'.owned b := by
    intro ho
    rcases s.own b ho with h | h
    · exact hnot h
    · omega
  have hheap := s.frame b hbl hnot
  have kk : Keeps G' w' (G'.revive nm) w' := ⟨Nat.le_refl _, fun _ _ _ h => h, fun _ _ h => h, fun t b h => by cases t <;> exact h, fun _ _ _ => rfl, fun _ _ => rfl⟩
  have new : (h'.set nm (some (.arr sz es gr)))[nm]? = some (some (.arr sz es gr)) := List.getElem?_set_self hlt
  have old : ∀ n, n ≠ nm → (h'.set nm (some (.arr sz es gr)))[n]? = h'[n]? := fun n hn => List.getElem?_set_ne (fun e => hn e.symm)
  have kG : Keeps G w (G'.revive nm) w' := ((G.keepsKill w nm).trans s.keep).trans kk
  have hS : ¬ G'.S b := fun hs => (s.S.2 b hs).elim (g.liveS nm b hl hb) (fun h => absurd hbl (Nat.not_lt.2 h))
  have hT : ∀ m, ¬ G'.tag m b := fun m ht => hnot' (.inr ⟨m, ht⟩)
  have hLv : ∀ m, G'.live m → G'.loc m ≠ some b := fun m hm he => hnot' (.inl ⟨m, hm, he⟩)
  refine ⟨{ len := by simp [Gh.revive, g'.len], live := ?_, tag := ?_, inj := ?_, liveTag := ?_, liveS := ?_, tagInj := g'.tagInj, tagS := g'.tagS, tagLt := g'.tagLt, sLt := g'.sLt,
            arr := ?_, nil := ?_, nilLoc := g'.nilLoc },
    ⟨kG, s.S, s.locEq, s.nilEq, s.size, fun x hx ho => s.frame x hx (fun hk => ho ?_), fun x hx => ?_, s.rest⟩⟩
  · intro n
    by_cases e : n = nm
    · subst e; exact ⟨fun _ => ⟨⟨_, _, _, new⟩, _, hb'⟩, fun _ => .inr rfl⟩
    · rw [old n e]; exact ⟨fun h => (g'.live n).1 (h.resolve_right e), fun h => .inl ((g'.live n).2 h)⟩
  · intro n x hx
    have e : n ≠ nm := by rintro rfl; rw [g'.tag _ _ hx] at hn; cases hn
    rw [old n e]; exact g'.tag n x hx
  · intro n m x hn hm h1 h2
    by_cases e1 : n = nm <;> by_cases e2 : m = nm
    · rw [e1, e2]
    · subst e1; have h1' : some b = some x := hb'.symm.trans h1
      cases h1'; exact absurd h2 (hLv m (hm.resolve_right e2))
    · subst e2; have h2' : some b = some x := hb'.symm.trans h2
      cases h2'; exact absurd h1 (hLv n (hn.resolve_right e1))
    · exact g'.inj n m x (hn.resolve_right e1) (hm.resolve_right e2) h1 h2
  · intro n m x hn h1 ht
    by_cases e1 : n = nm
    · subst e1; have h1' : some b = some x := hb'.symm.trans h1
      cases h1'; exact hT m ht
    · exact g'.liveTag n m x (hn.resolve_right e1) h1 ht
  · intro n x hn h1 hs
    by_cases e1 : n = nm
    · subst e1; have h1' : some b = some x := hb'.symm.trans h1
      cases h1'; exact hS hs
    · exact g'.liveS n x (hn.resolve_right e1) h1 hs
  · intro n sz' es' gr' x hq h1
    by_cases e1 : n = nm
    · subst e1
      rw [new] at hq
      obtain ⟨rfl, rfl, rfl⟩ : sz = sz' ∧ es = es' ∧ gr = gr' := by simpa using hq
      have h1' : some b = some x := hb'.symm.trans h1
      cases h1'
      exact (g.arr n sz es gr b hh hb).keep kG hheap
    · rw [old n e1] at hq
      exact (g'.arr n sz' es' gr' x hq h1).keep kk rfl
  · intro n sz' es' gr' hq h1
    by_cases e1 : n = nm
    · subst e1; have h1' : none = some b := h1.symm.trans hb'
      cases h1'
    · rw [old n e1] at hq; exact g'.nil n sz' es' gr' hq h1
  · rcases hk with ⟨m, hm, he⟩ | ⟨m, hm⟩
    · exact .inl ⟨m, hm.1, he⟩
    · exact .inr ⟨m, hm⟩
  · rcases hx with ⟨m, hm, he⟩ | ⟨m, hm⟩
    · by_cases e : m = nm
      · subst e; have h1' : some b = some x := hb'.symm.trans he
        cases h1'; exact .inl (.inl ⟨m, hl, hb⟩)
      · rcases s.own x (.inl ⟨m, hm.resolve_right e, he⟩) with h | h
        · rcases h with ⟨q, hq, he'⟩ | ⟨q, hq⟩
          · exact .inl (.inl ⟨q, hq.1, he'⟩)
          · exact .inl (.inr ⟨q, hq⟩)
        · exact .inr h
    · rcases s.own x (.inr ⟨m, hm⟩) with h | h
      · rcases h with ⟨q, hq, he'⟩ | ⟨q, hq⟩
        · exact .inl (.inl ⟨q, hq.1, he'⟩)
        · exact .inl (.inr ⟨q, hq⟩)
      · exact .inr h

end Glb
