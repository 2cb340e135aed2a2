/-
  A library of its own: its parts, one behind the other.
-/
import Derived.Test.YtodbhmdfmdfiaaaGlbImgB
import Derived.Test.YtodbhmdfmdfiaaaGlbImgD
import Derived.Test.YtodbhmdfmdfiaaaGlbLogA
set_option linter.unusedSimpArgs false
set_option linter.unusedVariables false
/-
  A clipped list that is appended to: its row stays.
-/
namespace Glb
open Go

theorem splice_nil (es : List (List AV)) (p : Nat) : splice es p [] = es := by simp [splice]
theorem set_self {h : AHeap} {n : Nat} {x : Option ABlk} (hn : h[n]? = some x) : h.set n x = h := by
  apply List.ext_getElem?
  intro i
  rw [List.getElem?_set]
  split
  · rename_i e; subst e; rw [hn]; simp [(List.getElem?_eq_some_iff.1 hn).1]
  · rfl

theorem app_clip {h h' : AHeap} {sz bytes : Nat} {av av' : AV} {ys : List (List AV)} (hfull : ∀ n off len cap, av = .ref n sz off len cap → cap = some len) (e : aappendY h sz bytes av ys = some (av', h')) : Ext nof h h' := by
  have a1 : ∀ es, Ext nof h (append1 h sz es).2 := fun es => Ext.app _ _ _
  cases av with
  | nils =>
    simp only [aappendY] at e
    split at e
    · cases e; exact a1 _
    · cases e
  | vals t clip sz' es =>
    simp only [aappendY] at e
    split at e
    · split at e
      · cases e; exact Ext.refl _ _
      · split at e
        · cases e; exact a1 _
        · cases e
    · cases e
  | ref n sz' off len cap =>
    simp only [aappendY] at e
    split at e
    · rename_i sz'' es g hrow
      split at e
      · rename_i hc
        obtain ⟨h1, h2, h3, h4⟩ := hc
        subst h1
        obtain rfl := hfull _ _ _ _ rfl
        cases len with
        | zero =>
          simp only [if_true] at e
          split at e
          · cases e; exact Ext.refl _ _
          · cases e; exact a1 _
        | succ c =>
          simp only at e
          split at e
          · cases e; exact a1 _
          · have : ys = [] := List.eq_nil_of_length_eq_zero (by omega)
            subst this
            split at e
            · cases e
              rw [splice_nil, set_self (by rw [hrow, h2])]
              exact Ext.refl _ _
            · cases e
      · cases e
    · cases e
  | _ => simp [aappendY] at e

theorem clip_full {sz : Nat} {av av' : AV} {k : Int} (e : aslice sz av none (some k) (some k) = some av') : ∀ n off len cap, av' = .ref n sz off len cap → cap = some len := by
  intro n off len cap ha
  subst ha
  cases av with
  | nils => simp [aslice] at e
  | vals t clip sz' es => simp only [aslice] at e; split at e <;> cases e
  | ref m sz' off' len' cap' =>
    simp only [aslice, Option.getD_none, Option.getD_some, if_true] at e
    split at e
    · simp only [Option.some.injEq, AV.ref.injEq, sliceCap] at e
      obtain ⟨_, _, _, e1, e2⟩ := e
      rw [← e2, ← e1]; simp
    · cases e
  | _ => simp [aslice] at e

theorem own_appC {sz bytes : Nat} {F G : Nat → Prop} {ds es : List (List D)} {h0 h : AHeap} {av : AV} {ys : List (List AV)} (ho : Own (.sl sz ds) F h0 av) (hc : canApp h0 av) (hfull : ∀ n off len cap, av = .ref n sz off len cap → cap = some len)
    (hx : Ext nof h0 h) (hy : OwnLL es G h ys) (hN : ∀ n off len cap, av = .ref n sz off len cap → ¬ G n) (hb : (ds.length + es.length) * bytes ≤ 2 ^ 46) :
    ∃ av' h', aappendY h sz bytes av ys = some (av', h') ∧ Own (.sl sz (ds ++ es)) (fun m => F m ∨ G m ∨ h.length ≤ m) h' av' ∧ canApp h' av' ∧ Ext nof h h' := by
  obtain ⟨av', h', s1, s2, s3, s4, s5⟩ := own_appG (bytes := bytes) (F := fun m => F m ∨ G m ∨ h.length ≤ m) (G := G) (Own.mono _ (fun m hm => .inl hm) (fun _ _ _ x => x) _ ho) hc hx hy (fun m hm => .inr (.inl hm)) hN (.inr (.inr (Nat.le_refl _))) hb
  exact ⟨av', h', s1, s2, s3, app_clip hfull s1⟩

end Glb

/-
  An item of a list of one's own is written.
-/
namespace Glb
open Go

theorem OwnLL_set {F : Nat → Prop} {h : AHeap} : ∀ {ds : List (List D)} {es : List (List AV)} (j : Nat) {d : List D} {cs : List AV}, OwnLL ds F h es → OwnL d F h cs → OwnLL (ds.set j d) F h (es.set j cs)
  | [], es, j, d, cs, hh, hd => by simp only [OwnLL] at hh; subst hh; simp [OwnLL]
  | e :: ds, es, 0, d, cs, hh, hd => by obtain ⟨a, r, rfl, h1, h2⟩ := hh; exact ⟨_, _, rfl, hd, h2⟩
  | e :: ds, es, j + 1, d, cs, hh, hd => by obtain ⟨a, r, rfl, h1, h2⟩ := hh; exact ⟨_, _, rfl, h1, OwnLL_set j h2 hd⟩
theorem OwnLL_at {F : Nat → Prop} {h : AHeap} : ∀ {ds : List (List D)} {es : List (List AV)} {j : Nat} {d : List D}, OwnLL ds F h es → ds[j]? = some d → ∃ cs, es[j]? = some cs ∧ OwnL d F h cs
  | [], es, j, d, hh, hd => by simp at hd
  | e :: ds, es, 0, d, hh, hd => by obtain ⟨a, r, rfl, h1, h2⟩ := hh; simp only [List.getElem?_cons_zero, Option.some.injEq] at hd; subst hd; exact ⟨a, rfl, h1⟩
  | e :: ds, es, j + 1, d, hh, hd => by obtain ⟨a, r, rfl, h1, h2⟩ := hh; simp only [List.getElem?_cons_succ] at hd ⊢; exact OwnLL_at h2 hd

theorem own_item {sz : Nat} {ds : List (List D)} {F : Nat → Prop} {h : AHeap} {a : AV} {j : Nat} {d0 : List D} (ho : Own (.sl sz ds) F h a) (hj : ds[j]? = some d0) :
    ∃ n off row g cs len cap, a = .ref n sz off len cap ∧ F n ∧ aindex sz a (.int .i64 j) = some (.ptr n sz (off + j) 0) ∧ h[n]? = some (some (.arr sz row g)) ∧ row[off + j]? = some cs ∧ OwnL d0 (fun m => F m ∧ m ≠ n) h cs ∧
      ∀ (F' : Nat → Prop) (h' : AHeap) (d : List D) (cs' : List AV), (∀ m, F m → F' m) → Keep (fun m => F m ∧ m ≠ n) h h' → h'[n]? = h[n]? → OwnL d (fun m => F' m ∧ m ≠ n) h' cs' → Own (.sl sz (ds.set j d)) F' (h'.set n (some (.arr sz (row.set (off + j) cs') g))) a := by
  have hjl := (List.getElem?_eq_some_iff.1 hj).1
  simp only [Own] at ho
  rcases ho with ⟨rfl, rfl⟩ | ⟨t, c, rfl, rfl⟩ | ⟨n, off, cap, row, g, rfl, hn, hrow, hle, hcl, hd⟩
  · simp at hjl
  · simp at hjl
  obtain ⟨cs, hc1, hc2⟩ := OwnLL_at hd hj
  rw [List.getElem?_take, if_pos hjl, List.getElem?_drop] at hc1
  refine ⟨n, off, row, g, cs, ds.length, cap, rfl, hn, ?_, hrow, hc1, hc2, fun F' h' d cs' hF hk hn' hd' => ?_⟩
  · simp only [aindex]; rw [if_pos ⟨trivial, by omega, by omega⟩]; simp
  · have hlt := (List.getElem?_eq_some_iff.1 (hn'.trans hrow)).1
    simp only [Own]
    refine .inr (.inr ⟨n, off, cap, _, g, by rw [List.length_set], hF _ hn, List.getElem?_set_self hlt, by rw [List.length_set, List.length_set]; exact hle, by rw [List.length_set]; exact hcl, ?_⟩)
    have e : ((row.set (off + j) cs').drop off).take (ds.set j d).length = ((row.drop off).take ds.length).set j cs' := by
      rw [List.length_set]
      apply List.ext_getElem?
      intro i
      simp only [List.getElem?_take, List.getElem?_drop, List.getElem?_set, List.length_take, List.length_drop]
      by_cases e1 : i < ds.length
      · rw [if_pos e1]
        by_cases e2 : j = i
        · subst e2
          rw [if_pos rfl, if_pos rfl, if_pos (by omega), if_pos (by omega)]
        · rw [if_neg (by omega), if_neg e2, if_pos e1]
      · rw [if_neg e1, if_neg (by omega), if_neg e1]
    rw [e]
    have hd1 : OwnLL ds (fun m => F' m ∧ m ≠ n) h' ((row.drop off).take ds.length) := OwnLL.mono _ (fun m x => ⟨hF _ x.1, x.2⟩) hk _ hd
    exact OwnLL.mono _ (fun _ x => x) (fun m hm y hy => by rw [List.getElem?_set_ne (fun e => hm.2 e.symm)]; exact hy) _ (OwnLL_set j hd1 hd')

end Glb

/-
  A Hard behind a change.
-/
namespace Glb
open Go
set_option maxRecDepth 10000
set_option maxHeartbeats 16000000

def Hard.snapped (x : Hard) (c : Change) : Log := if x.log.has c.log.base = true ∧ x.log.term c.log.base = c.log.bterm then x.log.cut c.log.base else ⟨c.log.base, c.log.bterm, []⟩
/-- a Hard behind a change -/
def Hard.turned (x : Hard) (c : Change) : Hard × Int :=
  if c.kind = 1 then ({ x with term := c.term, vote := c.voted }, 0)
  else if c.kind = 2 then (if c.from_ ≤ x.log.base ∨ x.log.last + 1 < c.from_ then (x, 3) else ({ x with log := ⟨x.log.base, x.log.bterm, x.log.es.take (c.from_ - x.log.base - 1).toNat ++ c.log.es⟩ }, 0))
  else if c.kind = 3 then ({ x with log := x.snapped c, conf := c.conf, snap := c.snap }, 0)
  else (x, 0)

def Change.cells (x : Change) (e o n l s : AV) : List AV := [.int .i64 x.kind, .int .i64 x.group, .int .i64 x.term, .int .i64 x.voted, .int .i64 x.from_, .int .i64 x.log.base, .int .i64 x.log.bterm, e, o, n, l, s, .int .i64 x.vote.txn, .int .i64 x.vote.part, .int .i64 x.vote.promised, .int .i64 x.vote.ballot, .int .i64 x.vote.value]

theorem own_hardL {x : Hard} {F : Nat → Prop} {h : AHeap} {a : List AV} (hh : OwnL x.c F h a) : ∃ e o n l s, a = x.cells e o n l s ∧ Own (dEntries x.log.es) F h e ∧ Own (dInts x.conf.old) F h o ∧ Own (dInts x.conf.new) F h n ∧ Own (dInts x.conf.learners) F h l ∧ Own (dBytes x.snap) F h s := by
  simp only [Hard.c, OwnL] at hh
  obtain ⟨_, _, rfl, h1, _, _, rfl, h2, _, _, rfl, h3, _, _, rfl, h4, _, _, rfl, h5, e, _, rfl, he, o, _, rfl, ho, n, _, rfl, hn, l, _, rfl, hl, s, _, rfl, hs, rfl⟩ := hh
  simp only [Own] at h1 h2 h3 h4 h5
  subst h1 h2 h3 h4 h5
  exact ⟨e, o, n, l, s, rfl, he, ho, hn, hl, hs⟩
theorem own_changeL {x : Change} {F : Nat → Prop} {h : AHeap} {a : List AV} (hh : OwnL x.c F h a) : ∃ e o n l s, a = x.cells e o n l s ∧ Own (dEntries x.log.es) F h e ∧ Own (dInts x.conf.old) F h o ∧ Own (dInts x.conf.new) F h n ∧ Own (dInts x.conf.learners) F h l ∧ Own (dBytes x.snap) F h s := by
  simp only [Change.c, OwnL] at hh
  obtain ⟨_, _, rfl, h1, _, _, rfl, h2, _, _, rfl, h3, _, _, rfl, h4, _, _, rfl, h5, _, _, rfl, h6, _, _, rfl, h7, e, _, rfl, he, o, _, rfl, ho, n, _, rfl, hn, l, _, rfl, hl, s, _, rfl, hs, _, _, rfl, g1, _, _, rfl, g2, _, _, rfl, g3, _, _, rfl, g4, _, _, rfl, g5, rfl⟩ := hh
  simp only [Own] at h1 h2 h3 h4 h5 h6 h7 g1 g2 g3 g4 g5
  subst h1 h2 h3 h4 h5 h6 h7 g1 g2 g3 g4 g5
  exact ⟨e, o, n, l, s, rfl, he, ho, hn, hl, hs⟩
theorem hard_own {x : Hard} {F : Nat → Prop} {h : AHeap} {e o n l s : AV} (he : Own (dEntries x.log.es) F h e) (ho : Own (dInts x.conf.old) F h o) (hn : Own (dInts x.conf.new) F h n) (hl : Own (dInts x.conf.learners) F h l) (hs : Own (dBytes x.snap) F h s) : OwnL x.c F h (x.cells e o n l s) :=
  ⟨_, _, rfl, own_i64 _ _ _, _, _, rfl, own_i64 _ _ _, _, _, rfl, own_i64 _ _ _, _, _, rfl, own_i64 _ _ _, _, _, rfl, own_i64 _ _ _, _, _, rfl, he, _, _, rfl, ho, _, _, rfl, hn, _, _, rfl, hl, _, _, rfl, hs, rfl⟩

theorem own_els {F : Nat → Prop} {sz : Nat} {ds : List (List D)} {h : AHeap} {a : AV} (ho : Own (.sl sz ds) F h a) : ∃ ys, aelems h sz a = some ys ∧ OwnLL ds F h ys := by
  simp only [Own] at ho
  rcases ho with ⟨rfl, rfl⟩ | ⟨t, c, rfl, rfl⟩ | ⟨n, off, cap, row, g, rfl, hn, hrow, hle, hcl, hd⟩
  · exact ⟨[], rfl, rfl⟩
  · exact ⟨[], by simp [aelems], rfl⟩
  · refine ⟨(row.drop off).take ds.length, by simp only [aelems, hrow]; rw [if_pos ⟨trivial, trivial, hle⟩], OwnLL.mono _ (fun m hm => hm.1) (fun _ _ _ x => x) _ hd⟩
theorem own_refG {F : Nat → Prop} {sz sz' : Nat} {ds : List (List D)} {h : AHeap} {n off len : Nat} {cap : Option Nat} (ho : Own (.sl sz ds) F h (.ref n sz' off len cap)) : F n := by
  simp only [Own] at ho
  rcases ho with ⟨e, -⟩ | ⟨t, c, e, -⟩ | ⟨n', off', cap', row, g, e, hn, -⟩
  · cases e
  · cases e
  · cases e; exact hn
def TurnOk (P : Program) (f : FuncId) : Prop := isFn P f = true ∧ ∀ (F G : Nat → Prop) (h : AHeap) (x : Hard) (c : Change) (as cs : List AV), OwnL x.c F h as → OwnL c.c G h cs → (∀ m, F m → ¬ G m) → LogOk x.log → c.log.es.length ≤ 2^32 →
  ACalls P f [.agg as, .agg cs] h fun r h' => ∃ rs, r = .tup [.agg rs, .int .i64 (x.turned c).2] ∧ OwnL (x.turned c).1.c (fun m => F m ∨ G m ∨ h.length ≤ m) h' rs ∧ Ext nof h h'

theorem turn_ok {P : Program} {f la te cu : FuncId} (hf : Is P f (c_image_turn la te cu)) (hla : LastOk P la) (hte : TermOk P te) (hcu : CutOk P cu) : TurnOk P f := by
  refine ⟨hf.2, fun F G h x c as cs hx hc hd hok hce => fun_sound hf.1 (Nat.le_of_ble_eq_true rfl) ?_⟩
  obtain ⟨e, o, n, l, s, rfl, he, ho, hn, hl, hs⟩ := own_hardL hx
  obtain ⟨e', o', n', l', s', rfl, he', ho', hn', hl', hs'⟩ := own_changeL hc
  show vc P (c_image_turn la te cu).code ⟨[(0, .agg (x.cells e o n l s)), (1, .agg (c.cells e' o' n' l' s'))], [], h⟩ (atEnd (c_image_turn la te cu).res _)
  have c10 : (x.cells e o n l s).length = 10 := rfl
  simp only [c_image_turn, Hard.cells, Change.cells, go_sem, reduceIte, Nat.reduceEqDiff, Nat.reduceAdd, Nat.reduceLeDiff, Nat.reducePow, Nat.reduceDiv, Nat.reduceMod, decide_true, he.scalar, ho.scalar, hn.scalar, hl.scalar, hs.scalar, he'.scalar, ho'.scalar, hn'.scalar, hl'.scalar, hs'.scalar]
  have X3 := Ext.b3 (h := h) (some (.arr 10 [x.cells e o n l s] false)) (some (.arr 17 [c.cells e' o' n' l' s'] false)) (some (.arr 10 [[.int .i64 0, .int .i64 0, .int .i64 0, .int .i64 0, .int .i64 0, .nils, .nils, .nils, .nils, .nils]] false))
  have upF : ∀ {H : AHeap} (d : D) (a : AV), Ext nof h H → Own d F h a → Own d (fun m => F m ∨ G m ∨ h.length ≤ m) H a := fun d a ex hh => Own.mono _ (fun m hm => .inl hm) (ex.keep F) _ hh
  have upG : ∀ {H : AHeap} (d : D) (a : AV), Ext nof h H → Own d G h a → Own d (fun m => F m ∨ G m ∨ h.length ≤ m) H a := fun d a ex hh => Own.mono _ (fun m hm => .inr (.inl hm)) (ex.keep G) _ hh
  obtain ⟨b0, b1, hsm⟩ := hok
  have hsl := hsm.1
  have hlast : x.log.last = x.log.base + x.log.es.length := rfl
  by_cases k1 : c.kind = 1
  · simp only [go_sem, reduceIte, Nat.reduceEqDiff, Nat.reduceAdd, Nat.reduceLeDiff, Nat.reducePow, Nat.reduceDiv, Nat.reduceMod, decide_true, decide_eq_true k1, he.scalar, ho.scalar, hn.scalar, hl.scalar, hs.scalar]
    have eg : x.turned c = ({ x with term := c.term, vote := c.voted }, 0) := by simp [Hard.turned, k1]
    rw [eg]
    exact ⟨_, rfl, hard_own (x := { x with term := c.term, vote := c.voted }) (upF _ _ (Ext.b3 _ _ _) he) (upF _ _ (Ext.b3 _ _ _) ho) (upF _ _ (Ext.b3 _ _ _) hn) (upF _ _ (Ext.b3 _ _ _) hl) (upF _ _ (Ext.b3 _ _ _) hs), Ext.b3 _ _ _⟩
  by_cases k2 : c.kind = 2
  · simp only [go_sem, reduceIte, Nat.reduceEqDiff, Nat.reduceAdd, Nat.reduceLeDiff, Nat.reducePow, Nat.reduceDiv, Nat.reduceMod, decide_true, decide_eq_false k1, decide_eq_true k2, he.scalar]
    have hR : RdL (fun _ => True) _ x.log.c [.int .i64 x.log.base, .int .i64 x.log.bterm, e] := ⟨_, _, rfl, by simp only [Rd], _, _, rfl, by simp only [Rd], _, _, rfl, Own.rd _ (F' := fun _ => True) (fun _ _ => trivial) _ (upF _ _ X3 he), rfl⟩
    refine use1 hla.1 (hla.2 _ _ x.log _ hR ⟨b0, b1, hsm⟩) ?_
    have e1 : IntKind.i64.wrap (x.log.last + 1) = x.log.last + 1 := wrap_i64 (by omega)
    simp only [go_sem, reduceIte, Nat.reduceEqDiff, Nat.reduceAdd, Nat.reduceLeDiff, Nat.reducePow, Nat.reduceDiv, Nat.reduceMod, decide_true]
    by_cases c1 : c.from_ ≤ x.log.base
    · simp only [go_sem, reduceIte, Nat.reduceEqDiff, Nat.reduceAdd, Nat.reduceLeDiff, Nat.reducePow, Nat.reduceDiv, Nat.reduceMod, decide_true, decide_eq_true c1, he.scalar, ho.scalar, hn.scalar, hl.scalar, hs.scalar]
      have eg : x.turned c = (x, 3) := by simp [Hard.turned, k2, c1]
      rw [eg]
      exact ⟨_, rfl, hard_own (x := x) (upF _ _ (Ext.b3 _ _ _) he) (upF _ _ (Ext.b3 _ _ _) ho) (upF _ _ (Ext.b3 _ _ _) hn) (upF _ _ (Ext.b3 _ _ _) hl) (upF _ _ (Ext.b3 _ _ _) hs), Ext.b3 _ _ _⟩
    by_cases c2 : x.log.last + 1 < c.from_
    · simp only [go_sem, reduceIte, Nat.reduceEqDiff, Nat.reduceAdd, Nat.reduceLeDiff, Nat.reducePow, Nat.reduceDiv, Nat.reduceMod, decide_true, decide_eq_false c1, e1, decide_eq_true c2, he.scalar, ho.scalar, hn.scalar, hl.scalar, hs.scalar]
      have eg : x.turned c = (x, 3) := by simp [Hard.turned, k2, c2]
      rw [eg]
      exact ⟨_, rfl, hard_own (x := x) (upF _ _ (Ext.b3 _ _ _) he) (upF _ _ (Ext.b3 _ _ _) ho) (upF _ _ (Ext.b3 _ _ _) hn) (upF _ _ (Ext.b3 _ _ _) hl) (upF _ _ (Ext.b3 _ _ _) hs), Ext.b3 _ _ _⟩
    have e2 : IntKind.i64.wrap (c.from_ - x.log.base) = c.from_ - x.log.base := wrap_i64 (by omega)
    have e3 : IntKind.i64.wrap (c.from_ - x.log.base - 1) = c.from_ - x.log.base - 1 := wrap_i64 (by omega)
    have hE : Own (.sl 3 (x.log.es.map Entry.c)) (fun m => F m ∧ m < h.length) _ e := Own.mono _ (fun _ x => x) (X3.keep _) _ (Own.lt _ _ he)
    have hE' : Own (.sl 3 (c.log.es.map Entry.c)) (fun m => G m ∧ m < h.length) _ e' := Own.mono _ (fun _ x => x) (X3.keep _) _ (Own.lt _ _ he')
    obtain ⟨av', s1, s2, s3⟩ := own_clip (k := c.from_ - x.log.base - 1) hE (by omega) (by simp; omega)
    obtain ⟨ys, a1, a2⟩ := own_els hE'
    obtain ⟨o4, H4, t1, t2, t3, t4⟩ := own_appC (bytes := 40) s2 s3 (clip_full s1) (Ext.refl nof _) a2 (fun n off len cap ea hg => by subst ea; exact hd _ (own_refG s2).1 hg.1) (by simp only [List.length_take, List.length_map]; omega)
    rw [← aappend_of a1] at t1
    have C0 := t4.get (bx30 h (some (.arr 10 [x.cells e o n l s] false)) (some (.arr 17 [c.cells e' o' n' l' s'] false)) (some (.arr 10 [[.int .i64 0, .int .i64 0, .int .i64 0, .int .i64 0, .int .i64 0, .nils, .nils, .nils, .nils, .nils]] false)))
    have C1 := t4.get (bx31 h (some (.arr 10 [x.cells e o n l s] false)) (some (.arr 17 [c.cells e' o' n' l' s'] false)) (some (.arr 10 [[.int .i64 0, .int .i64 0, .int .i64 0, .int .i64 0, .int .i64 0, .nils, .nils, .nils, .nils, .nils]] false)))
    have C2 := t4.get (bx32 h (some (.arr 10 [x.cells e o n l s] false)) (some (.arr 17 [c.cells e' o' n' l' s'] false)) (some (.arr 10 [[.int .i64 0, .int .i64 0, .int .i64 0, .int .i64 0, .int .i64 0, .nils, .nils, .nils, .nils, .nils]] false)))
    have l0 := (List.getElem?_eq_some_iff.1 C0).1
    have l2 := (List.getElem?_eq_some_iff.1 C2).1
    have XH : Ext nof h H4 := X3.tr t4
    simp only [Hard.cells] at C0 C2 t1
    simp only [Change.cells] at C1 t1
    have n02 : (h.length = h.length + 1 + 1) = False := eq_false (by omega)
    have n20 : (h.length + 1 + 1 = h.length) = False := eq_false (by omega)
    simp only [go_sem, reduceIte, Nat.reduceEqDiff, Nat.reduceAdd, Nat.reduceLeDiff, Nat.reducePow, Nat.reduceDiv, Nat.reduceMod, decide_true, decide_eq_false c1, e1, decide_eq_false c2, e2, e3, aslc, s1, t1, C0, C1, C2, l0, l2, n02, n20, List.length_set, t2.scalar, cells_of t2.scalar, s2.scalar, he'.scalar, ho.scalar, hn.scalar, hl.scalar, hs.scalar]
    have eg : x.turned c = ({ x with log := ⟨x.log.base, x.log.bterm, x.log.es.take (c.from_ - x.log.base - 1).toNat ++ c.log.es⟩ }, 0) := by simp [Hard.turned, k2, c1, c2]
    rw [eg]
    have XX : Ext nof h ((H4.set h.length (some (.arr 10 [[.int .i64 x.group, .int .i64 x.term, .int .i64 x.vote, .int .i64 x.log.base, .int .i64 x.log.bterm, o4, o, n, l, s]] false))).set (h.length + 1 + 1) (some (.arr 10 [[.int .i64 x.group, .int .i64 x.term, .int .i64 x.vote, .int .i64 x.log.base, .int .i64 x.log.bterm, o4, o, n, l, s]] false))) := (XH.put (Nat.le_refl _) _).put (by omega) _
    have l3 := X3.1
    refine ⟨_, rfl, hard_own (x := { x with log := ⟨x.log.base, x.log.bterm, x.log.es.take (c.from_ - x.log.base - 1).toNat ++ c.log.es⟩ }) ?_ (upF _ _ XX ho) (upF _ _ XX hn) (upF _ _ XX hl) (upF _ _ XX hs), XX⟩
    simp only [dEntries, List.map_append, List.map_take]
    refine Own.mono _ (fun m hm => ?_) (fun m hm y hy => ?_) _ t2
    · simp only [List.length_append, List.length_cons, List.length_nil] at hm
      rcases hm with hm | hm | hm
      · exact .inl hm.1
      · exact .inr (.inl hm.1)
      · exact .inr (.inr (by omega))
    · simp only [List.length_append, List.length_cons, List.length_nil] at hm
      rw [List.getElem?_set_ne (by omega), List.getElem?_set_ne (by omega)]; exact hy
  by_cases k3 : c.kind = 3
  · simp only [go_sem, reduceIte, Nat.reduceEqDiff, Nat.reduceAdd, Nat.reduceLeDiff, Nat.reducePow, Nat.reduceDiv, Nat.reduceMod, decide_true, decide_eq_false k1, decide_eq_false k2, decide_eq_true k3, he.scalar]
    have hR : RdL (fun _ => True) _ x.log.c [.int .i64 x.log.base, .int .i64 x.log.bterm, e] := ⟨_, _, rfl, by simp only [Rd], _, _, rfl, by simp only [Rd], _, _, rfl, Own.rd _ (F' := fun _ => True) (fun _ _ => trivial) _ (upF _ _ X3 he), rfl⟩
    refine use1 hte.1 (hte.2 _ _ x.log _ c.log.base hR ⟨b0, b1, hsm⟩) ?_
    have eg : x.turned c = ({ x with log := x.snapped c, conf := c.conf, snap := c.snap }, 0) := by simp [Hard.turned, k3]
    rw [eg]
    have nosnap : ¬ (x.log.has c.log.base = true ∧ x.log.term c.log.base = c.log.bterm) → ∀ {H : AHeap}, Ext nof h H → OwnL ({ x with log := x.snapped c, conf := c.conf, snap := c.snap } : Hard).c (fun m => F m ∨ G m ∨ h.length ≤ m) H [.int .i64 x.group, .int .i64 x.term, .int .i64 x.vote, .int .i64 c.log.base, .int .i64 c.log.bterm, .nils, o', n', l', s'] := by
      intro hns H XX
      have es : x.snapped c = ⟨c.log.base, c.log.bterm, []⟩ := by simp only [Hard.snapped]; rw [if_neg hns]
      rw [es]
      exact hard_own (x := { x with log := ⟨c.log.base, c.log.bterm, []⟩, conf := c.conf, snap := c.snap }) (Own.nils _) (upG _ _ XX ho') (upG _ _ XX hn') (upG _ _ XX hl') (upG _ _ XX hs')
    cases hh : x.log.has c.log.base with
    | false =>
      simp only [go_sem, reduceIte, Nat.reduceEqDiff, Nat.reduceAdd, Nat.reduceLeDiff, Nat.reducePow, Nat.reduceDiv, Nat.reduceMod, decide_true, ho'.scalar, hn'.scalar, hl'.scalar, hs'.scalar, cells_of ho'.scalar, cells_of hn'.scalar, cells_of hl'.scalar, cells_of hs'.scalar]
      exact ⟨_, rfl, nosnap (by simp [hh]) (Ext.b3 _ _ _), Ext.b3 _ _ _⟩
    | true =>
      by_cases ht : x.log.term c.log.base = c.log.bterm
      · simp only [go_sem, reduceIte, Nat.reduceEqDiff, Nat.reduceAdd, Nat.reduceLeDiff, Nat.reducePow, Nat.reduceDiv, Nat.reduceMod, decide_true, decide_eq_true ht, he.scalar]
        refine wCall_use ⟨hcu.1, hcu.2 _ _ x.log _ c.log.base hR ⟨b0, b1, hsm⟩⟩ ?_
        rintro _ H4 ⟨cs, rfl, oc, t4⟩
        obtain ⟨d, rfl, od⟩ := own_logL oc
        have C0 := t4.get (bx30 h (some (.arr 10 [x.cells e o n l s] false)) (some (.arr 17 [c.cells e' o' n' l' s'] false)) (some (.arr 10 [[.int .i64 0, .int .i64 0, .int .i64 0, .int .i64 0, .int .i64 0, .nils, .nils, .nils, .nils, .nils]] false)))
        have C1 := t4.get (bx31 h (some (.arr 10 [x.cells e o n l s] false)) (some (.arr 17 [c.cells e' o' n' l' s'] false)) (some (.arr 10 [[.int .i64 0, .int .i64 0, .int .i64 0, .int .i64 0, .int .i64 0, .nils, .nils, .nils, .nils, .nils]] false)))
        have C2 := t4.get (bx32 h (some (.arr 10 [x.cells e o n l s] false)) (some (.arr 17 [c.cells e' o' n' l' s'] false)) (some (.arr 10 [[.int .i64 0, .int .i64 0, .int .i64 0, .int .i64 0, .int .i64 0, .nils, .nils, .nils, .nils, .nils]] false)))
        have l0 := (List.getElem?_eq_some_iff.1 C0).1
        have l2 := (List.getElem?_eq_some_iff.1 C2).1
        have XH : Ext nof h H4 := X3.tr t4
        simp only [Hard.cells] at C0 C2
        simp only [Change.cells] at C1
        have n01 : (h.length = h.length + 1) = False := eq_false (by omega)
        have n10 : (h.length + 1 = h.length) = False := eq_false (by omega)
        have n02 : (h.length = h.length + 1 + 1) = False := eq_false (by omega)
        have n20 : (h.length + 1 + 1 = h.length) = False := eq_false (by omega)
        simp only [go_sem, reduceIte, Nat.reduceEqDiff, Nat.reduceAdd, Nat.reduceLeDiff, Nat.reducePow, Nat.reduceDiv, Nat.reduceMod, decide_true, C0, C1, C2, l0, l2, n01, n10, n02, n20, List.length_set, od.scalar, cells_of od.scalar, ho'.scalar, hn'.scalar, hl'.scalar, hs'.scalar, cells_of ho'.scalar, cells_of hn'.scalar, cells_of hl'.scalar, cells_of hs'.scalar]
        have es : x.snapped c = x.log.cut c.log.base := by simp only [Hard.snapped]; rw [if_pos ⟨hh, ht⟩]
        rw [es]
        have XX := (((XH.put (n := h.length) (Nat.le_refl _) (some (.arr 10 [[.int .i64 x.group, .int .i64 x.term, .int .i64 x.vote, .int .i64 (x.log.cut c.log.base).base, .int .i64 (x.log.cut c.log.base).bterm, d, o, n, l, s]] false))).put (n := h.length) (Nat.le_refl _) (some (.arr 10 [[.int .i64 x.group, .int .i64 x.term, .int .i64 x.vote, .int .i64 (x.log.cut c.log.base).base, .int .i64 (x.log.cut c.log.base).bterm, d, o', n', l', s]] false))).put (n := h.length) (Nat.le_refl _) (some (.arr 10 [[.int .i64 x.group, .int .i64 x.term, .int .i64 x.vote, .int .i64 (x.log.cut c.log.base).base, .int .i64 (x.log.cut c.log.base).bterm, d, o', n', l', s']] false))).put (n := h.length + 1 + 1) (by omega) (some (.arr 10 [[.int .i64 x.group, .int .i64 x.term, .int .i64 x.vote, .int .i64 (x.log.cut c.log.base).base, .int .i64 (x.log.cut c.log.base).bterm, d, o', n', l', s']] false))
        refine ⟨_, rfl, hard_own (x := { x with log := x.log.cut c.log.base, conf := c.conf, snap := c.snap }) ?_ (upG _ _ XX ho') (upG _ _ XX hn') (upG _ _ XX hl') (upG _ _ XX hs'), XX⟩
        refine Own.mono _ (fun m hm => ?_) (fun m hm y hy => ?_) _ od
        · simp only [List.length_append, List.length_cons, List.length_nil] at hm
          exact .inr (.inr (by omega))
        · simp only [List.length_append, List.length_cons, List.length_nil] at hm
          rw [List.getElem?_set_ne (by omega), List.getElem?_set_ne (by omega), List.getElem?_set_ne (by omega), List.getElem?_set_ne (by omega)]; exact hy
      · simp only [go_sem, reduceIte, Nat.reduceEqDiff, Nat.reduceAdd, Nat.reduceLeDiff, Nat.reducePow, Nat.reduceDiv, Nat.reduceMod, decide_true, decide_eq_false ht, ho'.scalar, hn'.scalar, hl'.scalar, hs'.scalar, cells_of ho'.scalar, cells_of hn'.scalar, cells_of hl'.scalar, cells_of hs'.scalar]
        exact ⟨_, rfl, nosnap (fun hc => ht hc.2) (Ext.b3 _ _ _), Ext.b3 _ _ _⟩
  · simp only [go_sem, reduceIte, Nat.reduceEqDiff, Nat.reduceAdd, Nat.reduceLeDiff, Nat.reducePow, Nat.reduceDiv, Nat.reduceMod, decide_true, decide_eq_false k1, decide_eq_false k2, decide_eq_false k3, he.scalar, ho.scalar, hn.scalar, hl.scalar, hs.scalar]
    have eg : x.turned c = (x, 0) := by simp [Hard.turned, k1, k2, k3]
    rw [eg]
    exact ⟨_, rfl, hard_own (x := x) (upF _ _ (Ext.b3 _ _ _) he) (upF _ _ (Ext.b3 _ _ _) ho) (upF _ _ (Ext.b3 _ _ _) hn) (upF _ _ (Ext.b3 _ _ _) hl) (upF _ _ (Ext.b3 _ _ _) hs), Ext.b3 _ _ _⟩

end Glb

/-
  A vote is put into its place.
-/
namespace Glb
open Go
set_option maxRecDepth 10000
set_option maxHeartbeats 16000000

def accepted : List Vote → Vote → List Vote
  | [], v => [v]
  | a :: r, v => if a.ahead v = true then a :: accepted r v else if a.txn = v.txn ∧ a.part = v.part then v :: r else v :: a :: r

theorem accepted_at : ∀ (l : List Vote) (v : Vote) (i : Nat), i ≤ l.length → (∀ (j : Nat) (hj : j < l.length), j < i → l[j].ahead v = true) → (∀ hi : i < l.length, l[i].ahead v = false) →
    accepted l v = l.take i ++ (match l[i]? with
      | some a => if a.txn = v.txn ∧ a.part = v.part then v :: l.drop (i + 1) else v :: l.drop i
      | none => [v])
  | [], v, i, hi, h1, h2 => by simp [accepted]
  | a :: r, v, 0, hi, h1, h2 => by
    have := h2 (by simp)
    simp only [List.getElem_cons_zero] at this
    simp [accepted, this]
  | a :: r, v, i + 1, hi, h1, h2 => by
    have ha : a.ahead v = true := h1 0 (by simp) (by omega)
    simp only [accepted]
    rw [if_pos ha, accepted_at r v i (by simpa using hi) (fun j hj hji => h1 (j + 1) (by simpa using hj) (by omega)) (fun hi' => h2 (by simpa using hi'))]
    simp

def AcceptOk (P : Program) (f : FuncId) : Prop := isFn P f = true ∧ ∀ (F : Nat → Prop) (h : AHeap) (l : List Vote) (a : AV) (v : Vote) (vs : List AV), Own (dVotes l) F h a → vs = [.int .i64 v.txn, .int .i64 v.part, .int .i64 v.promised, .int .i64 v.ballot, .int .i64 v.value] → l.length ≤ 2^32 →
  ACalls P f [a, .agg vs] h fun r h' => Own (dVotes (accepted l v)) (fun m => F m ∨ h.length ≤ m) h' r ∧ Ext F h h'

theorem accept_ok {P : Program} {f g : FuncId} (hf : Is P f (c_image_accept g)) (hg : AheadOk P g) : AcceptOk P f := by
  refine ⟨hf.2, fun F h l a v vs ho hv hl => fun_sound hf.1 (Nat.le_of_ble_eq_true rfl) ?_⟩
  subst hv
  show vc P (c_image_accept g).code ⟨[(0, a), (1, .agg _)], [], h⟩ (atEnd (c_image_accept g).res _)
  have hR : Rd (fun _ => True) h (dVotes l) a := Own.rd _ (fun _ _ => trivial) _ ho
  have la : alen a = some (.int .i64 l.length) := by simpa using hR.len
  simp only [c_image_accept, go_sem, reduceIte, Nat.reduceEqDiff, Nat.reduceAdd, Nat.reduceLeDiff, Nat.reducePow, Nat.reduceDiv, Nat.reduceMod, decide_true]
  have X0 := Ext.b1 (h := h) (some (.arr 5 [[.int .i64 v.txn, .int .i64 v.part, .int .i64 v.promised, .int .i64 v.ballot, .int .i64 v.value]] false))
  have A0 := bx10 h (some (.arr 5 [[.int .i64 v.txn, .int .i64 v.part, .int .i64 v.promised, .int .i64 v.ballot, .int .i64 v.value]] false))
  have hR0 := hR.up X0
  have ho0 : Own (dVotes l) (fun m => F m ∧ m < h.length) _ a := Own.mono _ (fun _ x => x) (X0.keep _) _ (Own.lt _ _ ho)
  have lH : h.length + 1 = (h ++ [some (ABlk.arr 5 [[.int .i64 v.txn, .int .i64 v.part, .int .i64 v.promised, .int .i64 v.ballot, .int .i64 v.value]] false)]).length := by simp
  generalize h ++ [some (ABlk.arr 5 [[.int .i64 v.txn, .int .i64 v.part, .int .i64 v.promised, .int .i64 v.ballot, .int .i64 v.value]] false)] = H at *
  refine vc_loop (fun m L h' => ∃ i : Nat, lk 0 L = a ∧ lk 3 L = .ptr h.length 5 0 0 ∧ lk 5 L = .int .i64 i ∧ h' = H ∧ i ≤ l.length ∧ m = l.length - i ∧ ∀ (j : Nat) (hj : j < l.length), j < i → l[j].ahead v = true) l.length ?_ ?_
  · exact ⟨0, by simp [lk_ins, lk_cons], by simp [lk_ins, lk_cons], by simp [lk_ins], rfl, by omega, by omega, by omega⟩
  · rintro m L h2 ⟨i, k0, k3, k5, rfl, hi, rfl, hj⟩
    have out : (∀ hi : i < l.length, l[i].ahead v = false) → True := fun _ => trivial
    by_cases ci : (i : Int) < l.length
    · have ci' : i < l.length := by omega
      obtain ⟨p, cs, hp1, hp2, hcs⟩ := hR0.index .i64 (i := i) (d := l[i].c) (by omega) (by simp [ci'])
      have r1 := rd_vote hcs
      have t1 := aload_p hp2 true 5
      rw [take_agg, if_pos (by rw [r1]; simp), List.take_of_length_le (by rw [r1]; simp)] at t1
      simp only [c_image_accept_l0, go_sem, reduceIte, Nat.reduceEqDiff, Nat.reduceAdd, Nat.reduceLeDiff, Nat.reducePow, Nat.reduceDiv, Nat.reduceMod, decide_true, k0, k3, k5, la, decide_eq_true ci, hp1, t1, A0, notRes_of hp2]
      refine use1 hg.1 (hg.2 h2 l[i] v cs _ r1 rfl) ?_
      have e1 : IntKind.i64.wrap (↑i + 1) = (i : Int) + 1 := wrap_i64 (by omega)
      cases cg : (l[i]).ahead v with
      | true =>
        simp only [go_sem, reduceIte, Nat.reduceEqDiff, Nat.reduceAdd, Nat.reduceLeDiff, Nat.reducePow, Nat.reduceDiv, Nat.reduceMod, decide_true, t1, A0, k0, k3, k5, e1]
        refine ⟨_, by omega, i + 1, by simp, by omega, rfl, fun j hj' hji => ?_⟩
        by_cases e : j = i
        · subst e; exact cg
        · exact hj j hj' (by omega)
      | false =>
        have hacc := accepted_at l v i hi hj (fun _ => cg)
        rw [List.getElem?_eq_getElem ci'] at hacc
        simp only at hacc
        subst r1
        simp only [go_sem, reduceIte, Nat.reduceEqDiff, Nat.reduceAdd, Nat.reduceLeDiff, Nat.reducePow, Nat.reduceDiv, Nat.reduceMod, decide_true, t1, A0, k0, k3, k5, la, decide_eq_true ci, hp1, afield_p hp2, aload_off hp2]
        by_cases c1 : l[i].txn = v.txn
        · simp only [go_sem, reduceIte, Nat.reduceEqDiff, Nat.reduceAdd, Nat.reduceLeDiff, Nat.reducePow, Nat.reduceDiv, Nat.reduceMod, decide_true, decide_eq_true c1, A0, k0, k3, k5, hp1, afield_p hp2, aload_off hp2]
          by_cases c2 : l[i].part = v.part
          · rw [if_pos ⟨c1, c2⟩] at hacc
            simp only [go_sem, reduceIte, Nat.reduceEqDiff, Nat.reduceAdd, Nat.reduceLeDiff, Nat.reducePow, Nat.reduceDiv, Nat.reduceMod, decide_true, decide_eq_true c2, A0, k0, k3, k5, hp1]
            obtain ⟨n, off, row, gg, cs', len, cap, rfl, hn, hix, hrow, hcs', hit, hput⟩ := own_item (j := i) (d0 := l[i].c) ho0 (by simp [ci'])
            rw [hix] at hp1
            cases hp1
            have hc5 : cs'.length = 5 := by rw [OwnL_length hit]; rfl
            have st := astore_elem (x := .agg [.int .i64 v.txn, .int .i64 v.part, .int .i64 v.promised, .int .i64 v.ballot, .int .i64 v.value]) hrow hcs' rfl (by rw [hc5]; rfl) rfl rfl
            simp only [go_sem, reduceIte, Nat.reduceEqDiff, Nat.reduceAdd, Nat.reduceLeDiff, Nat.reducePow, Nat.reduceDiv, Nat.reduceMod, decide_true, k0, k3, k5, hix, st]
            rw [hacc]
            have es : l.take i ++ v :: l.drop (i + 1) = l.set i v := by rw [List.set_eq_take_append_cons_drop, if_pos ci']
            rw [es]
            have := hput _ h2 v.c _ (fun _ x => x) (fun _ _ _ x => x) rfl ⟨_, _, rfl, own_i64 _ _ v.txn, _, _, rfl, own_i64 _ _ v.part, _, _, rfl, own_i64 _ _ v.promised, _, _, rfl, own_i64 _ _ v.ballot, _, _, rfl, own_i64 _ _ v.value, rfl⟩
            rw [← List.map_set] at this
            exact ⟨Own.mono _ (fun m hm => .inl hm.1) (fun _ _ _ x => x) _ this, X0.trans (Ext.set _ (fun _ => hn.1)) (fun _ _ x => x.elim) (fun _ _ x => x)⟩
          · rw [if_neg (fun hc => c2 hc.2)] at hacc
            simp only [go_sem, reduceIte, Nat.reduceEqDiff, Nat.reduceAdd, Nat.reduceLeDiff, Nat.reducePow, Nat.reduceDiv, Nat.reduceMod, decide_true, decide_eq_false c2, A0, k0, k3, k5]
            obtain ⟨av', s1, s2, s3⟩ := own_clip (k := (i : Int)) ho0 (by omega) (by simp; omega)
            obtain ⟨bv, u1, u2⟩ := own_from (k := (i : Int)) ho0 (by omega) (by simp; omega)
            rw [Int.toNat_natCast] at s2 u2
            have E5 := Ext.b1 (h := h2) (some (.arr 5 [[.int .i64 v.txn, .int .i64 v.part, .int .i64 v.promised, .int .i64 v.ballot, .int .i64 v.value]] false))
            have u5 := Own.mono (F' := fun m => F m ∧ m < h.length) _ (fun _ x => x) (E5.keep _) _ u2
            obtain ⟨ys, a1, a2⟩ := own_els u5
            rw [← List.map_drop] at a2
            have v1 : OwnL v.c (fun m => m = h2.length ∧ m ≠ h2.length) (h2 ++ [some (.arr 5 [[.int .i64 v.txn, .int .i64 v.part, .int .i64 v.promised, .int .i64 v.ballot, .int .i64 v.value]] false)]) [.int .i64 v.txn, .int .i64 v.part, .int .i64 v.promised, .int .i64 v.ballot, .int .i64 v.value] := ⟨_, _, rfl, own_i64 _ _ _, _, _, rfl, own_i64 _ _ _, _, _, rfl, own_i64 _ _ _, _, _, rfl, own_i64 _ _ _, _, _, rfl, own_i64 _ _ _, rfl⟩
            have o1 : Own (.sl 5 [v.c]) (fun m => m = h2.length) (h2 ++ [some (.arr 5 [[.int .i64 v.txn, .int .i64 v.part, .int .i64 v.promised, .int .i64 v.ballot, .int .i64 v.value]] false)]) (.ref h2.length 5 0 1 (some 1)) := by
              simp only [Own]
              exact .inr (.inr ⟨h2.length, 0, some 1, _, false, rfl, rfl, bx10 _ _, by simp, (fun c hc => by cases hc; simp), ⟨_, _, rfl, v1, rfl⟩⟩)
            obtain ⟨w, H6, w1, w2, -, w4⟩ := own_appC (bytes := 40) (G := nof) o1 ⟨_, _, bx10 _ _, (fun e => by cases e), (fun c hc => by cases hc; simp)⟩ (fun n off len cap e => by cases e; rfl) (Ext.refl nof _) (own_voteLL a2) (fun _ _ _ _ _ x => x) (by simp; omega)
            rw [← aappend_of a1] at w1
            have E6 : Ext nof h2 H6 := E5.tr w4
            obtain ⟨zs, z1, z2⟩ := own_els w2
            have s6 := Own.mono (F' := fun m => F m ∧ m < h.length) _ (fun _ x => x) (E6.keep _) _ s2
            have c6 : canApp H6 av' := s3.keep s2 (E6.keep _)
            have z3 : OwnLL ((v :: l.drop i).map Vote.c) nof H6 zs := own_voteLL (l := v :: l.drop i) z2
            obtain ⟨w', H7, x1, x2, -, x4⟩ := own_appC (bytes := 40) (G := nof) s6 c6 (clip_full s1) (Ext.refl nof _) z3 (fun _ _ _ _ _ x => x) (by simp; omega)
            rw [← aappend_of z1] at x1
            have A1 := fun z => (old1 (h := h2) (s := h.length) (by omega) z).trans A0
            simp only [go_sem, reduceIte, Nat.reduceEqDiff, Nat.reduceAdd, Nat.reduceLeDiff, Nat.reducePow, Nat.reduceDiv, Nat.reduceMod, decide_true, k0, k3, k5, aslc, s1, u1, A1, w1, x1]
            refine ⟨notRes_lt (by omega), ?_, X0.trans (E6.tr x4) (fun _ _ x => x.elim) (fun _ _ x => x.elim)⟩
            rw [hacc]
            simp only [dVotes, List.map_append, List.map_take]
            refine Own.mono _ (fun m hm => ?_) (fun _ _ _ x => x) _ x2
            rcases hm with hm | hm | hm
            · exact .inl hm.1
            · exact hm.elim
            · have := E6.1; exact .inr (by omega)
        · rw [if_neg (fun hc => c1 hc.1)] at hacc
          simp only [go_sem, reduceIte, Nat.reduceEqDiff, Nat.reduceAdd, Nat.reduceLeDiff, Nat.reducePow, Nat.reduceDiv, Nat.reduceMod, decide_true, decide_eq_false c1, A0, k0, k3, k5]
          obtain ⟨av', s1, s2, s3⟩ := own_clip (k := (i : Int)) ho0 (by omega) (by simp; omega)
          obtain ⟨bv, u1, u2⟩ := own_from (k := (i : Int)) ho0 (by omega) (by simp; omega)
          rw [Int.toNat_natCast] at s2 u2
          have E5 := Ext.b1 (h := h2) (some (.arr 5 [[.int .i64 v.txn, .int .i64 v.part, .int .i64 v.promised, .int .i64 v.ballot, .int .i64 v.value]] false))
          have u5 := Own.mono (F' := fun m => F m ∧ m < h.length) _ (fun _ x => x) (E5.keep _) _ u2
          obtain ⟨ys, a1, a2⟩ := own_els u5
          rw [← List.map_drop] at a2
          have v1 : OwnL v.c (fun m => m = h2.length ∧ m ≠ h2.length) (h2 ++ [some (.arr 5 [[.int .i64 v.txn, .int .i64 v.part, .int .i64 v.promised, .int .i64 v.ballot, .int .i64 v.value]] false)]) [.int .i64 v.txn, .int .i64 v.part, .int .i64 v.promised, .int .i64 v.ballot, .int .i64 v.value] := ⟨_, _, rfl, own_i64 _ _ _, _, _, rfl, own_i64 _ _ _, _, _, rfl, own_i64 _ _ _, _, _, rfl, own_i64 _ _ _, _, _, rfl, own_i64 _ _ _, rfl⟩
          have o1 : Own (.sl 5 [v.c]) (fun m => m = h2.length) (h2 ++ [some (.arr 5 [[.int .i64 v.txn, .int .i64 v.part, .int .i64 v.promised, .int .i64 v.ballot, .int .i64 v.value]] false)]) (.ref h2.length 5 0 1 (some 1)) := by
            simp only [Own]
            exact .inr (.inr ⟨h2.length, 0, some 1, _, false, rfl, rfl, bx10 _ _, by simp, (fun c hc => by cases hc; simp), ⟨_, _, rfl, v1, rfl⟩⟩)
          obtain ⟨w, H6, w1, w2, -, w4⟩ := own_appC (bytes := 40) (G := nof) o1 ⟨_, _, bx10 _ _, (fun e => by cases e), (fun c hc => by cases hc; simp)⟩ (fun n off len cap e => by cases e; rfl) (Ext.refl nof _) (own_voteLL a2) (fun _ _ _ _ _ x => x) (by simp; omega)
          rw [← aappend_of a1] at w1
          have E6 : Ext nof h2 H6 := E5.tr w4
          obtain ⟨zs, z1, z2⟩ := own_els w2
          have s6 := Own.mono (F' := fun m => F m ∧ m < h.length) _ (fun _ x => x) (E6.keep _) _ s2
          have c6 : canApp H6 av' := s3.keep s2 (E6.keep _)
          have z3 : OwnLL ((v :: l.drop i).map Vote.c) nof H6 zs := own_voteLL (l := v :: l.drop i) z2
          obtain ⟨w', H7, x1, x2, -, x4⟩ := own_appC (bytes := 40) (G := nof) s6 c6 (clip_full s1) (Ext.refl nof _) z3 (fun _ _ _ _ _ x => x) (by simp; omega)
          rw [← aappend_of z1] at x1
          have A1 := fun z => (old1 (h := h2) (s := h.length) (by omega) z).trans A0
          simp only [go_sem, reduceIte, Nat.reduceEqDiff, Nat.reduceAdd, Nat.reduceLeDiff, Nat.reducePow, Nat.reduceDiv, Nat.reduceMod, decide_true, k0, k3, k5, aslc, s1, u1, A1, w1, x1]
          refine ⟨notRes_lt (by omega), ?_, X0.trans (E6.tr x4) (fun _ _ x => x.elim) (fun _ _ x => x.elim)⟩
          rw [hacc]
          simp only [dVotes, List.map_append, List.map_take]
          refine Own.mono _ (fun m hm => ?_) (fun _ _ _ x => x) _ x2
          rcases hm with hm | hm | hm
          · exact .inl hm.1
          · exact hm.elim
          · have := E6.1; exact .inr (by omega)
    · have ci' : i = l.length := by omega
      have hacc := accepted_at l v i hi hj (fun hi' => absurd hi' (by omega))
      rw [List.getElem?_eq_none (by omega)] at hacc
      simp only at hacc
      have ed : l.drop i = [] := List.drop_eq_nil_of_le (by omega)
      rw [← ed] at hacc
      simp only [c_image_accept_l0, go_sem, reduceIte, Nat.reduceEqDiff, Nat.reduceAdd, Nat.reduceLeDiff, Nat.reducePow, Nat.reduceDiv, Nat.reduceMod, decide_true, k0, k3, k5, la, decide_eq_false ci]
      obtain ⟨av', s1, s2, s3⟩ := own_clip (k := (i : Int)) ho0 (by omega) (by simp; omega)
      obtain ⟨bv, u1, u2⟩ := own_from (k := (i : Int)) ho0 (by omega) (by simp; omega)
      rw [Int.toNat_natCast] at s2 u2
      have E5 := Ext.b1 (h := h2) (some (.arr 5 [[.int .i64 v.txn, .int .i64 v.part, .int .i64 v.promised, .int .i64 v.ballot, .int .i64 v.value]] false))
      have u5 := Own.mono (F' := fun m => F m ∧ m < h.length) _ (fun _ x => x) (E5.keep _) _ u2
      obtain ⟨ys, a1, a2⟩ := own_els u5
      rw [← List.map_drop] at a2
      have v1 : OwnL v.c (fun m => m = h2.length ∧ m ≠ h2.length) (h2 ++ [some (.arr 5 [[.int .i64 v.txn, .int .i64 v.part, .int .i64 v.promised, .int .i64 v.ballot, .int .i64 v.value]] false)]) [.int .i64 v.txn, .int .i64 v.part, .int .i64 v.promised, .int .i64 v.ballot, .int .i64 v.value] := ⟨_, _, rfl, own_i64 _ _ _, _, _, rfl, own_i64 _ _ _, _, _, rfl, own_i64 _ _ _, _, _, rfl, own_i64 _ _ _, _, _, rfl, own_i64 _ _ _, rfl⟩
      have o1 : Own (.sl 5 [v.c]) (fun m => m = h2.length) (h2 ++ [some (.arr 5 [[.int .i64 v.txn, .int .i64 v.part, .int .i64 v.promised, .int .i64 v.ballot, .int .i64 v.value]] false)]) (.ref h2.length 5 0 1 (some 1)) := by
        simp only [Own]
        exact .inr (.inr ⟨h2.length, 0, some 1, _, false, rfl, rfl, bx10 _ _, by simp, (fun c hc => by cases hc; simp), ⟨_, _, rfl, v1, rfl⟩⟩)
      obtain ⟨w, H6, w1, w2, -, w4⟩ := own_appC (bytes := 40) (G := nof) o1 ⟨_, _, bx10 _ _, (fun e => by cases e), (fun c hc => by cases hc; simp)⟩ (fun n off len cap e => by cases e; rfl) (Ext.refl nof _) (own_voteLL a2) (fun _ _ _ _ _ x => x) (by simp; omega)
      rw [← aappend_of a1] at w1
      have E6 : Ext nof h2 H6 := E5.tr w4
      obtain ⟨zs, z1, z2⟩ := own_els w2
      have s6 := Own.mono (F' := fun m => F m ∧ m < h.length) _ (fun _ x => x) (E6.keep _) _ s2
      have c6 : canApp H6 av' := s3.keep s2 (E6.keep _)
      have z3 : OwnLL ((v :: l.drop i).map Vote.c) nof H6 zs := own_voteLL (l := v :: l.drop i) z2
      obtain ⟨w', H7, x1, x2, -, x4⟩ := own_appC (bytes := 40) (G := nof) s6 c6 (clip_full s1) (Ext.refl nof _) z3 (fun _ _ _ _ _ x => x) (by simp; omega)
      rw [← aappend_of z1] at x1
      have A1 := fun z => (old1 (h := h2) (s := h.length) (by omega) z).trans A0
      simp only [go_sem, reduceIte, Nat.reduceEqDiff, Nat.reduceAdd, Nat.reduceLeDiff, Nat.reducePow, Nat.reduceDiv, Nat.reduceMod, decide_true, k0, k3, k5, aslc, s1, u1, A1, w1, x1]
      refine ⟨notRes_lt (by omega), ?_, X0.trans (E6.tr x4) (fun _ _ x => x.elim) (fun _ _ x => x.elim)⟩
      rw [hacc]
      simp only [dVotes, List.map_append, List.map_take]
      refine Own.mono _ (fun m hm => ?_) (fun _ _ _ x => x) _ x2
      rcases hm with hm | hm | hm
      · exact .inl hm.1
      · exact hm.elim
      · have := E6.1; exact .inr (by omega)

end Glb

/-
  An image behind a change.
-/
namespace Glb
open Go
set_option maxRecDepth 10000
set_option maxHeartbeats 16000000

def turnIn : List Hard → Change → Option (List Hard × Int)
  | [], _ => none
  | a :: r, c => if a.group = c.group then some ((a.turned c).1 :: r, (a.turned c).2) else (turnIn r c).map fun p => (a :: p.1, p.2)
theorem turnIn_at : ∀ (l : List Hard) (c : Change) (i : Nat) (hi : i < l.length), (∀ (j : Nat) (hj : j < l.length), j < i → l[j].group ≠ c.group) → l[i].group = c.group → turnIn l c = some (l.set i (l[i].turned c).1, (l[i].turned c).2)
  | [], c, i, hi, _, _ => by simp at hi
  | a :: r, c, 0, hi, h1, h2 => by simp only [List.getElem_cons_zero] at h2; simp [turnIn, h2]
  | a :: r, c, i + 1, hi, h1, h2 => by
    have := h1 0 (by simp) (by omega)
    simp only [List.getElem_cons_zero] at this
    simp only [turnIn]
    rw [if_neg this, turnIn_at r c i (by simpa using hi) (fun j hj hji => h1 (j + 1) (by simpa using hj) (by omega)) (by simpa using h2)]
    simp
theorem turnIn_none : ∀ (l : List Hard) (c : Change), (∀ (j : Nat) (hj : j < l.length), l[j].group ≠ c.group) → turnIn l c = none
  | [], c, _ => rfl
  | a :: r, c, h => by
    have := h 0 (by simp)
    simp only [List.getElem_cons_zero] at this
    simp only [turnIn]
    rw [if_neg this, turnIn_none r c (fun j hj => h (j + 1) (by simpa using hj))]
    rfl

/-- an image behind a change -/
def Image.applied (x : Image) (c : Change) : Image × Int :=
  if c.kind < 1 ∨ 4 < c.kind then (⟨[], []⟩, 13)
  else if c.kind = 4 then (⟨x.hards, accepted x.votes c.vote⟩, 0)
  else match turnIn x.hards c with
    | none => (⟨[], []⟩, 6)
    | some (l, e) => if e ≠ 0 then (⟨[], []⟩, e) else (⟨l, x.votes⟩, 0)

def ApplyOk (P : Program) (f : FuncId) : Prop := isFn P f = true ∧ ∀ (G : Nat → Prop) (h : AHeap) (x : Image) (c : Change) (as cs : List AV), RdL G h x.c as → RdL G h c.c cs → imageC.ok x → changeC.ok c → (imageC.enc x).length ≤ 2^33 → (changeC.enc c).length ≤ 2^33 →
  (∀ y ∈ x.hards, LogOk y.log) → c.log.es.length ≤ 2^32 → x.hards.length ≤ 2^32 → x.votes.length ≤ 2^32 →
  ACalls P f [.agg as, .agg cs] h fun r h' => ∃ bs, r = .tup [.agg bs, .int .i64 (x.applied c).2] ∧ OwnL (x.applied c).1.c (fun m => h.length ≤ m) h' bs ∧ Ext nof h h'

theorem rd_changeL {x : Change} {F : Nat → Prop} {h : AHeap} {a : List AV} (hh : RdL F h x.c a) : ∃ e o n l s, a = x.cells e o n l s ∧ Rd F h (dEntries x.log.es) e ∧ Rd F h (dInts x.conf.old) o ∧ Rd F h (dInts x.conf.new) n ∧ Rd F h (dInts x.conf.learners) l ∧ Rd F h (dBytes x.snap) s := by
  obtain ⟨e, o, n, l, s, rfl, h'⟩ := rd_change hh
  exact ⟨e, o, n, l, s, rfl, h'⟩

theorem Apply_ok {P : Program} {f fr fc ac tu : FuncId} (hf : Is P f (c_image_Apply fr fc ac tu)) (hfr : FreshOk P fr) (hfc : FreshCOk P fc) (hac : AcceptOk P ac) (htu : TurnOk P tu) : ApplyOk P f := by
  refine ⟨hf.2, fun G h x c as cs hx hc xok cok xl cl hlog hce hxh hxv => fun_sound hf.1 (Nat.le_of_ble_eq_true rfl) ?_⟩
  obtain ⟨xd, xv, rfl, hd0, hv0⟩ := rd_image hx
  obtain ⟨e, o, n, l, s, rfl, re, ro, rn, rl, rs⟩ := rd_changeL hc
  show vc P (c_image_Apply fr fc ac tu).code ⟨[(0, .agg [xd, xv]), (1, .agg (c.cells e o n l s))], [], h⟩ (atEnd (c_image_Apply fr fc ac tu).res _)
  simp only [c_image_Apply, Change.cells, go_sem, reduceIte, Nat.reduceEqDiff, Nat.reduceAdd, Nat.reduceLeDiff, Nat.reducePow, Nat.reduceDiv, Nat.reduceMod, decide_true, hd0.scalar, hv0.scalar, re.scalar, ro.scalar, rn.scalar, rl.scalar, rs.scalar]
  have none' : ∀ (e : Int) (H : AHeap) (k : Nat) (y : Option ABlk), x.applied c = (⟨[], []⟩, e) → Ext nof h H → h.length ≤ k → ∃ bs, AV.tup [.agg [.nils, .nils], .int .i64 e] = .tup [.agg bs, .int .i64 (x.applied c).2] ∧ OwnL (x.applied c).1.c (fun m => h.length ≤ m) (H.set k y) bs ∧ Ext nof h (H.set k y) := by
    intro e H k y eg ex hk
    rw [eg]
    exact ⟨_, rfl, ⟨_, _, rfl, Own.nils _, _, _, rfl, Own.nils _, rfl⟩, ex.put hk _⟩
  by_cases c1 : c.kind < 1
  · simp only [go_sem, reduceIte, Nat.reduceEqDiff, Nat.reduceAdd, Nat.reduceLeDiff, Nat.reducePow, Nat.reduceDiv, Nat.reduceMod, decide_true, decide_eq_true c1]
    have eg : x.applied c = (⟨[], []⟩, 13) := by simp only [Image.applied]; rw [if_pos (.inl c1)]
    rw [eg]
    exact ⟨_, rfl, ⟨_, _, rfl, Own.nils _, _, _, rfl, Own.nils _, rfl⟩, Ext.b3 _ _ _⟩
  by_cases c4 : 4 < c.kind
  · simp only [go_sem, reduceIte, Nat.reduceEqDiff, Nat.reduceAdd, Nat.reduceLeDiff, Nat.reducePow, Nat.reduceDiv, Nat.reduceMod, decide_true, decide_eq_false c1, decide_eq_true c4]
    have eg : x.applied c = (⟨[], []⟩, 13) := by simp only [Image.applied]; rw [if_pos (.inr c4)]
    rw [eg]
    exact ⟨_, rfl, ⟨_, _, rfl, Own.nils _, _, _, rfl, Own.nils _, rfl⟩, Ext.b3 _ _ _⟩
  have ek : ¬ (c.kind < 1 ∨ 4 < c.kind) := by omega
  simp only [go_sem, reduceIte, Nat.reduceEqDiff, Nat.reduceAdd, Nat.reduceLeDiff, Nat.reducePow, Nat.reduceDiv, Nat.reduceMod, decide_true, decide_eq_false c1, decide_eq_false c4, hd0.scalar, hv0.scalar]
  have X0 := Ext.b3 (h := h) (some (.arr 2 [[xd, xv]] false)) (some (.arr 17 [c.cells e o n l s] false)) (some (.arr 2 [[.nils, .nils]] false))
  have A0 := bx30 h (some (.arr 2 [[xd, xv]] false)) (some (.arr 17 [c.cells e o n l s] false)) (some (.arr 2 [[.nils, .nils]] false))
  have A1 := bx31 h (some (.arr 2 [[xd, xv]] false)) (some (.arr 17 [c.cells e o n l s] false)) (some (.arr 2 [[.nils, .nils]] false))
  have A2 := bx32 h (some (.arr 2 [[xd, xv]] false)) (some (.arr 17 [c.cells e o n l s] false)) (some (.arr 2 [[.nils, .nils]] false))
  have lH : h.length + 3 = (h ++ [some (ABlk.arr 2 [[xd, xv]] false)] ++ [some (ABlk.arr 17 [c.cells e o n l s] false)] ++ [some (ABlk.arr 2 [[.nils, .nils]] false)]).length := by simp
  simp only [Change.cells] at X0 A0 A1 A2 lH
  have hx0 := hx.up X0
  have hc0 := hc.up X0
  generalize h ++ [some (ABlk.arr 2 [[xd, xv]] false)] ++ [some (ABlk.arr 17 [_] false)] ++ [some (ABlk.arr 2 [[.nils, .nils]] false)] = H0 at *
  refine wCall_use ⟨hfr.1, hfr.2 G H0 x _ hx0 xok xl⟩ ?_
  rintro _ H1 ⟨d, v, k, rfl, oD, oV, hk, X1⟩
  have B0 := X1.get A0
  have B1 := X1.get A1
  have B2 := X1.get A2
  simp only [go_sem, reduceIte, Nat.reduceEqDiff, Nat.reduceAdd, Nat.reduceLeDiff, Nat.reducePow, Nat.reduceDiv, Nat.reduceMod, decide_true, B0, B1]
  refine wCall_use ⟨hfc.1, hfc.2 G H1 c _ (hc0.up X1) cok cl⟩ ?_
  rintro _ H2 ⟨bs, rfl, oC, X2⟩
  obtain ⟨e', o', n', l', s', rfl, oe, oo, on_, ol, os⟩ := own_changeL oC
  have B0 := X2.get B0
  have B1 := X2.get B1
  have B2 := X2.get B2
  have l1 := X1.1
  have l2 := X2.1
  have m0 : h.length < H2.length := by omega
  have m1 : h.length + 1 < H2.length := by omega
  have n01 : (h.length = h.length + 1) = False := eq_false (by omega)
  have n10 : (h.length + 1 = h.length) = False := eq_false (by omega)
  have n02 : (h.length = h.length + 1 + 1) = False := eq_false (by omega)
  have n12 : (h.length + 1 = h.length + 1 + 1) = False := eq_false (by omega)
  simp only [Change.cells, go_sem, reduceIte, Nat.reduceEqDiff, Nat.reduceAdd, Nat.reduceLeDiff, Nat.reducePow, Nat.reduceDiv, Nat.reduceMod, decide_true, B0, B1, B2, m0, m1, n01, n10, n02, n12, List.length_set, oD.scalar, oV.scalar, cells_of oD.scalar, cells_of oV.scalar, oe.scalar, oo.scalar, on_.scalar, ol.scalar, os.scalar]
  have E3 : Ext nof h ((H2.set h.length (some (.arr 2 [[d, v]] false))).set (h.length + 1) (some (.arr 17 [c.cells e' o' n' l' s'] false))) := ((((X0.tr X1).tr X2).put (Nat.le_refl _) _)).put (by omega) _
  have D0 : ((H2.set h.length (some (.arr 2 [[d, v]] false))).set (h.length + 1) (some (.arr 17 [c.cells e' o' n' l' s'] false)))[h.length]? = _ := (List.getElem?_set_ne (by omega)).trans (List.getElem?_set_self m0)
  have D1 : ((H2.set h.length (some (.arr 2 [[d, v]] false))).set (h.length + 1) (some (.arr 17 [c.cells e' o' n' l' s'] false)))[h.length + 1]? = _ := List.getElem?_set_self (by rw [List.length_set]; exact m1)
  have D2 : ((H2.set h.length (some (.arr 2 [[d, v]] false))).set (h.length + 1) (some (.arr 17 [c.cells e' o' n' l' s'] false)))[h.length + 1 + 1]? = _ := ((List.getElem?_set_ne (by omega)).trans (List.getElem?_set_ne (by omega))).trans B2
  have K3 : ∀ F : Nat → Prop, (∀ m, F m → h.length + 3 ≤ m) → Keep F H2 ((H2.set h.length (some (.arr 2 [[d, v]] false))).set (h.length + 1) (some (.arr 17 [c.cells e' o' n' l' s'] false))) := fun F hF m hm y hy => by
    have := hF m hm
    rw [List.getElem?_set_ne (by omega), List.getElem?_set_ne (by omega)]; exact hy
  have oD3 : Own (dHards x.hards) (fun m => h.length + 3 ≤ m ∧ m < k ∧ m < H1.length) _ d := Own.mono _ (fun m hm => by omega) (K3 _ (fun m hm => by omega)) _ (Own.mono _ (fun _ x => x) (X2.keep _) _ (Own.lt _ _ oD))
  have oV3 : Own (dVotes x.votes) (fun m => k ≤ m ∧ m < H1.length) _ v := Own.mono _ (fun m hm => by omega) (K3 _ (fun m hm => by omega)) _ (Own.mono _ (fun _ x => x) (X2.keep _) _ (Own.lt _ _ oV))
  have oC3 : OwnL c.c (fun m => H1.length ≤ m) _ (c.cells e' o' n' l' s') := OwnL.mono _ (fun m hm => hm) (K3 _ (fun m hm => by omega)) _ oC
  have l3 : ((H2.set h.length (some (.arr 2 [[d, v]] false))).set (h.length + 1) (some (.arr 17 [c.cells e' o' n' l' s'] false))).length = H2.length := by rw [List.length_set, List.length_set]
  simp only [Change.cells] at E3 D0 D1 D2 K3 oD3 oV3 oC3 l3
  generalize (H2.set h.length (some (ABlk.arr 2 [[d, v]] false))).set (h.length + 1) (some (.arr 17 [_] false)) = H3 at *
  have w0 : h.length < H3.length := by omega
  have w2 : h.length + 1 + 1 < H3.length := by omega
  have n20 : (h.length + 1 + 1 = h.length) = False := eq_false (by omega)
  by_cases k4 : c.kind = 4
  · simp only [go_sem, reduceIte, Nat.reduceEqDiff, Nat.reduceAdd, Nat.reduceLeDiff, Nat.reducePow, Nat.reduceDiv, Nat.reduceMod, decide_true, decide_eq_true k4, D0, D1]
    refine wCall_use ⟨hac.1, hac.2 _ H3 x.votes v c.vote _ oV3 rfl hxv⟩ ?_
    rintro r H4 ⟨oR, X4⟩
    have l4 := X4.1
    have F0 := (X4.2 _ w0 (by omega)).trans D0
    have F2 := (X4.2 _ w2 (by omega)).trans D2
    have w0' : h.length < H4.length := by omega
    have w2' : h.length + 1 + 1 < H4.length := by omega
    simp only [go_sem, reduceIte, Nat.reduceEqDiff, Nat.reduceAdd, Nat.reduceLeDiff, Nat.reducePow, Nat.reduceDiv, Nat.reduceMod, decide_true, F0, F2, w0', w2', n02, n20, List.length_set, oD3.scalar, oR.scalar, cells_of oR.scalar]
    have eg : x.applied c = (⟨x.hards, accepted x.votes c.vote⟩, 0) := by simp only [Image.applied]; rw [if_neg ek, if_pos k4]
    rw [eg]
    refine ⟨_, rfl, ⟨_, _, rfl, ?_, _, _, rfl, ?_, rfl⟩, ((E3.trans X4 (fun _ _ x => x) (fun m hm hm' => by omega)).put (Nat.le_refl _) _).put (by omega) _⟩
    · refine Own.mono _ (fun m hm => by omega) (fun m hm y hy => ?_) _ oD3
      have hml := (List.getElem?_eq_some_iff.1 hy).1
      rw [List.getElem?_set_ne (by omega), List.getElem?_set_ne (by omega), X4.2 m hml (by omega)]; exact hy
    · refine Own.mono _ (fun m hm => by omega) (fun m hm y hy => ?_) _ oR
      rw [List.getElem?_set_ne (by omega), List.getElem?_set_ne (by omega)]; exact hy
  have ld : alen d = some (.int .i64 x.hards.length) := by simpa using (Own.rd _ (F' := fun _ => True) (fun _ _ => trivial) _ oD3).len
  simp only [go_sem, reduceIte, Nat.reduceEqDiff, Nat.reduceAdd, Nat.reduceLeDiff, Nat.reducePow, Nat.reduceDiv, Nat.reduceMod, decide_true, decide_eq_false k4, D0, ld]
  refine vc_loop (fun m L h' => ∃ i : Nat, lk 2 L = .ptr h.length 2 0 0 ∧ lk 3 L = .ptr (h.length + 1) 17 0 0 ∧ lk 4 L = .ptr (h.length + 1 + 1) 2 0 0 ∧ lk 34 L = .int .i64 x.hards.length ∧ lk 35 L = .int .i64 i ∧ h' = H3 ∧ i ≤ x.hards.length ∧ m = x.hards.length - i ∧ ∀ (j : Nat) (hj : j < x.hards.length), j < i → x.hards[j].group ≠ c.group) x.hards.length ?_ ?_
  · exact ⟨0, by simp [lk_ins, lk_cons], by simp [lk_ins, lk_cons], by simp [lk_ins, lk_cons], by simp [lk_ins, lk_cons], by simp [lk_ins], rfl, by omega, by omega, by omega⟩
  · rintro m L h2 ⟨i, k2, k3, k4', k34, k35, rfl, hi, rfl, hj⟩
    simp only [c_image_Apply_l0, go_sem, reduceIte, Nat.reduceEqDiff, Nat.reduceAdd, Nat.reduceLeDiff, Nat.reducePow, Nat.reduceDiv, Nat.reduceMod, decide_true, k2, k3, k4', k34, k35]
    refine wCond_split (fun ci => ?_) (fun ci => ?_)
    · simp at ci
      obtain ⟨n, off, row, gg, hs, len, cap, rfl, hn, hix, hrow, hcs', hit, hput⟩ := own_item (j := i) (d0 := x.hards[i].c) oD3 (by simp [ci])
      obtain ⟨he, ho, hnn, hl, hss, rfl, qe, qo, qn, ql, qs⟩ := own_hardL hit
      have hpc : pcells h2 (.ptr n 10 (off + i) 0) = some (x.hards[i].cells he ho hnn hl hss) := by simp [pcells, hrow, hcs']
      have e1 : IntKind.i64.wrap (↑i + 1) = (i : Int) + 1 := wrap_i64 (by omega)
      have hcs2 := hcs'
      simp only [Hard.cells] at hcs2
      by_cases cg : x.hards[i].group = c.group
      · have hcg : (x.hards[i].group = c.group) = True := eq_true cg
        have eg : x.applied c = (if (x.hards[i].turned c).2 ≠ 0 then (⟨[], []⟩, (x.hards[i].turned c).2) else (⟨x.hards.set i (x.hards[i].turned c).1, x.votes⟩, 0)) := by simp only [Image.applied]; rw [if_neg ek, if_neg k4, turnIn_at _ _ i ci hj cg]
        rw [eg]
        have Z0 := fun z => (old1 (h := h2) (s := h.length) w0 z).trans D0
        have Z1 := fun z => (old1 (h := h2) (s := h.length + 1) (by omega) z).trans D1
        have Z2 := fun z => (old1 (h := h2) (s := h.length + 1 + 1) (by omega) z).trans D2
        have hnl := (List.getElem?_eq_some_iff.1 hrow).1
        have Zn := fun z => (old1 (h := h2) (s := n) hnl z).trans hrow
        have NR : ∀ m sz i o, m < h2.length → notRes h2.length 1 (.ptr m sz i o) = true := fun m sz i o hm => notRes_lt hm
        simp only [go_sem, reduceIte, Nat.reduceEqDiff, Nat.reduceAdd, Nat.reduceLeDiff, Nat.reducePow, Nat.reduceDiv, Nat.reduceMod, decide_true, k2, k3, k4', k34, k35, D0, D1, hix, hrow, hcs2, hcg, Z0, Z1, Zn, qe.scalar, qo.scalar, qn.scalar, ql.scalar, qs.scalar, oe.scalar, oo.scalar, on_.scalar, ol.scalar, os.scalar]
        refine ⟨NR _ _ _ _ (by omega), NR _ _ _ _ hnl, NR _ _ _ _ (by omega), ?_⟩
        have E1 := Ext.b1 (h := h2) none
        have tH : OwnL x.hards[i].c (fun m => (h.length + 3 ≤ m ∧ m < k ∧ m < H1.length) ∧ m ≠ n) (h2 ++ [none]) (x.hards[i].cells he ho hnn hl hss) := OwnL.mono _ (fun _ x => x) (E1.keep _) _ hit
        have tC : OwnL c.c (fun m => H1.length ≤ m ∧ m < h2.length) (h2 ++ [none]) (c.cells e' o' n' l' s') := OwnL.mono _ (fun _ x => x) (E1.keep _) _ (OwnL.lt _ _ oC3)
        refine wCall_use ⟨htu.1, htu.2 _ _ (h2 ++ [none]) x.hards[i] c _ _ tH tC (fun m hm hm' => by omega) (hlog _ (List.getElem_mem _)) hce⟩ ?_
        rintro _ H4 ⟨rs, rfl, oR, X4⟩
        obtain ⟨te, to, tn, tl, ts, rfl, ve, vo, vn, vl, vs⟩ := own_hardL oR
        have y4 := X4.1
        have yl : (h2 ++ [none]).length = h2.length + 1 := by simp
        have Y0 := X4.get (Z0 none)
        have Y1 := X4.get (Z1 none)
        have Y2 := X4.get (Z2 none)
        have Yn := X4.get (Zn none)
        have Yl := X4.get (bx10 h2 none)
        have m2 : h2.length < H4.length := by omega
        have q0 : (h2.length = h.length) = False := eq_false (by omega)
        have q1 : (h2.length = h.length + 1) = False := eq_false (by omega)
        have q2 : (h2.length = h.length + 1 + 1) = False := eq_false (by omega)
        have qn : (h2.length = n) = False := eq_false (by omega)
        have XH : Ext nof h H4 := (E3.tr E1).tr X4
        by_cases ce : (x.hards[i].turned c).2 = 0
        · have ce' : ¬ (x.hards[i].turned c).2 ≠ 0 := by simpa using ce
          rw [if_neg ce']
          have p0 : (n = h.length) = False := eq_false (by omega)
          have p2 : (n = h.length + 1 + 1) = False := eq_false (by omega)
          have m0' : h.length < H4.length := by omega
          have m2' : h.length + 1 + 1 < H4.length := by omega
          have Yn5 : (H4.set h2.length (some (.arr 10 [(x.hards[i].turned c).1.cells te to tn tl ts] false)))[n]? = _ := (List.getElem?_set_ne (by omega)).trans Yn
          have hc10 : (x.hards[i].cells he ho hnn hl hss).length = 10 := rfl
          have st := astore_elem (x := .agg ((x.hards[i].turned c).1.cells te to tn tl ts)) Yn5 hcs' rfl rfl rfl (by simp only [Hard.cells]; simp only [go_sem, reduceIte, Nat.reduceEqDiff, Nat.reduceAdd, Nat.reduceLeDiff, Nat.reducePow, Nat.reduceDiv, Nat.reduceMod, decide_true, ve.scalar, vo.scalar, vn.scalar, vl.scalar, vs.scalar])
          simp only [Hard.cells] at st
          simp only [Hard.cells, go_sem, reduceIte, Nat.reduceEqDiff, Nat.reduceAdd, Nat.reduceLeDiff, Nat.reducePow, Nat.reduceDiv, Nat.reduceMod, decide_true, Y0, Y1, Y2, Yn, Yl, q0, q1, q2, qn, p0, p2, m2, m0', m2', hcs2, ce, k2, k3, k4', List.length_set, List.set_set, ve.scalar, vo.scalar, vn.scalar, vl.scalar, vs.scalar, hix, st, oV3.scalar]
          have hold : ∀ m, m < h2.length → m ≠ n → (H4.set h2.length (some (.arr 10 [(x.hards[i].turned c).1.cells te to tn tl ts] false)))[m]? = h2[m]? := fun m hm _ => by
            rw [List.getElem?_set_ne (by omega), X4.2 m (by omega) (fun x => x), old1 hm]
          have lH5 : (H4.set h2.length (some (.arr 10 [(x.hards[i].turned c).1.cells te to tn tl ts] false))).length = H4.length := List.length_set
          have oN : OwnL (x.hards[i].turned c).1.c (fun m => h.length + 3 ≤ m ∧ m ≠ n) (H4.set h2.length (some (.arr 10 [(x.hards[i].turned c).1.cells te to tn tl ts] false))) ((x.hards[i].turned c).1.cells te to tn tl ts) := by
            refine OwnL.mono _ (fun m hm => ?_) (fun m hm y hy => ?_) _ oR
            · rw [yl] at hm; omega
            · rw [yl] at hm
              rw [List.getElem?_set_ne (by omega)]; exact hy
          have oF := hput (fun m => h.length + 3 ≤ m) _ _ _ (fun m hm => hm.1) (fun m hm y hy => by rw [hold m (by omega) hm.2]; exact hy) (Yn5.trans hrow.symm) oN
          rw [← List.map_set] at oF
          simp only [Hard.cells] at oF hold lH5
          refine ⟨_, rfl, ⟨_, _, rfl, ?_, _, _, rfl, ?_, rfl⟩, ?_⟩
          · exact Own.mono _ (fun m hm => by omega) (fun m hm y hy => by rw [List.getElem?_set_ne (by omega)]; exact hy) _ oF
          · refine Own.mono _ (fun m hm => by omega) (fun m hm y hy => ?_) _ oV3
            rw [List.getElem?_set_ne (by omega), List.getElem?_set_ne (by omega), hold m (by omega) (by omega)]; exact hy
          · exact ((XH.put (by omega) _).put (by omega) _).put (by omega) _
        · have ce' : (x.hards[i].turned c).2 ≠ 0 := ce
          rw [if_pos ce']
          have m2' : h.length + 1 + 1 < H4.length := by omega
          simp only [Hard.cells, go_sem, reduceIte, Nat.reduceEqDiff, Nat.reduceAdd, Nat.reduceLeDiff, Nat.reducePow, Nat.reduceDiv, Nat.reduceMod, decide_true, Y0, Y1, Y2, Yn, Yl, q0, q1, q2, qn, m2, m2', hcs2, decide_eq_false ce, k2, k3, k4', List.length_set, List.set_set, ve.scalar, vo.scalar, vn.scalar, vl.scalar, vs.scalar]
          exact ⟨_, rfl, ⟨_, _, rfl, Own.nils _, _, _, rfl, Own.nils _, rfl⟩, (XH.put (by omega) _).put (by omega) _⟩
      · have hcg : (x.hards[i].group = c.group) = False := eq_false cg
        simp only [go_sem, reduceIte, Nat.reduceEqDiff, Nat.reduceAdd, Nat.reduceLeDiff, Nat.reducePow, Nat.reduceDiv, Nat.reduceMod, decide_true, k2, k3, k4', k34, k35, D0, D1, hix, hrow, hcs2, decide_eq_false cg, e1]
        refine ⟨_, by omega, i + 1, by simp, by omega, rfl, fun j hj' hji => ?_⟩
        by_cases e : j = i
        · subst e; exact cg
        · exact hj j hj' (by omega)
    · simp at ci
      obtain rfl : i = x.hards.length := by omega
      have eg : x.applied c = (⟨[], []⟩, 6) := by simp only [Image.applied]; rw [if_neg ek, if_neg k4, turnIn_none _ _ (fun j hj' => hj j hj' hj')]
      simp only [go_sem, reduceIte, Nat.reduceEqDiff, Nat.reduceAdd, Nat.reduceLeDiff, Nat.reducePow, Nat.reduceDiv, Nat.reduceMod, decide_true, k2, k3, k4', D2, w2]
      rw [eg]
      exact ⟨_, rfl, ⟨_, _, rfl, Own.nils _, _, _, rfl, Own.nils _, rfl⟩, E3.put (by omega) _⟩

end Glb
