/-
  The document's image behind a change.
-/
import Derived.Test.YtodbhmdfmdfiaaaGreatGlbTurn1
set_option linter.unusedSimpArgs false
set_option linter.unusedVariables false
namespace Glb
open Go
set_option maxRecDepth 10000
set_option maxHeartbeats 16000000

/-! votes, as the document lays them -/
def accStep (v : Vote) (s : List Vote × Bool) (a : Vote) : List Vote × Bool :=
  ((if !s.2 && !(a.ahead v) then s.1 ++ [v] else s.1) ++ (if (decide (a.txn ≠ v.txn) || decide (a.part ≠ v.part)) = true then [a] else []), s.2 || !(a.ahead v))
def accEnd (v : Vote) (s : List Vote × Bool) : List Vote := if s.2 then s.1 else s.1 ++ [v]
theorem accStep_true (v : Vote) : ∀ (l o : List Vote), l.foldl (accStep v) (o, true) = (o ++ l.filter (fun a => decide (a.txn ≠ v.txn) || decide (a.part ≠ v.part)), true)
  | [], o => by simp
  | a :: r, o => by
    simp only [List.foldl_cons]
    rw [show accStep v (o, true) a = (o ++ (if (decide (a.txn ≠ v.txn) || decide (a.part ≠ v.part)) = true then [a] else []), true) by simp [accStep], accStep_true v r]
    rw [List.filter_cons]
    split <;> simp
theorem accEnd_eq (v : Vote) : ∀ (l o : List Vote), ordB Vote.ahead l = true → accEnd v (l.foldl (accStep v) (o, false)) = o ++ accepted l v
  | [], o, _ => by simp [accEnd, accepted]
  | a :: r, o, h => by
    obtain ⟨h1, h2⟩ := ordB_cons Vote.ahead_tr h
    simp only [List.foldl_cons]
    cases c : a.ahead v with
    | true =>
      have n1 := (ahead_ne c).1
      have e : accStep v (o, false) a = (o ++ [a], false) := by simp only [accStep, c, n1]; simp
      rw [e, accEnd_eq v r _ h1]
      simp only [accepted, c, if_true]
      simp
    | false =>
      have e : accStep v (o, false) a = ((o ++ [v]) ++ (if (decide (a.txn ≠ v.txn) || decide (a.part ≠ v.part)) = true then [a] else []), true) := by simp only [accStep, c]; simp
      rw [e, accStep_true]
      have c2 := c
      rw [Vote.ahead_not] at c2
      have hv : ∀ b ∈ r, v.ahead b = true := fun b hb => by have := h2 b hb; rw [Vote.ahead_iff] at this ⊢; omega
      have fr : r.filter (fun a => decide (a.txn ≠ v.txn) || decide (a.part ≠ v.part)) = r := filter_all fun b hb => (ahead_ne (hv b hb)).2
      simp only [accEnd, if_true, accepted, c, fr]
      by_cases k : a.txn = v.txn ∧ a.part = v.part
      · simp [k]
      · have n : (decide (a.txn ≠ v.txn) || decide (a.part ≠ v.part)) = true := by simp; omega
        rw [if_pos n, if_neg k]; simp

/-- an item of a row of one's own is read, and written -/
theorem OwnO.item {lo : Nat} {h : AHeap} {sz : Nat} {a : AV} {es : List (List AV)} {e : List AV} {i : Nat} (ho : OwnO lo h sz a es) (hi : es[i]? = some e) :
    ∃ n j row g, aindex sz a (.int .i64 i) = some (.ptr n sz j 0) ∧ lo ≤ n ∧ h[n]? = some (some (.arr sz row g)) ∧ row[j]? = some e ∧
      ∀ (h' : AHeap), h'[n]? = h[n]? → ∀ (e' : List AV), OwnO lo (h'.set n (some (.arr sz (row.set j e') g))) sz a (es.set i e') := by
  have hil := (List.getElem?_eq_some_iff.1 hi).1
  rcases ho with ⟨rfl, rfl⟩ | ⟨n, off, cap, row, g, rfl, hn, hrow, hle, hcl, h5, h6, h7⟩
  · simp at hil
  · refine ⟨n, off + i, row, g, ?_, hn, hrow, ?_, fun h' hn' e' => ?_⟩
    · simp only [aindex]; rw [if_pos ⟨trivial, by omega, by omega⟩]; simp
    · rw [← h7, List.getElem?_take, if_pos hil, List.getElem?_drop] at hi; exact hi
    · have hlt := (List.getElem?_eq_some_iff.1 (hn'.trans hrow)).1
      refine .inr ⟨n, off, cap, _, g, by rw [List.length_set], hn, List.getElem?_set_self hlt, by rw [List.length_set, List.length_set]; exact hle, by rw [List.length_set]; exact hcl, h5, by rw [List.length_set]; exact h6, ?_⟩
      rw [List.length_set]
      have : ((row.set (off + i) e').drop off).take es.length = (((row.drop off).take es.length).set i e') := by
        apply List.ext_getElem?
        intro q
        simp only [List.getElem?_take, List.getElem?_drop, List.getElem?_set, List.length_take, List.length_drop]
        by_cases e1 : q < es.length
        · rw [if_pos e1]
          by_cases e2 : i = q
          · subst e2
            rw [if_pos rfl, if_pos rfl, if_pos (by omega), if_pos (by omega)]
          · rw [if_neg (by omega), if_neg e2, if_pos e1]
        · rw [if_neg e1, if_neg (by omega), if_neg e1]
      rw [this, h7]

/-- only the list's own row is touched -/
theorem acc_app2 {lo sz bytes : Nat} {h0 h : AHeap} {av : AV} {es ys : List (List AV)} (ho : OwnO lo h0 sz av es) (hx : Ext nof h0 h) (hlo : lo ≤ h0.length)
    (hb : (es.length + ys.length) * bytes ≤ 2 ^ 46) : ∃ av' h', aappendY h sz bytes av ys = some (av', h') ∧ OwnO lo h' sz av' (es ++ ys) ∧ Ext (fun m => lo ≤ m ∧ m < h0.length) h h' := by
  have fresh : ∀ (hh : AHeap) (es' : List (List AV)), lo ≤ hh.length → OwnO lo (append1 hh sz es').2 sz (append1 hh sz es').1 es' := by
    intro hh es' hl
    exact .inr ⟨hh.length, 0, none, es', true, rfl, hl, by simp [append1], by omega, (fun c hc => by cases hc), (fun _ => rfl), (fun c hc => by cases hc), by simp⟩
  rcases ho with ⟨rfl, rfl⟩ | ⟨n, off, cap, row, g, rfl, hn, hrow, hle, hcl, hcn, hcs, he⟩
  · refine ⟨(append1 h sz ys).1, (append1 h sz ys).2, ?_, fresh h ys (Nat.le_trans hlo hx.1), Ext.app _ _ _⟩
    simp only [aappendY]; rw [if_pos (by simpa using hb)]
  · have hnl0 : n < h0.length := (List.getElem?_eq_some_iff.1 hrow).1
    have hnlt := (List.getElem?_eq_some_iff.1 hrow).1
    have hrow1 : h[n]? = some (some (.arr sz row g)) := hx.get hrow
    have hnlt1 := (List.getElem?_eq_some_iff.1 hrow1).1
    simp only [aappendY, hrow1]
    rw [if_pos ⟨trivial, trivial, hle, hb⟩]
    cases cap with
    | none =>
      obtain rfl := hcn rfl
      simp only [if_true]
      rw [List.drop_zero] at he
      refine ⟨_, _, rfl, ?_, (Ext.set none (fun _ => ⟨hn, hnl0⟩)).trans (Ext.app (fun m => lo ≤ m ∧ m < h0.length) _ _) (fun _ _ x => x) (fun _ _ x => x)⟩
      rw [he]
      exact fresh _ _ (by simp; omega)
    | some c =>
      have hc1 := hcl c rfl
      have hc2 := hcs c rfl
      cases c with
      | zero =>
        have hes : es = [] := List.eq_nil_of_length_eq_zero (by omega)
        subst hes
        simp only [List.length_nil, if_true]
        by_cases hy0 : ys.length = 0
        · rw [if_pos hy0]
          have hys : ys = [] := List.eq_nil_of_length_eq_zero hy0
          subst hys
          exact ⟨_, _, rfl, .inr ⟨n, off, some 0, row, g, rfl, hn, hrow1, hle, hcl, hcn, hcs, he⟩, Ext.refl _ _⟩
        · rw [if_neg hy0]
          exact ⟨(append1 h sz ys).1, (append1 h sz ys).2, rfl, fresh h ys (by omega), Ext.app _ _ _⟩
      | succ c =>
        simp only
        by_cases hcap : c + 1 < es.length + ys.length
        · rw [if_pos hcap, he]
          exact ⟨_, _, rfl, fresh _ _ (by omega), Ext.app _ _ _⟩
        · rw [if_neg hcap, if_pos (by omega)]
          have hsl : (splice row (off + es.length) ys).length = row.length := by simp [splice]; omega
          refine ⟨_, _, rfl, .inr ⟨n, off, some (c + 1), splice row (off + es.length) ys, g, by rw [List.length_append], hn, by rw [List.getElem?_set_self hnlt1], by rw [hsl, List.length_append]; omega,
            (fun c' hc' => by cases hc'; rw [List.length_append]; omega), (fun e => by cases e), (fun c' hc' => by cases hc'; rw [hsl]; exact hc2), ?_⟩, Ext.set _ (fun _ => ⟨hn, hnl0⟩)⟩
          apply List.ext_getElem?
          intro i
          have hei : ∀ i, i < es.length → row[off + i]? = es[i]? := fun i hi => by
            have : es[i]? = ((row.drop off).take es.length)[i]? := by rw [he]
            rw [this, List.getElem?_take_of_lt hi, List.getElem?_drop]
          simp only [List.getElem?_take, List.getElem?_drop, List.length_append, splice, List.getElem?_append, List.length_take, List.length_append, List.length_drop]
          rw [show min (off + es.length) row.length = off + es.length by omega]
          by_cases h1 : i < es.length
          · rw [if_pos (by omega), if_pos (by omega), if_pos (by omega), if_pos (by omega), if_pos h1]
            exact hei i h1
          · by_cases h2 : i < es.length + ys.length
            · rw [if_pos h2, if_pos (by omega), if_neg (by omega), if_neg h1]
              congr 1; omega
            · rw [if_neg h2, if_neg h1, List.getElem?_eq_none (by omega)]

/-- votes that are being laid: the row in the second cell of a box -/
def AccJ (q : Nat) (o : AV) (H3 h2 : AHeap) (w : AV) (l : List Vote) : Prop :=
  h2[q]? = some (some (.arr 2 [[o, w]] false)) ∧ OwnO H3.length h2 5 w (D.avLL (l.map Vote.c)) ∧ (∀ m, m < H3.length → m ≠ q → h2[m]? = H3[m]?) ∧ H3.length ≤ h2.length
theorem AccJ.ext {q : Nat} {o : AV} {H3 h2 : AHeap} {w : AV} {l : List Vote} (j : AccJ q o H3 h2 w l) (hq : q < H3.length) (z : Option ABlk) : AccJ q o H3 (h2 ++ [z]) w l := by
  obtain ⟨j1, j2, j3, j4⟩ := j
  exact ⟨(List.getElem?_append_left (by omega)).trans j1, j2.kp (fun m _ hm => List.getElem?_append_left hm), fun m hm hm' => (List.getElem?_append_left (by omega)).trans (j3 m hm hm'), by simp; omega⟩
theorem AccJ.app {q : Nat} {o : AV} {H3 h2 : AHeap} {w : AV} {l : List Vote} (j : AccJ q o H3 h2 w l) (hq : q < H3.length) (hl : l.length ≤ 2^40) (u : Vote) :
    ∃ w' h4, aappend (h2 ++ [some (.arr 5 [[.int .i64 u.txn, .int .i64 u.part, .int .i64 u.promised, .int .i64 u.ballot, .int .i64 u.value]] false)]) 5 40 w (.ref h2.length 5 0 1 (some 1)) = some (w', h4) ∧ h4[q]? = some (some (.arr 2 [[o, w]] false)) ∧ w'.scalar = true ∧ h2.length < h4.length ∧
      AccJ q o H3 (h4.set q (some (.arr 2 [[o, w']] false))) w' (l ++ [u]) := by
  obtain ⟨j1, j2, j3, j4⟩ := j
  obtain ⟨w2, h4, s1, s2, s3⟩ := acc_app (bytes := 40) (h := h2 ++ [some (.arr 5 [u.v] false)]) (ys := [u.v]) j2 (Ext.b1 _) (by omega) (by simp [avLL_length]; omega)
  rw [← aappend_of (aelems_new h2 5 [u.v] false (some 1) (len := 1) rfl)] at s1
  have hl3 := s3.1
  simp only [len_app1] at hl3
  have D3 := (s3.2 q (by simp; omega) (by omega)).trans ((Ext.b1 _).get j1)
  rw [Vote.v_eq] at s1
  refine ⟨w2, h4, s1, D3, s2.scalar, by omega, List.getElem?_set_self (by omega), ?_, fun m hm hm' => ?_, by rw [List.length_set]; omega⟩
  · refine (s2.setq hq _).ds ?_
    simp [avLL_map]; rfl
  · rw [List.getElem?_set_ne (by omega), s3.2 m (by simp; omega) (by omega), List.getElem?_append_left (by omega)]; exact j3 m hm hm'
theorem AccJ.appB {q : Nat} {o : AV} {H3 h2 : AHeap} {w : AV} {l : List Vote} (j : AccJ q o H3 h2 w l) (hq : q < H3.length) (hl : l.length ≤ 2^40) (u : Vote) (B : Option ABlk) :
    ∃ w' h4, aappend (h2 ++ [B] ++ [some (.arr 5 [[.int .i64 u.txn, .int .i64 u.part, .int .i64 u.promised, .int .i64 u.ballot, .int .i64 u.value]] false)]) 5 40 w (.ref (h2.length + 1) 5 0 1 (some 1)) = some (w', h4) ∧ h4[q]? = some (some (.arr 2 [[o, w]] false)) ∧ w'.scalar = true ∧ h2.length < h4.length ∧
      h4[h2.length]? = some B ∧ AccJ q o H3 (h4.set q (some (.arr 2 [[o, w']] false))) w' (l ++ [u]) := by
  obtain ⟨j1, j2, j3, j4⟩ := j
  obtain ⟨w2, h4, s1, s2, s3⟩ := acc_app2 (bytes := 40) (h := h2 ++ [B] ++ [some (.arr 5 [u.v] false)]) (ys := [u.v]) j2 (Ext.b2 _ _) (by omega) (by simp [avLL_length]; omega)
  have ye : aelems (h2 ++ [B] ++ [some (.arr 5 [u.v] false)]) 5 (.ref (h2.length + 1) 5 0 1 (some 1)) = some [u.v] := aelems_at (bx21 _ _ _) _ rfl
  rw [← aappend_of ye] at s1
  have hl3 := s3.1
  simp only [List.length_append, List.length_cons, List.length_nil] at hl3
  have D3 := (s3.2 q (by simp; omega) (by omega)).trans ((Ext.b2 _ _).get j1)
  have DB := (s3.2 h2.length (by simp) (by omega)).trans (bx20 h2 B _)
  rw [Vote.v_eq] at s1
  refine ⟨w2, h4, s1, D3, s2.scalar, by omega, DB, List.getElem?_set_self (by omega), ?_, fun m hm hm' => ?_, by rw [List.length_set]; omega⟩
  · refine (s2.setq hq _).ds ?_
    simp [avLL_map]; rfl
  · rw [List.getElem?_set_ne (by omega), s3.2 m (by simp; omega) (by omega), List.getElem?_append_left (by simp; omega), List.getElem?_append_left (by omega)]; exact j3 m hm hm'
theorem accStep_len (v : Vote) : ∀ (l : List Vote) (s : List Vote × Bool), (l.foldl (accStep v) s).1.length ≤ s.1.length + 2 * l.length
  | [], s => by simp
  | a :: r, s => by
    have := accStep_len v r (accStep v s a)
    have h2 : (accStep v s a).1.length ≤ s.1.length + 2 := by
      simp only [accStep, List.length_append]
      split <;> split <;> simp
    simp only [List.foldl_cons, List.length_cons]; omega

theorem mod_set {row : List (List AV)} {j : Nat} {e cs : List AV} (hr : row[j]? = some e) (hl : e.length = cs.length) : row.modify j (fun x => setMany x 0 cs) = row.set j cs := by
  have hj := (List.getElem?_eq_some_iff.1 hr).1
  apply List.ext_getElem?
  intro q
  simp only [List.getElem?_modify, List.getElem?_set]
  by_cases e1 : j = q
  · subst e1
    simp only [if_true, hj, hr]
    show some (setMany e 0 cs) = some cs
    rw [setMany_new hl]
  · simp [e1]

def RefApplyP (P : Program) (f : FuncId) : Prop := isFn P f = true ∧ ∀ (F : Nat → Prop) (h : AHeap) (x : Image) (c : Change) (as cs : List AV), RdL F h x.c as → RdL F h c.c cs → x.few → c.few → (∀ y ∈ x.hards, LogOk y.log) → x.ordered = true →
  ACalls P f [.agg as, .agg cs] h fun r h' => r = .tup [.agg (x.applied c).1.v, .int .i64 (x.applied c).2] ∧ h' = h

theorem r_Apply_ok {P : Program} {f ci ah tu : FuncId} (hf : Is P f (c_gleberef13_Apply ci ah tu)) (hci : CopyImageO P ci) (hah : AheadOk P ah) (htu : TurnedP P tu) : RefApplyP P f := by
  refine ⟨hf.2, fun F h x c as cs ha hc hx hcf hlog hord => ?_⟩
  refine ACalls.freeze (K := fun r h' => ∃ zs, r = .tup [.agg zs, .int .i64 (x.applied c).2] ∧ FzL h.length h' (x.applied c).1.c zs ∧ Ext nof h h') (fun_sound hf.1 (Nat.le_of_ble_eq_true rfl) ?_) (fun _ _ ⟨_, e, hz, hx⟩ => ⟨hx, _, e ▸ Frz.tup2 (Frz.aggD hz) (Frz.int _ _), rfl⟩)
  show vc P (c_gleberef13_Apply ci ah tu).code ⟨[(0, .agg as), (1, .agg cs)], [], h⟩ (atEnd (c_gleberef13_Apply ci ah tu).res _)
  have ha0 := fun H (e : Ext nof h H) => ha.up e
  have hc0 := fun H (e : Ext nof h H) => hc.up e
  obtain ⟨xd, xv, rfl, hd, hv⟩ := rd_image ha
  obtain ⟨e2, o2, n2, d2, s2, rfl, he2, ho2, hn2, hd2, hs2⟩ := rd_changeL hc
  have lv : alen xv = some (.int .i64 x.votes.length) := by simpa using hv.len
  simp only [Change.cells] at hc0
  have hxl := hx.1
  have hxv := hx.2.1
  simp only [c_gleberef13_Apply, Change.cells, go_sem, reduceIte, Nat.reduceEqDiff, Nat.reduceAdd, Nat.reduceLeDiff, Nat.reducePow, Nat.reduceDiv, Nat.reduceMod, decide_true, hd.scalar, hv.scalar, he2.scalar, ho2.scalar, hn2.scalar, hd2.scalar, hs2.scalar]
  generalize hC : ABlk.arr 17 [[AV.int IntKind.i64 c.kind, AV.int IntKind.i64 c.group, AV.int IntKind.i64 c.term, AV.int IntKind.i64 c.voted, AV.int IntKind.i64 c.from_, AV.int IntKind.i64 c.log.base, AV.int IntKind.i64 c.log.bterm, e2, o2, n2, d2, s2, AV.int IntKind.i64 c.vote.txn, AV.int IntKind.i64 c.vote.part, AV.int IntKind.i64 c.vote.promised, AV.int IntKind.i64 c.vote.ballot, AV.int IntKind.i64 c.vote.value]] false = CB
  have B0 := bx30 h (some (.arr 2 [[xd, xv]] false)) (some CB) (some (.arr 2 [[.nils, .nils]] false))
  have B1 := bx31 h (some (.arr 2 [[xd, xv]] false)) (some CB) (some (.arr 2 [[.nils, .nils]] false))
  have B2 := bx32 h (some (.arr 2 [[xd, xv]] false)) (some CB) (some (.arr 2 [[.nils, .nils]] false))
  have X0 := Ext.b3 (h := h) (some (.arr 2 [[xd, xv]] false)) (some CB) (some (.arr 2 [[.nils, .nils]] false))
  have lH : (h ++ [some (ABlk.arr 2 [[xd, xv]] false)] ++ [some CB] ++ [some (ABlk.arr 2 [[AV.nils, AV.nils]] false)]).length = h.length + 3 := by simp
  generalize h ++ [some (ABlk.arr 2 [[xd, xv]] false)] ++ [some CB] ++ [some (ABlk.arr 2 [[AV.nils, AV.nils]] false)] = H at *
  subst hC
  refine wCall_use ⟨hci.1, hci.2 F H x _ (ha0 H X0) hx⟩ ?_
  rintro _ H1 ⟨o, rfl, hO, X1⟩
  have lx1 := X1.1
  have Z := Ext.b1 (h := H1) (some (.arr 2 [[o, avotes x.votes]] false))
  have C0 := (X1.tr Z).get B0
  have C1 := (X1.tr Z).get B1
  have C2 := (X1.tr Z).get B2
  have C3 := bx10 H1 (some (.arr 2 [[o, avotes x.votes]] false))
  have K2 : ∀ m, m < H1.length → (H1 ++ [some (ABlk.arr 2 [[o, avotes x.votes]] false)])[m]? = H1[m]? := fun m hm => List.getElem?_append_left hm
  simp only [go_sem, reduceIte, Nat.reduceEqDiff, Nat.reduceAdd, Nat.reduceLeDiff, Nat.reducePow, Nat.reduceDiv, Nat.reduceMod, decide_true, hO.scalar, scalar_avotes, cells_of hO.scalar, cells_avotes]
  have X2 := (X0.tr X1).tr Z
  have lH2 : (H1 ++ [some (ABlk.arr 2 [[o, avotes x.votes]] false)]).length = H1.length + 1 := by simp
  generalize H1 ++ [some (ABlk.arr 2 [[o, avotes x.votes]] false)] = H2 at *
  have l2 := (List.getElem?_eq_some_iff.1 C2).1
  have none' : ∀ (e : Int) (H : AHeap), x.applied c = (⟨[], []⟩, e) → Ext nof h H → ∃ zs, AV.tup [.agg [.nils, .nils], .int .i64 e] = .tup [.agg zs, .int .i64 (x.applied c).2] ∧ FzL h.length H (x.applied c).1.c zs ∧ Ext nof h H := by
    intro e H eg ex
    rw [eg]
    exact ⟨_, rfl, ⟨_, _, rfl, fz_nil0 _ _ _, _, _, rfl, fz_nil0 _ _ _, rfl⟩, ex⟩
  by_cases k1 : c.kind < 1
  · simp only [go_sem, reduceIte, Nat.reduceEqDiff, Nat.reduceAdd, Nat.reduceLeDiff, Nat.reducePow, Nat.reduceDiv, Nat.reduceMod, decide_true, C0, C1, C2, l2, decide_eq_true k1]
    exact none' 13 _ (by simp only [Image.applied]; rw [if_pos (.inl k1)]) (X2.setNew (by omega) _)
  by_cases k5 : 4 < c.kind
  · simp only [go_sem, reduceIte, Nat.reduceEqDiff, Nat.reduceAdd, Nat.reduceLeDiff, Nat.reducePow, Nat.reduceDiv, Nat.reduceMod, decide_true, C0, C1, C2, l2, decide_eq_false k1, decide_eq_true k5]
    exact none' 13 _ (by simp only [Image.applied]; rw [if_pos (.inr k5)]) (X2.setNew (by omega) _)
  by_cases k4 : c.kind = 4
  · simp only [go_sem, reduceIte, Nat.reduceEqDiff, Nat.reduceAdd, Nat.reduceLeDiff, Nat.reducePow, Nat.reduceDiv, Nat.reduceMod, decide_true, C0, C1, C2, C3, l2, decide_eq_false k1, decide_eq_false k5, decide_eq_true k4]
    have lq : H1.length < H2.length := by omega
    have lH3 : (H2.set H1.length (some (ABlk.arr 2 [[o, AV.nils]] false))).length = H2.length := List.length_set
    have J0 : AccJ H1.length o (H2.set H1.length (some (ABlk.arr 2 [[o, AV.nils]] false))) (H2.set H1.length (some (ABlk.arr 2 [[o, AV.nils]] false))) .nils [] := ⟨List.getElem?_set_self lq, .inl ⟨rfl, by simp [D.avLL]⟩, fun _ _ _ => rfl, Nat.le_refl _⟩
    have X3 : Ext nof h (H2.set H1.length (some (ABlk.arr 2 [[o, AV.nils]] false))) := X2.setNew (by omega) _
    have D0 : (H2.set H1.length (some (ABlk.arr 2 [[o, AV.nils]] false)))[h.length]? = _ := (List.getElem?_set_ne (by omega)).trans C0
    have D1 : (H2.set H1.length (some (ABlk.arr 2 [[o, AV.nils]] false)))[h.length + 1]? = _ := (List.getElem?_set_ne (by omega)).trans C1
    have D2 : (H2.set H1.length (some (ABlk.arr 2 [[o, AV.nils]] false)))[h.length + 1 + 1]? = _ := (List.getElem?_set_ne (by omega)).trans C2
    have K3 : ∀ m, m < H1.length → (H2.set H1.length (some (ABlk.arr 2 [[o, AV.nils]] false)))[m]? = H1[m]? := fun m hm => (List.getElem?_set_ne (by omega)).trans (K2 m hm)
    generalize H2.set H1.length (some (ABlk.arr 2 [[o, AV.nils]] false)) = H3 at *
    obtain ⟨I, hI⟩ : ∃ I : Nat → Env → AHeap → Prop, ∀ m L h', I m L h' ↔ ∃ (i : Nat) (w : AV), lk 2 L = .ptr h.length 2 0 0 ∧ lk 3 L = .ptr (h.length + 1) 17 0 0 ∧ lk 4 L = .ptr (h.length + 1 + 1) 2 0 0 ∧ lk 6 L = .ptr H1.length 2 0 0 ∧ lk 7 L = .bool ((x.votes.take i).foldl (accStep c.vote) ([], false)).2 ∧ lk 8 L = .int .i64 i ∧
        AccJ H1.length o H3 h' w ((x.votes.take i).foldl (accStep c.vote) ([], false)).1 ∧ i ≤ x.votes.length ∧ m = x.votes.length - i := ⟨_, fun _ _ _ => Iff.rfl⟩
    refine vc_loop I x.votes.length ((hI _ _ _).2 ⟨0, .nils, by simp [lk_ins, lk_cons], by simp [lk_ins, lk_cons], by simp [lk_ins, lk_cons], by simp [lk_ins, lk_cons], by simp [lk_ins], by simp [lk_ins], J0, by omega, by omega⟩) ?_
    intro m L h2 hh
    obtain ⟨i, w, k2, k3, k4', k6, k7, k8, J, hi, rfl⟩ := (hI _ _ _).1 hh
    have E0 := (J.2.2.1 _ (by omega) (by omega)).trans D0
    have E1 := (J.2.2.1 _ (by omega) (by omega)).trans D1
    have E2 := (J.2.2.1 _ (by omega) (by omega)).trans D2
    have lh2 := J.2.2.2
    simp only [c_gleberef13_Apply_l0, go_sem, reduceIte, Nat.reduceEqDiff, Nat.reduceAdd, Nat.reduceLeDiff, Nat.reducePow, Nat.reduceDiv, Nat.reduceMod, decide_true, k2, k3, k4', k6, k7, k8, E0, lv]
    refine wCond_split (fun ci => ?_) (fun ci => ?_)
    · simp at ci
      obtain ⟨p, cs, hp1, hp2, hcs⟩ := (hv.up X3).index .i64 (i := i) (d := x.votes[i].c) (by omega) (by simp [ci])
      obtain rfl := rd_vote hcs
      have XK : Ext nof h h2 := ⟨by omega, fun m hm _ => (J.2.2.1 m (by omega) (by omega)).trans (X3.2 m hm (fun x => x))⟩
      obtain ⟨p, cs, hp1, hp2, hcs⟩ := (hv.up XK).index .i64 (i := i) (d := x.votes[i].c) (by omega) (by simp [ci])
      obtain rfl := rd_vote hcs
      have ld2 := aload_p hp2 true 5
      rw [take_agg, if_pos (by simp), List.take_of_length_le (by simp)] at ld2
      have e1 : IntKind.i64.wrap (↑i + 1) = (i : Int) + 1 := wrap_i64 (by omega)
      have sl := accStep_len c.vote (x.votes.take i) ([], false)
      have tk : (x.votes.take (i + 1)).foldl (accStep c.vote) ([], false) = accStep c.vote ((x.votes.take i).foldl (accStep c.vote) ([], false)) x.votes[i] := by
        rw [List.take_succ_eq_append_getElem ci, List.foldl_append]; rfl
      have sl2 : ((x.votes.take i).foldl (accStep c.vote) ([], false)).1.length ≤ 2 * x.votes.length := by simp at sl; omega
      generalize (x.votes.take i).foldl (accStep c.vote) ([], false) = S at *
      -- the vote's box
      have Ja := J.ext (by omega) (some (.arr 5 [[AV.int IntKind.i64 x.votes[i].txn, AV.int IntKind.i64 x.votes[i].part, AV.int IntKind.i64 x.votes[i].promised, AV.int IntKind.i64 x.votes[i].ballot, AV.int IntKind.i64 x.votes[i].value]] false))
      have Bv := bx10 h2 (some (.arr 5 [[AV.int IntKind.i64 x.votes[i].txn, AV.int IntKind.i64 x.votes[i].part, AV.int IntKind.i64 x.votes[i].promised, AV.int IntKind.i64 x.votes[i].ballot, AV.int IntKind.i64 x.votes[i].value]] false))
      have F1 := (Ja.2.2.1 _ (by omega) (by omega)).trans D1
      have hq : H1.length < H3.length := by omega
      have sl3 : S.1.length ≤ 2^40 := by omega
      have wS := fun (w : AV) (hw : w.scalar = true) => cells_of hw
      have nb : ∀ z : Option ABlk, (h2 ++ [z]).length = h2.length + 1 := fun z => by simp
      have nq : (H1.length = h2.length) = False := eq_false (by omega)
      have nq2 : (H1.length = h.length + 1) = False := eq_false (by omega)
      have sw := J.2.1.scalar
      have as_eq : accStep c.vote S x.votes[i] = ((if !S.2 && !(x.votes[i].ahead c.vote) then S.1 ++ [c.vote] else S.1) ++ (if (decide (x.votes[i].txn ≠ c.vote.txn) || decide (x.votes[i].part ≠ c.vote.part)) = true then [x.votes[i]] else []), S.2 || !(x.votes[i].ahead c.vote)) := rfl
      rw [as_eq] at tk
      -- what comes behind
      have done : ∀ (L : Env) (H : AHeap) (w : AV) (l : List Vote) (b : Bool), AccJ H1.length o H3 H w l → l = ((x.votes.take (i + 1)).foldl (accStep c.vote) ([], false)).1 → b = ((x.votes.take (i + 1)).foldl (accStep c.vote) ([], false)).2 →
          lk 2 L = .ptr h.length 2 0 0 → lk 3 L = .ptr (h.length + 1) 17 0 0 → lk 4 L = .ptr (h.length + 1 + 1) 2 0 0 → lk 6 L = .ptr H1.length 2 0 0 → lk 7 L = .bool b → lk 8 L = .int .i64 ((i : Int) + 1) → ∃ m', m' < x.votes.length - i ∧ I m' L H := by
        rintro L H w l b j rfl rfl q2 q3 q4 q6 q7 q8
        exact ⟨_, by omega, (hI _ _ _).2 ⟨i + 1, w, q2, q3, q4, q6, q7, q8, j, by omega, rfl⟩⟩
      cases cS : S.2 with
      | true =>
        by_cases c1 : x.votes[i].txn = c.vote.txn
        · by_cases c2 : x.votes[i].part = c.vote.part
          · simp only [go_sem, reduceIte, Nat.reduceEqDiff, Nat.reduceAdd, Nat.reduceLeDiff, Nat.reducePow, Nat.reduceDiv, Nat.reduceMod, decide_true, k2, k3, k6, k7, k8, E0, hp1, ld2, cS, F1, Bv, decide_eq_true c1, decide_eq_true c2, e1]
            refine done _ _ w S.1 true Ja (by rw [tk]; simp [cS, c1, c2]) (by rw [tk]; simp [cS]) ?_ ?_ ?_ ?_ ?_ ?_ <;> simp [lk_ins, k2, k3, k4', k6, k7, cS]
          · obtain ⟨w', h6, s1, s2, s3, s4, J'⟩ := Ja.app hq sl3 x.votes[i]
            have F3 := Ja.1
            rw [nb] at s1 s4
            simp only [go_sem, reduceIte, Nat.reduceEqDiff, Nat.reduceAdd, Nat.reduceLeDiff, Nat.reducePow, Nat.reduceDiv, Nat.reduceMod, decide_true, k2, k3, k6, k7, k8, E0, hp1, ld2, cS, F1, Bv, F3, decide_eq_true c1, decide_eq_false c2, e1, s1, s2, s3, wS w' s3]
            refine done _ _ w' (S.1 ++ [x.votes[i]]) true J' (by rw [tk]; simp [cS, c1, c2]) (by rw [tk]; simp [cS]) ?_ ?_ ?_ ?_ ?_ ?_ <;> simp [lk_ins, k2, k3, k4', k6, k7, cS]
        · obtain ⟨w', h6, s1, s2, s3, s4, J'⟩ := Ja.app hq sl3 x.votes[i]
          have F3 := Ja.1
          rw [nb] at s1 s4
          simp only [go_sem, reduceIte, Nat.reduceEqDiff, Nat.reduceAdd, Nat.reduceLeDiff, Nat.reducePow, Nat.reduceDiv, Nat.reduceMod, decide_true, k2, k3, k6, k7, k8, E0, hp1, ld2, cS, F1, Bv, F3, decide_eq_false c1, e1, s1, s2, s3, wS w' s3]
          refine done _ _ w' (S.1 ++ [x.votes[i]]) true J' (by rw [tk]; simp [cS, c1]) (by rw [tk]; simp [cS]) ?_ ?_ ?_ ?_ ?_ ?_ <;> simp [lk_ins, k2, k3, k4', k6, k7, cS]
      | false =>
        simp only [go_sem, reduceIte, Nat.reduceEqDiff, Nat.reduceAdd, Nat.reduceLeDiff, Nat.reducePow, Nat.reduceDiv, Nat.reduceMod, decide_true, k2, k3, k6, k7, k8, E0, hp1, ld2, cS, F1, Bv]
        refine use1 hah.1 (hah.2 _ x.votes[i] c.vote _ _ rfl rfl) ?_
        cases ca : x.votes[i].ahead c.vote with
        | true =>
          by_cases c1 : x.votes[i].txn = c.vote.txn
          · by_cases c2 : x.votes[i].part = c.vote.part
            · simp only [go_sem, reduceIte, Nat.reduceEqDiff, Nat.reduceAdd, Nat.reduceLeDiff, Nat.reducePow, Nat.reduceDiv, Nat.reduceMod, decide_true, k2, k3, k6, k7, k8, F1, Bv, decide_eq_true c1, decide_eq_true c2, e1]
              refine done _ _ w S.1 false Ja (by rw [tk]; simp [cS, ca, c1, c2]) (by rw [tk]; simp [cS, ca]) ?_ ?_ ?_ ?_ ?_ ?_ <;> simp [lk_ins, k2, k3, k4', k6, k7, cS]
            · obtain ⟨w', h6, s1, s2, s3, s4, J'⟩ := Ja.app hq sl3 x.votes[i]
              have F3 := Ja.1
              rw [nb] at s1 s4
              simp only [go_sem, reduceIte, Nat.reduceEqDiff, Nat.reduceAdd, Nat.reduceLeDiff, Nat.reducePow, Nat.reduceDiv, Nat.reduceMod, decide_true, k2, k3, k6, k7, k8, F1, Bv, F3, decide_eq_true c1, decide_eq_false c2, e1, s1, s2, s3, wS w' s3]
              refine done _ _ w' (S.1 ++ [x.votes[i]]) false J' (by rw [tk]; simp [cS, ca, c1, c2]) (by rw [tk]; simp [cS, ca]) ?_ ?_ ?_ ?_ ?_ ?_ <;> simp [lk_ins, k2, k3, k4', k6, k7, cS]
          · obtain ⟨w', h6, s1, s2, s3, s4, J'⟩ := Ja.app hq sl3 x.votes[i]
            have F3 := Ja.1
            rw [nb] at s1 s4
            simp only [go_sem, reduceIte, Nat.reduceEqDiff, Nat.reduceAdd, Nat.reduceLeDiff, Nat.reducePow, Nat.reduceDiv, Nat.reduceMod, decide_true, k2, k3, k6, k7, k8, F1, Bv, F3, decide_eq_false c1, e1, s1, s2, s3, wS w' s3]
            refine done _ _ w' (S.1 ++ [x.votes[i]]) false J' (by rw [tk]; simp [cS, ca, c1]) (by rw [tk]; simp [cS, ca]) ?_ ?_ ?_ ?_ ?_ ?_ <;> simp [lk_ins, k2, k3, k4', k6, k7, cS]
        | false =>
          obtain ⟨w1, h4, s1, s2, s3, s4, s5, J1⟩ := J.appB hq sl3 c.vote (some (.arr 5 [[AV.int IntKind.i64 x.votes[i].txn, AV.int IntKind.i64 x.votes[i].part, AV.int IntKind.i64 x.votes[i].promised, AV.int IntKind.i64 x.votes[i].ballot, AV.int IntKind.i64 x.votes[i].value]] false))
          have F3 := Ja.1
          have G1 := (J1.2.2.1 _ (by omega) (by omega)).trans D1
          rw [List.getElem?_set_ne (by omega)] at G1
          have lq4 : H1.length < h4.length := by omega
          simp only [go_sem, reduceIte, Nat.reduceEqDiff, Nat.reduceAdd, Nat.reduceLeDiff, Nat.reducePow, Nat.reduceDiv, Nat.reduceMod, decide_true, k2, k3, k6, k7, F1, F3, s1, s2, s3, wS w1 s3, nq, nq2, s5, G1]
          by_cases c1 : x.votes[i].txn = c.vote.txn
          · by_cases c2 : x.votes[i].part = c.vote.part
            · simp only [go_sem, reduceIte, Nat.reduceEqDiff, Nat.reduceAdd, Nat.reduceLeDiff, Nat.reducePow, Nat.reduceDiv, Nat.reduceMod, decide_true, decide_eq_true c1, decide_eq_true c2, nq, nq2, s5, G1, k2, k3, k6, k8, e1]
              refine done _ _ w1 (S.1 ++ [c.vote]) true J1 (by rw [tk]; simp [cS, ca, c1, c2]) (by rw [tk]; simp [cS, ca]) ?_ ?_ ?_ ?_ ?_ ?_ <;> simp [lk_ins, k2, k3, k4', k6, k7, cS]
            · obtain ⟨w', h6, u1, u2, u3, u4, J'⟩ := J1.app hq (by simp; omega) x.votes[i]
              rw [List.length_set] at u1 u4
              simp only [go_sem, reduceIte, Nat.reduceEqDiff, Nat.reduceAdd, Nat.reduceLeDiff, Nat.reducePow, Nat.reduceDiv, Nat.reduceMod, decide_true, decide_eq_true c1, decide_eq_false c2, nq, nq2, s5, G1, lq4, k2, k3, k6, k8, e1, List.length_set, u1, u2, u3, wS w' u3]
              refine done _ _ w' ((S.1 ++ [c.vote]) ++ [x.votes[i]]) true J' (by rw [tk]; simp [cS, ca, c1, c2]) (by rw [tk]; simp [cS, ca]) ?_ ?_ ?_ ?_ ?_ ?_ <;> simp [lk_ins, k2, k3, k4', k6, k7, cS]
          · obtain ⟨w', h6, u1, u2, u3, u4, J'⟩ := J1.app hq (by simp; omega) x.votes[i]
            rw [List.length_set] at u1 u4
            simp only [go_sem, reduceIte, Nat.reduceEqDiff, Nat.reduceAdd, Nat.reduceLeDiff, Nat.reducePow, Nat.reduceDiv, Nat.reduceMod, decide_true, decide_eq_false c1, nq, nq2, s5, G1, lq4, k2, k3, k6, k8, e1, List.length_set, u1, u2, u3, wS w' u3]
            refine done _ _ w' ((S.1 ++ [c.vote]) ++ [x.votes[i]]) true J' (by rw [tk]; simp [cS, ca, c1]) (by rw [tk]; simp [cS, ca]) ?_ ?_ ?_ ?_ ?_ ?_ <;> simp [lk_ins, k2, k3, k4', k6, k7, cS]
    · simp at ci
      obtain rfl : i = x.votes.length := by omega
      rw [List.take_length] at J k7
      have eacc := accEnd_eq c.vote x.votes [] (by simp only [Image.ordered, Bool.and_eq_true] at hord; exact hord.2)
      rw [List.nil_append] at eacc
      have sl := accStep_len c.vote x.votes ([], false)
      generalize x.votes.foldl (accStep c.vote) ([], false) = S at *
      have F1 := (J.2.2.1 _ (by omega) (by omega)).trans D1
      have F3 := J.1
      have eg : x.applied c = (⟨x.hards, accepted x.votes c.vote⟩, 0) := by simp only [Image.applied]; rw [if_neg (by omega), if_pos k4]
      have fin4 : ∀ (H' : AHeap) (w' : AV) (l : List Vote) (y : Option ABlk), AccJ H1.length o H3 H' w' l → accepted x.votes c.vote = l → ∃ zs, AV.tup [.agg [o, w'], .int .i64 0] = .tup [.agg zs, .int .i64 (x.applied c).2] ∧ FzL h.length (H'.set (h.length + 1 + 1) y) (x.applied c).1.c zs ∧ Ext nof h (H'.set (h.length + 1 + 1) y) := by
        rintro H' w' l y ⟨j1, j2, j3, j4⟩ el
        rw [eg]
        have hO4 : OwnO (H.length + 3) (H'.set (h.length + 1 + 1) y) 10 o (D.avLL (x.hards.map Hard.c)) := hO.kp (fun m hm hm' => by rw [List.getElem?_set_ne (by omega), j3 m (by omega) (by omega), K3 m hm'])
        refine ⟨_, rfl, ⟨_, _, rfl, OwnO.fz hO4 (by omega), _, _, rfl, OwnO.fz ((j2.setq (by omega) _).ds (by rw [el])) (by omega), rfl⟩, ?_⟩
        exact ⟨by rw [List.length_set]; omega, fun m hm _ => by rw [List.getElem?_set_ne (by omega), j3 m (by omega) (by omega)]; exact X3.2 m hm (fun x => x)⟩
      have lE2 := (List.getElem?_eq_some_iff.1 E2).1
      have so := hO.scalar
      have sw := J.2.1.scalar
      cases cS : S.2 with
      | true =>
        simp only [go_sem, reduceIte, Nat.reduceEqDiff, Nat.reduceAdd, Nat.reduceLeDiff, Nat.reducePow, Nat.reduceDiv, Nat.reduceMod, decide_true, k2, k3, k4', k6, k7, cS, F1, F3, E2, lE2, so, sw]
        exact fin4 _ _ _ _ J (by rw [← eacc]; simp [accEnd, cS])
      | false =>
        obtain ⟨w', h6, s1, s2, s3, s4, J'⟩ := J.app (by omega) (by simp at sl; omega) c.vote
        have E4 := (J'.2.2.1 _ (by omega) (by omega)).trans D2
        rw [List.getElem?_set_ne (by omega)] at E4
        have nq4 : (H1.length = h.length + 1 + 1) = False := eq_false (by omega)
        have l6 : H1.length < h6.length := by omega
        have l7 : h.length + 1 + 1 < h6.length := by omega
        simp only [go_sem, reduceIte, Nat.reduceEqDiff, Nat.reduceAdd, Nat.reduceLeDiff, Nat.reducePow, Nat.reduceDiv, Nat.reduceMod, decide_true, k2, k3, k4', k6, k7, cS, F1, F3, s1, s2, s3, cells_of s3, l6, l7, so, E4, nq4, List.length_set]
        exact fin4 _ _ _ _ J' (by rw [← eacc]; simp [accEnd, cS])
  · have ek : ¬ (c.kind < 1 ∨ 4 < c.kind) := by omega
    simp only [go_sem, reduceIte, Nat.reduceEqDiff, Nat.reduceAdd, Nat.reduceLeDiff, Nat.reducePow, Nat.reduceDiv, Nat.reduceMod, decide_true, C0, C1, C2, C3, l2, decide_eq_false k1, decide_eq_false k5, decide_eq_false k4]
    have hOH := hO.kp (h' := H2) (fun m _ hm => K2 m hm)
    have lo0 : alen o = some (.int .i64 x.hards.length) := by
      have := (OwnO.els hO).len
      simpa [avLL_length] using this
    have lc1 := (List.getElem?_eq_some_iff.1 C1).1
    obtain ⟨I, hI⟩ : ∃ I : Nat → Env → AHeap → Prop, ∀ m L h', I m L h' ↔ ∃ i : Nat, lk 2 L = .ptr h.length 2 0 0 ∧ lk 3 L = .ptr (h.length + 1) 17 0 0 ∧ lk 4 L = .ptr (h.length + 1 + 1) 2 0 0 ∧ lk 6 L = .ptr H1.length 2 0 0 ∧ lk 10 L = .int .i64 i ∧ h' = H2 ∧
        i ≤ x.hards.length ∧ m = x.hards.length - i ∧ ∀ (j : Nat) (hj : j < x.hards.length), j < i → x.hards[j].group ≠ c.group := ⟨_, fun _ _ _ => Iff.rfl⟩
    refine vc_loop I x.hards.length ((hI _ _ _).2 ⟨0, by simp [lk_ins, lk_cons], by simp [lk_ins, lk_cons], by simp [lk_ins, lk_cons], by simp [lk_ins, lk_cons], by simp [lk_ins], rfl, by omega, by omega, by omega⟩) ?_
    intro m L h2 hh
    obtain ⟨i, k2, k3, k4', k6, k10, rfl, hi, rfl, hj⟩ := (hI _ _ _).1 hh
    simp only [c_gleberef13_Apply_l1, go_sem, reduceIte, Nat.reduceEqDiff, Nat.reduceAdd, Nat.reduceLeDiff, Nat.reducePow, Nat.reduceDiv, Nat.reduceMod, decide_true, k2, k3, k4', k6, k10, C3, lo0]
    refine wCond_split (fun ci => ?_) (fun ci => ?_)
    · simp at ci
      have ei : (D.avLL (x.hards.map Hard.c))[i]? = some x.hards[i].v := by rw [avLL_map]; simp [ci]; rfl
      obtain ⟨n, j, row, g, hix, hn, hrow0, hrj, hput⟩ := hO.item ei
      have hnl0 := (List.getElem?_eq_some_iff.1 hrow0).1
      have hrow := (K2 n hnl0).trans hrow0
      have hnl := (List.getElem?_eq_some_iff.1 hrow).1
      have e1 : IntKind.i64.wrap (↑i + 1) = (i : Int) + 1 := wrap_i64 (by omega)
      have hpc : ∀ (H : AHeap), H[n]? = h2[n]? → pcells H (.ptr n 10 j 0) = some x.hards[i].v := fun H hH => by simp [pcells, hH, hrow, hrj]
      have hv10 : x.hards[i].v.length = 10 := rfl
      have hvs : x.hards[i].v.all AV.scalar = true := Hard.v_sc _
      have tk : x.hards[i].v.take 10 = x.hards[i].v := List.take_of_length_le (by omega)
      have ld2 : ∀ H, H[n]? = h2[n]? → aload H true 10 (.ptr n 10 j 0) = some (.agg x.hards[i].v) := fun H hH => by rw [aload_p (hpc H hH), take_agg, hv10, if_pos (Nat.le_refl _), tk]
      have g1 : aload h2 false 1 (.ptr n 10 j (0 + 0)) = some (.int .i64 x.hards[i].group) := by
        have := aload_off (hpc h2 rfl) 0 false 1
        simp only [poff] at this
        rw [this, Hard.v_eq]; rfl
      by_cases cg : x.hards[i].group = c.group
      · have eg : x.applied c = (if (x.hards[i].turned c).2 ≠ 0 then (⟨[], []⟩, (x.hards[i].turned c).2) else (⟨x.hards.set i (x.hards[i].turned c).1, x.votes⟩, 0)) := by simp only [Image.applied]; rw [if_neg ek, if_neg k4, turnIn_at _ _ i ci hj cg]
        simp only [go_sem, reduceIte, Nat.reduceEqDiff, Nat.reduceAdd, Nat.reduceLeDiff, Nat.reducePow, Nat.reduceDiv, Nat.reduceMod, decide_true, k2, k3, k4', k6, k10, C1, C3, hix, g1, decide_eq_true cg, ld2 h2 rfl]
        have Z1 := fun z => (old1 (h := h2) (s := h.length + 1) (by omega) z).trans C1
        have Z2 := fun z => (old1 (h := h2) (s := h.length + 1 + 1) (by omega) z).trans C2
        have Z3 := fun z => (old1 (h := h2) (s := H1.length) (by omega) z).trans C3
        have Zn := fun z => old1 (h := h2) (s := n) hnl z
        have NR : ∀ m sz i o, m < h2.length → notRes h2.length 1 (.ptr m sz i o) = true := fun m sz i o hm => notRes_lt hm
        simp only [go_sem, reduceIte, Nat.reduceEqDiff, Nat.reduceAdd, Nat.reduceLeDiff, Nat.reducePow, Nat.reduceDiv, Nat.reduceMod, decide_true, k2, k3, k4', k6, k10, C1, C3, Z1, Z3, hix, ld2 _ (Zn _), NR _ _ _ _ hnl, NR H1.length _ _ _ (by omega), NR (h.length + 1) _ _ _ (by omega)]
        refine use1 htu.1 (htu.2 (fun m => F m ∨ True) (h2 ++ [none]) x.hards[i] c _ _ (rdL_av _ _ _) (RdL.mono (fun _ hm => .inl hm) (Keep.lt _ _) _ _ (hc0 _ (X2.tr (Ext.b1 none)))) (hx.2.2 _ (List.getElem_mem _)) hcf (hlog _ (List.getElem_mem _)) (by omega) (by omega)) ?_
        have tv10 : (x.hards[i].turned c).1.v.length = 10 := rfl
        have tvs : (x.hards[i].turned c).1.v.all AV.scalar = true := Hard.v_sc _
        have tvt : (x.hards[i].turned c).1.v.take 10 = (x.hards[i].turned c).1.v := List.take_of_length_le (by omega)
        have sm : setMany [AV.int IntKind.i64 0, AV.int IntKind.i64 0, AV.int IntKind.i64 0, AV.int IntKind.i64 0, AV.int IntKind.i64 0, AV.nils, AV.nils, AV.nils, AV.nils, AV.nils] 0 (x.hards[i].turned c).1.v = (x.hards[i].turned c).1.v := setMany_new rfl
        by_cases ce : (x.hards[i].turned c).2 = 0
        · have ce' : ¬ (x.hards[i].turned c).2 ≠ 0 := by simpa using ce
          rw [if_neg ce'] at eg
          have Zr := fun z => (Zn z).trans hrow
          have hjr := (List.getElem?_eq_some_iff.1 hrj).1
          have hm : row.modify j (fun x_1 => setMany x_1 0 (x.hards[i].turned c).1.v) = row.set j (x.hards[i].turned c).1.v := mod_set hrj rfl
          have lz : h.length + 1 + 1 < h2.length + 1 := by omega
          have nn : (n = H1.length) = False := eq_false (by omega)
          have nn2 : (n = h.length + 1 + 1) = False := eq_false (by omega)
          have so := hO.scalar
          simp only [go_sem, reduceIte, Nat.reduceEqDiff, Nat.reduceAdd, Nat.reduceLeDiff, Nat.reducePow, Nat.reduceDiv, Nat.reduceMod, decide_true, decide_eq_true ce, k2, k3, k4', k6, k10, C1, C3, Z1, Z2, Z3, hix, ld2 _ (Zn _), tv10, tvs, tvt, sm, Zr, hjr, hm, nn, nn2, lz, List.length_set, so, scalar_avotes]
          rw [eg]
          refine ⟨_, rfl, ⟨_, _, rfl, OwnO.fz (lo := H.length + 3) ?_ (by omega), _, _, rfl, fz_self _ _ _, rfl⟩, ?_⟩
          · have := hput (h2 ++ [some (ABlk.arr 10 [(x.hards[i].turned c).1.v] false)]) ((Zn _).trans (K2 n hnl0)) (x.hards[i].turned c).1.v
            refine (this.setq (by omega) _).ds ?_
            simp only [avLL_map, List.map_set]; rfl
          · exact (((X2.tr (Ext.b1 _)).setNew (by omega) _).setNew (by omega) _)
        · rw [if_pos ce] at eg
          have e3 : (x.hards[i].turned c).2 = 3 := by
            simp only [Hard.turned] at ce ⊢
            split
            · rename_i q; rw [if_pos q] at ce; exact absurd rfl ce
            · rename_i q; rw [if_neg q] at ce
              split
              · rename_i q2; rw [if_pos q2] at ce
                split
                · rfl
                · rename_i q3; rw [if_neg q3] at ce; exact absurd rfl ce
              · rename_i q2; rw [if_neg q2] at ce; exfalso; split at ce <;> exact ce rfl
          rw [e3] at eg
          have lz : h.length + 1 + 1 < h2.length + 1 := by omega
          simp only [go_sem, reduceIte, Nat.reduceEqDiff, Nat.reduceAdd, Nat.reduceLeDiff, Nat.reducePow, Nat.reduceDiv, Nat.reduceMod, decide_true, decide_eq_false ce, k2, k3, k4', k6, k10, C1, C3, Z1, Z2, Z3, hix, ld2 _ (Zn _), tv10, tvs, tvt, sm, lz]
          exact none' 3 _ eg ((X2.tr (Ext.b1 _)).setNew (by omega) _)
      · simp only [go_sem, reduceIte, Nat.reduceEqDiff, Nat.reduceAdd, Nat.reduceLeDiff, Nat.reducePow, Nat.reduceDiv, Nat.reduceMod, decide_true, k2, k3, k4', k6, k10, C1, C3, hix, g1, decide_eq_false cg, e1]
        refine ⟨_, by omega, (hI _ _ _).2 ⟨i + 1, by simp [lk_ins, k2], by simp [lk_ins, k3], by simp [lk_ins, k4'], by simp [lk_ins, k6], by simp [lk_ins], rfl, by omega, rfl, fun j hj' hji => ?_⟩⟩
        by_cases e : j = i
        · subst e; exact cg
        · exact hj j hj' (by omega)
    · simp at ci
      obtain rfl : i = x.hards.length := by omega
      have eg : x.applied c = (⟨[], []⟩, 6) := by simp only [Image.applied]; rw [if_neg ek, if_neg k4, turnIn_none _ _ (fun j hj' => hj j hj' hj')]
      simp only [go_sem, reduceIte, Nat.reduceEqDiff, Nat.reduceAdd, Nat.reduceLeDiff, Nat.reducePow, Nat.reduceDiv, Nat.reduceMod, decide_true, k2, k3, k4', C2, l2]
      exact none' 6 _ eg (X2.setNew (by omega) _)

end Glb
