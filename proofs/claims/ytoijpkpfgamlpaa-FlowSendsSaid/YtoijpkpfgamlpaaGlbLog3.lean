/-
  A group's log: what the document says of entries that are laid behind an index; and logs cut.
-/
import Derived.Test.YtoijpkpfgamlpaaGlbLog2
set_option linter.unusedSimpArgs false
set_option linter.unusedVariables false
namespace Glb
open Go
set_option maxRecDepth 10000

theorem gleberef11_Append_ok {P : Program} {f g cl t ce cb : FuncId} (hf : Is P f (c_gleberef11_Append g cl t ce cb)) (hg : LastOk P g) (hcl : CopyLogOk P cl) (ht : TermOk P t) (hce : CopyEntriesOk P ce) (hcb : CopyOk P cb .u8) : AppendOk P f := by
  refine ⟨hf.2, fun F h l a prev e b hl hb ok oke => fun_sound hf.1 (Nat.le_of_ble_eq_true rfl) ?_⟩
  show vc P (c_gleberef11_Append g cl t ce cb).code ⟨[(0, .agg a), (1, .int .i64 prev), (2, b)], [], h⟩ (atEnd (c_gleberef11_Append g cl t ce cb).res _)
  have hl0 := hl
  simp only [Log.c, RdL, Rd] at hl
  obtain ⟨_, _, rfl, rfl, _, _, rfl, rfl, d, _, rfl, hl, rfl⟩ := hl
  have ok' := ok
  obtain ⟨o1, o2, o3⟩ := ok
  have o4 := o3.1
  have oe := oke.1
  have lb := hb.len
  simp only [List.length_map] at lb
  have hlast : l.last = l.base + l.es.length := rfl
  simp only [c_gleberef11_Append, go_sem, reduceIte, Nat.reduceEqDiff, Nat.reduceAdd, Nat.reduceLeDiff, Nat.reducePow, Nat.reduceDiv, Nat.reduceMod, decide_true, hl.scalar, cells_of hl.scalar]
  refine wCall_use ⟨hg.1, hg.2 F _ l _ (hl0.up (Ext.b2 _ _)) ok'⟩ ?_
  rintro _ _ ⟨rfl, rfl⟩
  simp only [go_sem, reduceIte, Nat.reduceEqDiff, Nat.reduceAdd, Nat.reduceLeDiff, Nat.reducePow, Nat.reduceDiv, Nat.reduceMod, decide_true]
  refine wCall_use ⟨hcl.1, hcl.2 F _ l _ (hl0.up (Ext.b2 _ _)) o3⟩ ?_
  rintro _ h2 ⟨_, rfl, hr, he⟩
  simp only [Log.c, OwnL, Own] at hr
  obtain ⟨_, _, rfl, rfl, _, _, rfl, rfl, r, _, rfl, hr, rfl⟩ := hr
  have hr' : Own (dEntries l.es) (fun m => h.length + 2 ≤ m) h2 r := Own.mono _ (fun m hm => by simp at hm; omega) (fun _ _ _ x => x) _ hr
  have hA2 := he.get (bx20 _ _ _)
  have hB2 := he.get (bx21 _ _ _)
  have l1 := (List.getElem?_eq_some_iff.1 hA2).1
  have l2 := (List.getElem?_eq_some_iff.1 hB2).1
  simp only [go_sem, reduceIte, Nat.reduceEqDiff, Nat.reduceAdd, Nat.reduceLeDiff, Nat.reducePow, Nat.reduceDiv, Nat.reduceMod, decide_true, hr'.scalar, cells_of hr'.scalar]
  generalize hX : (some (.arr 3 [[.int .i64 l.base, .int .i64 l.bterm, r]] false) : Option ABlk) = X
  have he3 : Ext nof h (h2 ++ [X]) := ((Ext.b2 _ _).tr he).tr (Ext.b1 _)
  have hA3 := (Ext.b1 X).get hA2
  have hB3 := (Ext.b1 X).get hB2
  have hX3 : (h2 ++ [X])[h2.length]? = some X := bx1 _ _
  have hr3 : Own (dEntries l.es) (fun m => h.length + 2 ≤ m) (h2 ++ [X]) r := hr'.up (Ext.b1 _)
  have hH : (h2 ++ [X]).length = h2.length + 1 := by simp
  generalize h2 ++ [X] = H at *
  subst hX
  have stay : l.laid prev e = l → OwnL (l.laid prev e).c (fun m => h.length ≤ m) (H.set (h.length + 1) (some (.arr 3 [[.int .i64 l.base, .int .i64 l.bterm, r]] false))) [.int .i64 l.base, .int .i64 l.bterm, r] := by
    intro e1
    rw [e1]
    simp only [Log.c, OwnL, Own]
    exact ⟨_, _, rfl, rfl, _, _, rfl, rfl, _, _, rfl, Own.mono _ (fun m hm => by omega) (fun m hm y hy => by rw [List.getElem?_set_ne (by omega)]; exact hy) _ hr3, rfl⟩
  have l3 : h.length + 1 < H.length := by omega
  by_cases h1 : prev < l.base
  · have hh : l.has prev = false := by simp [Log.has]; omega
    simp only [go_sem, reduceIte, Nat.reduceEqDiff, Nat.reduceAdd, Nat.reduceLeDiff, Nat.reducePow, Nat.reduceDiv, Nat.reduceMod, decide_true, decide_eq_true h1, hA3, hB3, hX3, hr3.scalar, l3]
    have e1 : l.laid prev e = l := by simp [Log.laid, hh]
    have e2 : l.laidAt prev e = 0 := by simp [Log.laidAt, hh]
    rw [e2]
    exact ⟨_, rfl, stay e1, he3.setNew (by omega) _⟩
  by_cases h2' : l.last < prev
  · have hh : l.has prev = false := by simp [Log.has]; omega
    simp only [go_sem, reduceIte, Nat.reduceEqDiff, Nat.reduceAdd, Nat.reduceLeDiff, Nat.reducePow, Nat.reduceDiv, Nat.reduceMod, decide_true, decide_eq_false h1, decide_eq_true h2', hA3, hB3, hX3, hr3.scalar, l3]
    have e1 : l.laid prev e = l := by simp [Log.laid, hh]
    have e2 : l.laidAt prev e = 0 := by simp [Log.laidAt, hh]
    rw [e2]
    exact ⟨_, rfl, stay e1, he3.setNew (by omega) _⟩
  have hh : l.has prev = true := by simp [Log.has]; omega
  simp only [go_sem, reduceIte, Nat.reduceEqDiff, Nat.reduceAdd, Nat.reduceLeDiff, Nat.reducePow, Nat.reduceDiv, Nat.reduceMod, decide_true, decide_eq_false h1, decide_eq_false h2', hA3]
  refine vc_loop (fun m L h' => ∃ i : Nat, lk 1 L = .int .i64 prev ∧ lk 2 L = b ∧ lk 3 L = .ptr h.length 3 0 0 ∧ lk 6 L = .ptr (h.length + 1) 3 0 0 ∧ lk 10 L = .ptr h2.length 3 0 0 ∧ lk 11 L = .int .i64 i ∧ h' = H ∧ i ≤ e.length ∧ m = e.length - i ∧
    ∀ (j : Nat) (hj : j < e.length), j < i → (l.has (prev + 1 + j) && decide (l.term (prev + 1 + j) = e[j].term)) = true) e.length ?_ ?_
  · exact ⟨0, by simp [lk_ins, lk_cons], by simp [lk_ins, lk_cons], by simp [lk_ins, lk_cons], by simp [lk_ins, lk_cons], by simp [lk_ins, lk_cons], by simp [lk_ins], rfl, by omega, by omega, by omega⟩
  · rintro m L h' ⟨i, k1, k2, k3, k6, k10, k11, rfl, hi, rfl, hj⟩
    have hb3 : Rd F h' (dEntries e) b := hb.up he3
    simp only [c_gleberef11_Append_l1, go_sem, reduceIte, Nat.reduceEqDiff, Nat.reduceAdd, Nat.reduceLeDiff, Nat.reducePow, Nat.reduceDiv, Nat.reduceMod, decide_true, k1, k2, k3, k6, k10, k11, lb]
    by_cases hc : i < e.length
    · have c1 : decide ((i : Int) < e.length) = true := decide_eq_true (by omega)
      have e1 : IntKind.i64.wrap (prev + 1) = prev + 1 := wrap_i64 (by omega)
      have e2 : IntKind.i64.wrap (prev + 1 + ↑i) = prev + 1 + ↑i := wrap_i64 (by omega)
      have e3 : IntKind.i64.wrap (↑i + 1) = (i : Int) + 1 := wrap_i64 (by omega)
      have hlH : RdL F h' l.c [.int .i64 l.base, .int .i64 l.bterm, d] := hl0.up he3
      simp only [go_sem, reduceIte, Nat.reduceEqDiff, Nat.reduceAdd, Nat.reduceLeDiff, Nat.reducePow, Nat.reduceDiv, Nat.reduceMod, decide_true, k1, k2, k3, k6, k10, k11, c1, e1, e2, hA3]
      refine wCall_use ⟨ht.1, ht.2 _ _ l _ (prev + 1 + ↑i) hlH ok'⟩ ?_
      rintro _ _ ⟨rfl, rfl⟩
      obtain ⟨p, cs, hp, hpc, hcs⟩ := hb3.index .i64 (i := (i : Int)) (d := (e[i]).c) (by omega) (by rw [Int.toNat_natCast, List.getElem?_map, List.getElem?_eq_getElem hc]; rfl)
      simp only [Entry.c, RdL, Rd] at hcs
      obtain ⟨_, _, rfl, rfl, _, _, rfl, rfl, d', _, rfl, _, rfl⟩ := hcs
      by_cases hm : (l.has (prev + 1 + i) && decide (l.term (prev + 1 + i) = e[i].term)) = true
      · have hm' := hm
        rw [Bool.and_eq_true] at hm'
        simp only [go_sem, reduceIte, Nat.reduceEqDiff, Nat.reduceAdd, Nat.reduceLeDiff, Nat.reducePow, Nat.reduceDiv, Nat.reduceMod, decide_true, k1, k2, k3, k6, k10, k11, hm'.1, hm'.2, hp, afield_p hpc, aload_off hpc, e3]
        refine ⟨_, ?_, i + 1, by simp, hc, rfl, fun j hj1 hj2 => ?_⟩
        · omega
        · rcases Nat.lt_or_ge j i with hlt | hge
          · exact hj j hj1 hlt
          · obtain rfl : j = i := by omega
            exact hm
      · have hag : l.agree (prev + 1) e = i := agree_is l e (prev + 1) i hi hj (fun _ => by simpa using hm)
        have hpi : prev + i ≤ l.last := by
          rcases Nat.eq_zero_or_pos i with h0 | h0
          · omega
          · have := hj (i - 1) (by omega) (by omega)
            simp only [Log.has, Bool.and_eq_true, decide_eq_true_eq] at this
            omega
        have e4 : IntKind.i64.wrap (prev + ↑i) = prev + ↑i := wrap_i64 (by omega)
        have e5 : IntKind.i64.wrap (prev + ↑i - l.base) = prev + ↑i - l.base := wrap_i64 (by omega)
        obtain ⟨q, hq, hqr⟩ := (hl.up he3).slice (lo := none) (hi := some (prev + ↑i - l.base)) (mx := none) (by simp) (by simp; omega) (by simp; omega) (by simp) (by simp; omega) (by simp)
        simp only [Option.getD_some, Option.getD_none, Int.toNat_zero, List.drop_zero] at hqr
        rw [← List.map_take] at hqr
        have hx : l.has (prev + 1 + ↑i) = false ∨ (l.has (prev + 1 + ↑i) = true ∧ decide (l.term (prev + 1 + ↑i) = e[i].term) = false) := by
          cases hh1 : l.has (prev + 1 + ↑i)
          · exact .inl rfl
          · rw [hh1, Bool.true_and] at hm
            exact .inr ⟨rfl, by simpa using hm⟩
        have el : l.laid prev e = ⟨l.base, l.bterm, l.es.take (prev + ↑i - l.base).toNat ++ e.drop i⟩ := by
          simp only [Log.laid, hag]
          rw [if_pos ⟨hh, hc⟩]
        have el2 : l.laidAt prev e = prev + 1 + ↑i := by
          simp only [Log.laidAt, hag]
          rw [if_pos ⟨hh, hc⟩]
        rw [el2, el]
        rcases hx with hx | hx
        all_goals
          simp only [go_sem, reduceIte, Nat.reduceEqDiff, Nat.reduceAdd, Nat.reduceLeDiff, Nat.reducePow, Nat.reduceDiv, Nat.reduceMod, decide_true, k1, k2, k3, k6, k10, k11, hx, hp, afield_p hpc, aload_off hpc, hA3, e4, e5, hq]
          refine wCall_use ⟨hce.1, hce.2 F _ (l.es.take (prev + (i : Int) - l.base).toNat) q hqr (o3.sub (by simp; omega) (fun x hx => List.mem_of_mem_take hx))⟩ ?_
          rintro r4 h4 ⟨hr4, hc4, he4⟩
          have hA4 := he4.get hA3
          have hB4 := he4.get hB3
          have hX4 := he4.get hX3
          have lX := (List.getElem?_eq_some_iff.1 hX4).1
          simp only [go_sem, reduceIte, Nat.reduceEqDiff, Nat.reduceAdd, Nat.reduceLeDiff, Nat.reducePow, Nat.reduceDiv, Nat.reduceMod, decide_true, hX4, hr4.scalar, cells_of hr4.scalar, k1, k2, k3, k6, k10, k11]
          refine vc_loop (fun m L h' => ∃ (j : Nat) (o : AV), lk 1 L = .int .i64 prev ∧ lk 2 L = b ∧ lk 6 L = .ptr (h.length + 1) 3 0 0 ∧ lk 10 L = .ptr h2.length 3 0 0 ∧ lk 11 L = .int .i64 i ∧ lk 14 L = .int .i64 j ∧ i ≤ j ∧ j ≤ e.length ∧ m = e.length - j ∧
            h'[h.length + 1]? = some (some (.arr 3 [[.int .i64 0, .int .i64 0, .nils]] false)) ∧ h'[h2.length]? = some (some (.arr 3 [[.int .i64 l.base, .int .i64 l.bterm, o]] false)) ∧
            Own (dEntries (l.es.take (prev + (i : Int) - l.base).toNat ++ (e.drop i).take (j - i))) (fun m => h2.length + 1 ≤ m) h' o ∧ canApp h' o ∧ Ext nof h h') (e.length - i) ?_ ?_
          · refine ⟨i, r4, by simp [lk_ins, lk_cons, k1], by simp [lk_ins, lk_cons, k2], by simp [lk_ins, lk_cons, k6], by simp [lk_ins, lk_cons, k10], by simp [lk_ins, lk_cons, k11], by simp [lk_ins], Nat.le_refl _, hi, rfl, ?_, by rw [List.getElem?_set_self lX], ?_, ?_, (he3.tr he4).setNew (by omega) _⟩
            · rw [List.getElem?_set_ne (by omega)]; exact hB4
            · rw [Nat.sub_self, List.take_zero, List.append_nil]
              exact Own.mono _ (fun m hm => by omega) (fun m hm y hy => by rw [List.getElem?_set_ne (by omega)]; exact hy) _ hr4
            · exact hc4.keep hr4 (fun m hm y hy => by rw [List.getElem?_set_ne (by omega)]; exact hy)
          · rintro m L h' ⟨j, o, k1, k2, k6, k10, k11, k14, hij, hje, rfl, hB, hXo, ho, hco, hE⟩
            have hbj : Rd F h' (dEntries e) b := hb.up hE
            have lbX := (List.getElem?_eq_some_iff.1 hXo).1
            have lbB := (List.getElem?_eq_some_iff.1 hB).1
            simp only [c_gleberef11_Append_l0, go_sem, reduceIte, Nat.reduceEqDiff, Nat.reduceAdd, Nat.reduceLeDiff, Nat.reducePow, Nat.reduceDiv, Nat.reduceMod, decide_true, k1, k2, k6, k10, k11, k14, lb]
            by_cases hcj : j < e.length
            · have cj : decide ((j : Int) < e.length) = true := decide_eq_true (by omega)
              have ej : IntKind.i64.wrap (↑j + 1) = (j : Int) + 1 := wrap_i64 (by omega)
              obtain ⟨p, cs, hp, hpc, hcs⟩ := hbj.index .i64 (i := (j : Int)) (d := (e[j]).c) (by omega) (by rw [Int.toNat_natCast, List.getElem?_map, List.getElem?_eq_getElem hcj]; rfl)
              simp only [Entry.c, RdL, Rd] at hcs
              obtain ⟨_, _, rfl, rfl, _, _, rfl, rfl, d', _, rfl, hdd, rfl⟩ := hcs
              have hpc1 := pup hpc (Ext.b1 none)
              have hX1 := (Ext.b1 none).get hXo
              simp only [go_sem, reduceIte, Nat.reduceEqDiff, Nat.reduceAdd, Nat.reduceLeDiff, Nat.reducePow, Nat.reduceDiv, Nat.reduceMod, decide_true, k1, k2, k6, k10, k11, k14, cj, hX1, hp, afield_p hpc, aload_off hpc1, notRes_of hpc]
              have nr : notRes h'.length 1 (.ptr h2.length 3 0 2) = true := by simp [notRes, lbX]
              simp only [nr, go_sem, reduceIte, Nat.reduceEqDiff, Nat.reduceAdd, Nat.reduceLeDiff, Nat.reducePow, Nat.reduceDiv, Nat.reduceMod, decide_true]
              refine wCall_use ⟨hcb.1, hcb.2 F _ e[j].data d' (hdd.up (Ext.b1 none)) (oke.2 _ (by simp))⟩ ?_
              rintro r6 h6 ⟨hr6, _, he6⟩
              have hpc2 := pup hpc1 he6
              have hfree := he6.get (bx1 h' none)
              have hlt := (List.getElem?_eq_some_iff.1 hfree).1
              have hX6 := he6.get hX1
              generalize hcell : [AV.int .i64 e[j].term, AV.int .i64 e[j].kind, r6] = cell
              have hs : (h6.set h'.length (some (.arr 3 [cell] false)))[h'.length]? = some (some (.arr 3 [cell] false)) := List.getElem?_set_self hlt
              have e6 : Ext nof h' (h6.set h'.length (some (.arr 3 [cell] false))) := ((Ext.b1 none).tr he6).setNew (Nat.le_refl _) _
              have hpc3 := pup hpc e6
              have hX7 := e6.get hXo
              have hB7 := e6.get hB
              obtain ⟨o', h8, ha, ho', hc', he8⟩ := own_app (bytes := 40) (es := [e[j].c]) (h := h6.set h'.length (some (.arr 3 [cell] false))) ho hco e6 (ys := [cell])
                (by
                  subst hcell
                  simp only [OwnLL, OwnL, Entry.c, Own]
                  refine ⟨_, _, rfl, ⟨_, _, rfl, rfl, _, _, rfl, rfl, r6, _, rfl, ?_, rfl⟩, rfl⟩
                  refine Own.mono _ (fun m hm => ?_) (fun m hm y hy => ?_) _ hr6
                  · simp at hm; omega
                  · rw [List.getElem?_set_ne (by simp at hm; omega)]; exact hy) (by omega) (by simp; omega)
              have ha' := aappend_of (aelems_at hs (some 1) (len := 1) rfl) 40 o
              rw [ha] at ha'
              have hX8 : h8[h2.length]? = some (some (.arr 3 [[.int .i64 l.base, .int .i64 l.bterm, o]] false)) := by rw [he8.2 _ (List.getElem?_eq_some_iff.1 hX7).1 (by omega)]; exact hX7
              have hB8 : h8[h.length + 1]? = some (some (.arr 3 [[.int .i64 0, .int .i64 0, .nils]] false)) := by rw [he8.2 _ (List.getElem?_eq_some_iff.1 hB7).1 (by omega)]; exact hB7
              have lX8 := (List.getElem?_eq_some_iff.1 hX8).1
              subst hcell
              simp only [go_sem, reduceIte, Nat.reduceEqDiff, Nat.reduceAdd, Nat.reduceLeDiff, Nat.reducePow, Nat.reduceDiv, Nat.reduceMod, decide_true, k1, k2, k6, k10, k11, k14, ej, hX6, aload_off hpc2, aload_off hpc3, hr6.scalar, cells_of hr6.scalar, hfree, hX7, ha', hX8, ho'.scalar, cells_of ho'.scalar, lX8]
              have ht1 : (e.drop i).take (j + 1 - i) = (e.drop i).take (j - i) ++ [e[j]] := by
                rw [show j + 1 - i = (j - i) + 1 by omega, List.take_add_one, List.getElem?_drop, show i + (j - i) = j by omega, List.getElem?_eq_getElem hcj]; rfl
              refine ⟨_, ?_, j + 1, o', by simp, by omega, hcj, rfl, by rw [if_neg (by omega)]; exact hB8, rfl, ?_, ?_, ((hE.tr e6).then he8 (fun m hm hm' => by omega)).setNew (by omega) _⟩
              · omega
              · rw [ht1, ← List.append_assoc, dEntries, List.map_append]
                exact Own.mono _ (fun m hm => hm) (fun m hm y hy => by rw [List.getElem?_set_ne (by omega)]; exact hy) _ ho'
              · exact hc'.keep ho' (fun m hm y hy => by rw [List.getElem?_set_ne (by omega)]; exact hy)
            · have cj : decide ((j : Int) < e.length) = false := decide_eq_false (by omega)
              simp only [go_sem, reduceIte, Nat.reduceEqDiff, Nat.reduceAdd, Nat.reduceLeDiff, Nat.reducePow, Nat.reduceDiv, Nat.reduceMod, decide_true, k1, k2, k6, k10, k11, k14, cj, hXo, hB, e1, e2, ho.scalar, lbB]
              refine ⟨_, rfl, ?_, hE.setNew (by omega) _⟩
              have ht1 : (e.drop i).take (j - i) = e.drop i := List.take_of_length_le (by simp; omega)
              rw [ht1] at ho
              simp only [Log.c, OwnL, Own]
              refine ⟨_, _, rfl, rfl, _, _, rfl, rfl, o, _, rfl, ?_, rfl⟩
              exact Own.mono _ (fun m hm => by omega) (fun m hm y hy => by rw [List.getElem?_set_ne (by omega)]; exact hy) _ ho
    · have c1 : decide ((i : Int) < e.length) = false := decide_eq_false (by omega)
      simp only [go_sem, reduceIte, Nat.reduceEqDiff, Nat.reduceAdd, Nat.reduceLeDiff, Nat.reducePow, Nat.reduceDiv, Nat.reduceMod, decide_true, k1, k2, k3, k6, k10, k11, c1, hA3, hB3, hX3, hr3.scalar, l3]
      have hag : l.agree (prev + 1) e = i := agree_is l e (prev + 1) i hi hj (fun hk => absurd hk hc)
      have e1 : l.laid prev e = l := by simp only [Log.laid]; rw [if_neg (by omega)]
      have e2 : l.laidAt prev e = 0 := by simp only [Log.laidAt]; rw [if_neg (by omega)]
      rw [e2]
      exact ⟨_, rfl, stay e1, he3.setNew (by omega) _⟩

/-- a log from another base on; the empty one where there is no such index -/
def Log.cut (l : Log) (b : Int) : Log := if l.has b then ⟨b, l.term b, l.es.drop (b - l.base).toNat⟩ else ⟨0, 0, []⟩

def CutOk (P : Program) (f : FuncId) : Prop :=
  isFn P f = true ∧ ∀ (F : Nat → Prop) (h : AHeap) (l : Log) (a : List AV) (i : Int), RdL F h l.c a → LogOk l →
    ACalls P f [.agg a, .int .i64 i] h fun r h' => ∃ cs, r = .tup [.agg cs, .int .i64 (if l.has i then 0 else 3)] ∧ OwnL (l.cut i).c (fun m => h.length ≤ m) h' cs ∧ Ext nof h h'

theorem rlog_Cut_ok {P : Program} {f t k : FuncId} (hf : Is P f (c_rlog_Cut t k)) (ht : TermOk P t) (hk : CopyEntriesOk P k) : CutOk P f := by
  refine ⟨hf.2, fun F h l a i hl ok => fun_sound hf.1 (Nat.le_of_ble_eq_true rfl) ?_⟩
  show vc P (c_rlog_Cut t k).code ⟨[(0, .agg a), (1, .int .i64 i)], [], h⟩ (atEnd (c_rlog_Cut t k).res _)
  have hl0 := hl
  simp only [Log.c, RdL, Rd] at hl
  obtain ⟨_, _, rfl, rfl, _, _, rfl, rfl, d, _, rfl, hl, rfl⟩ := hl
  have ok' := ok
  obtain ⟨o1, o2, o3⟩ := ok
  have o4 := o3.1
  have hlast : l.last = l.base + l.es.length := rfl
  simp only [c_rlog_Cut, go_sem, reduceIte, Nat.reduceEqDiff, Nat.reduceAdd, Nat.reduceLeDiff, Nat.reducePow, Nat.reduceDiv, Nat.reduceMod, decide_true, hl.scalar, cells_of hl.scalar]
  refine wCall_use ⟨ht.1, ht.2 F _ l _ i (hl0.up (Ext.b2 _ _)) ok'⟩ ?_
  rintro _ _ ⟨rfl, rfl⟩
  cases hh : l.has i
  · simp only [go_sem, reduceIte, Nat.reduceEqDiff, Nat.reduceAdd, Nat.reduceLeDiff, Nat.reducePow, Nat.reduceDiv, Nat.reduceMod, decide_true, hh]
    refine ⟨_, rfl, ?_, Ext.b2 _ _⟩
    simp only [Log.cut, hh, Log.c, OwnL, Own]
    exact ⟨_, _, rfl, rfl, _, _, rfl, rfl, _, _, rfl, Own.nils 3, rfl⟩
  · have hi : l.base ≤ i ∧ i ≤ l.last := by simpa [Log.has] using hh
    have e1 : IntKind.i64.wrap (i - l.base) = i - l.base := wrap_i64 (by omega)
    obtain ⟨q, hq, hqr⟩ := hl.slice (lo := some (i - l.base)) (hi := none) (mx := none) (by simp; omega) (by simp; omega) (by simp) (by simp) (by simp) (by simp)
    simp only [Option.getD_some, Option.getD_none, Int.toNat_natCast, List.take_length] at hqr
    rw [← List.map_drop] at hqr
    simp only [go_sem, reduceIte, Nat.reduceEqDiff, Nat.reduceAdd, Nat.reduceLeDiff, Nat.reducePow, Nat.reduceDiv, Nat.reduceMod, decide_true, hh, e1, hq]
    refine wCall_use ⟨hk.1, hk.2 F _ (l.es.drop (i - l.base).toNat) q (Rd.up hqr (Ext.b2 _ _)) (o3.sub (by simp) (fun x hx => List.mem_of_mem_drop hx))⟩ ?_
    rintro r h2 ⟨hr, _, he⟩
    have hB := he.get (bx21 _ _ _)
    have l2 := (List.getElem?_eq_some_iff.1 hB).1
    simp only [go_sem, reduceIte, Nat.reduceEqDiff, Nat.reduceAdd, Nat.reduceLeDiff, Nat.reducePow, Nat.reduceDiv, Nat.reduceMod, decide_true, hB, hr.scalar, cells_of hr.scalar, l2]
    refine ⟨_, rfl, ?_, ((Ext.b2 _ _).tr he).setNew (by omega) _⟩
    simp only [Log.cut, hh, Log.c, OwnL, Own]
    refine ⟨_, _, rfl, rfl, _, _, rfl, rfl, r, _, rfl, ?_, rfl⟩
    exact Own.mono _ (fun m hm => by simp at hm; omega) (fun m hm y hy => by simp at hm; rw [List.getElem?_set_ne (by omega)]; exact hy) _ hr
theorem gleberef11_Cut_ok {P : Program} {f t k : FuncId} (hf : Is P f (c_gleberef11_Cut t k)) (ht : TermOk P t) (hk : CopyEntriesOk P k) : CutOk P f := by
  refine ⟨hf.2, fun F h l a i hl ok => fun_sound hf.1 (Nat.le_of_ble_eq_true rfl) ?_⟩
  show vc P (c_gleberef11_Cut t k).code ⟨[(0, .agg a), (1, .int .i64 i)], [], h⟩ (atEnd (c_gleberef11_Cut t k).res _)
  have hl0 := hl
  simp only [Log.c, RdL, Rd] at hl
  obtain ⟨_, _, rfl, rfl, _, _, rfl, rfl, d, _, rfl, hl, rfl⟩ := hl
  have ok' := ok
  obtain ⟨o1, o2, o3⟩ := ok
  have o4 := o3.1
  have hlast : l.last = l.base + l.es.length := rfl
  simp only [c_gleberef11_Cut, go_sem, reduceIte, Nat.reduceEqDiff, Nat.reduceAdd, Nat.reduceLeDiff, Nat.reducePow, Nat.reduceDiv, Nat.reduceMod, decide_true, hl.scalar, cells_of hl.scalar]
  refine wCall_use ⟨ht.1, ht.2 F _ l _ i (hl0.up (Ext.b2 _ _)) ok'⟩ ?_
  rintro _ _ ⟨rfl, rfl⟩
  cases hh : l.has i
  · simp only [go_sem, reduceIte, Nat.reduceEqDiff, Nat.reduceAdd, Nat.reduceLeDiff, Nat.reducePow, Nat.reduceDiv, Nat.reduceMod, decide_true, hh]
    refine ⟨_, rfl, ?_, Ext.b2 _ _⟩
    simp only [Log.cut, hh, Log.c, OwnL, Own]
    exact ⟨_, _, rfl, rfl, _, _, rfl, rfl, _, _, rfl, Own.nils 3, rfl⟩
  · have hi : l.base ≤ i ∧ i ≤ l.last := by simpa [Log.has] using hh
    have e1 : IntKind.i64.wrap (i - l.base) = i - l.base := wrap_i64 (by omega)
    obtain ⟨q, hq, hqr⟩ := hl.slice (lo := some (i - l.base)) (hi := none) (mx := none) (by simp; omega) (by simp; omega) (by simp) (by simp) (by simp) (by simp)
    simp only [Option.getD_some, Option.getD_none, Int.toNat_natCast, List.take_length] at hqr
    rw [← List.map_drop] at hqr
    simp only [go_sem, reduceIte, Nat.reduceEqDiff, Nat.reduceAdd, Nat.reduceLeDiff, Nat.reducePow, Nat.reduceDiv, Nat.reduceMod, decide_true, hh, e1, hq]
    refine wCall_use ⟨hk.1, hk.2 F _ (l.es.drop (i - l.base).toNat) q (Rd.up hqr (Ext.b2 _ _)) (o3.sub (by simp) (fun x hx => List.mem_of_mem_drop hx))⟩ ?_
    rintro r h2 ⟨hr, _, he⟩
    have hB := he.get (bx21 _ _ _)
    have l2 := (List.getElem?_eq_some_iff.1 hB).1
    simp only [go_sem, reduceIte, Nat.reduceEqDiff, Nat.reduceAdd, Nat.reduceLeDiff, Nat.reducePow, Nat.reduceDiv, Nat.reduceMod, decide_true, hB, hr.scalar, cells_of hr.scalar, l2]
    refine ⟨_, rfl, ?_, ((Ext.b2 _ _).tr he).setNew (by omega) _⟩
    simp only [Log.cut, hh, Log.c, OwnL, Own]
    refine ⟨_, _, rfl, rfl, _, _, rfl, rfl, r, _, rfl, ?_, rfl⟩
    exact Own.mono _ (fun m hm => by simp at hm; omega) (fun m hm y hy => by simp at hm; rw [List.getElem?_set_ne (by omega)]; exact hy) _ hr

end Glb
