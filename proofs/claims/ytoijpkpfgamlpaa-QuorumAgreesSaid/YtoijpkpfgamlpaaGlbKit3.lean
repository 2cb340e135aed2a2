/-
  Functions of the kit of the statements: entries and logs, copied and written over.
-/
import Derived.Test.YtoijpkpfgamlpaaGlbKit2
set_option linter.unusedSimpArgs false
set_option linter.unusedVariables false
namespace Glb
open Go
set_option maxRecDepth 10000

def entryT : List Ty := [.int .i64, .int .i64, .sl 1 [.int .u8]]

def SmallEntries (l : List Entry) : Prop := l.length ≤ 2^30 ∧ ∀ e ∈ l, e.data.length ≤ 2^40

theorem bytes_ty {l : List Int} (hl : l.length ≤ 2^40) : HasTy (dBytes l) (.sl 1 [.int .u8]) := by
  simp only [dBytes, HasTy]
  refine ⟨_, rfl, by simpa using hl, HasTyLL_mk fun d hd => ?_⟩
  obtain ⟨n, _, rfl⟩ := List.mem_map.1 hd
  simp [HasTyL, HasTy]

theorem entries_ty {l : List Entry} (hl : SmallEntries l) : HasTy (dEntries l) (.sl 3 entryT) := by
  simp only [dEntries, HasTy]
  refine ⟨_, rfl, by have := hl.1; simp; omega, HasTyLL_mk fun d hd => ?_⟩
  obtain ⟨e, he, rfl⟩ := List.mem_map.1 hd
  simp only [Entry.c, entryT, HasTyL]
  exact ⟨_, _, rfl, rfl, _, _, rfl, rfl, _, _, rfl, bytes_ty (hl.2 e he), rfl⟩

theorem SpoilEntries_ok {P : Program} {f g : FuncId} (hf : Is P f (c_glebekit_SpoilEntries g)) (hg : SpoilOk P g (.sl 1 [.int .u8])) : SpoilOk P f (.sl 3 entryT) := by
  refine ⟨hf.2, fun F h a ho => fun_sound hf.1 (Nat.le_of_ble_eq_true rfl) ?_⟩
  show vc P (c_glebekit_SpoilEntries g).code ⟨[(0, a)], [], h⟩ (atEnd (c_glebekit_SpoilEntries g).res _)
  have lx := ho.len
  simp only [c_glebekit_SpoilEntries, go_sem, reduceIte, Nat.reduceEqDiff, Nat.reduceAdd, Nat.reduceLeDiff, Nat.reducePow, Nat.reduceDiv, Nat.reduceMod, decide_true]
  refine vc_loop (fun m L h' => ∃ (i : Nat), lk 0 L = a ∧ lk 2 L = .int .i64 i ∧ i ≤ slen a ∧ m = slen a - i ∧ Ext F h h' ∧ PresT h h') (slen a) ?_ ?_
  · exact ⟨0, by simp [lk_ins, lk_cons], by simp [lk_ins], by omega, by omega, Ext.refl _ _, PresT.refl _⟩
  · rintro m L h' ⟨i, h0, h2, hi, rfl, he, hp⟩
    simp only [c_glebekit_SpoilEntries_l0, go_sem, reduceIte, Nat.reduceEqDiff, Nat.reduceAdd, Nat.reduceLeDiff, Nat.reducePow, Nat.reduceDiv, Nat.reduceMod, decide_true, lx, h0, h2]
    refine wCond_split (fun ci => ?_) (fun ci => ?_)
    · simp at ci
      obtain ⟨n, off, row, gr, cs, h5, h6, h7, h8, h9⟩ := (hp.1 _ _ _ ho).index ci
      simp only [entryT, OwnTL, OwnT_int] at h9
      obtain ⟨_, _, rfl, ⟨v, rfl⟩, _, _, rfl, ⟨v', rfl⟩, d, _, rfl, h9, rfl⟩ := h9
      have hl := ho.small
      have e : IntKind.i64.wrap (↑i + 1) = (i : Int) + 1 := wrap_i64 (by omega)
      have hpc : pcells h' (.ptr n 3 (off + i) 0) = some [.int .i64 v, .int .i64 v', d] := by simp [pcells, h7, h8]
      simp only [go_sem, reduceIte, Nat.reduceEqDiff, Nat.reduceAdd, Nat.reduceLeDiff, Nat.reducePow, Nat.reduceDiv, Nat.reduceMod, decide_true, h0, h2, h5, h7, h8]
      refine wCall_use ⟨hg.1, hg.2 _ h' d h9⟩ ?_
      rintro _ h2' ⟨he2, hp2⟩
      have h7' : h2'[n]? = some (some (.arr 3 row gr)) := by
        rw [he2.2 n (List.getElem?_eq_some_iff.1 h7).1 (fun x => x.2 rfl)]; exact h7
      have hst := astore_elem (x := .agg [.int .i64 (-77), .int .i64 0, .nils]) h7' h8 rfl rfl rfl rfl
      simp only [go_sem, reduceIte, Nat.reduceEqDiff, Nat.reduceAdd, Nat.reduceLeDiff, Nat.reducePow, Nat.reduceDiv, Nat.reduceMod, decide_true, h0, h2, h5, e, hst]
      refine ⟨_, ?_, i + 1, by simp, ci, rfl, ?_, (hp.trans hp2).trans (PresT.set h7' h8 ⟨_, _, rfl, .inr (.inl ⟨_, _, _, rfl, rfl⟩), _, _, rfl, .inr (.inl ⟨_, _, _, rfl, rfl⟩), _, _, rfl, Dec.nils h9, rfl⟩)⟩
      · omega
      · exact (he.trans he2 (fun _ _ x => x) (fun _ _ x => x.1)).trans (Ext.set (F := F) _ (fun _ => h6)) (fun _ _ x => x) (fun _ _ x => x)
    · simp only [go_sem, reduceIte, Nat.reduceEqDiff, Nat.reduceAdd, Nat.reduceLeDiff, Nat.reducePow, Nat.reduceDiv, Nat.reduceMod, decide_true]
      exact ⟨he, hp⟩

def CopyEntriesOk (P : Program) (f : FuncId) : Prop :=
  isFn P f = true ∧ ∀ (F : Nat → Prop) (h : AHeap) (x : List Entry) (a : AV), Rd F h (dEntries x) a → SmallEntries x →
    ACalls P f [a] h fun r h' => Own (dEntries x) (fun m => h.length ≤ m) h' r ∧ canApp h' r ∧ Ext nof h h'

theorem CopyEntries_ok {P : Program} {f g : FuncId} (hf : Is P f (c_glebekit_CopyEntries g)) (hg : CopyOk P g .u8) : CopyEntriesOk P f := by
  refine ⟨hf.2, fun F h x a hx hl => fun_sound hf.1 (Nat.le_of_ble_eq_true rfl) ?_⟩
  show vc P (c_glebekit_CopyEntries g).code ⟨[(0, a)], [], h⟩ (atEnd (c_glebekit_CopyEntries g).res _)
  have lx := hx.len
  simp only [List.length_map] at lx
  have hl1 := hl.1
  simp only [c_glebekit_CopyEntries, go_sem, reduceIte, Nat.reduceEqDiff, Nat.reduceAdd, Nat.reduceLeDiff, Nat.reducePow, Nat.reduceDiv, Nat.reduceMod, decide_true]
  refine vc_loop (fun m L h' => ∃ (i : Nat) (o : AV), lk 0 L = a ∧ lk 3 L = o ∧ lk 4 L = .int .i64 i ∧ i ≤ x.length ∧ m = x.length - i ∧
    Own (dEntries (x.take i)) (fun m => h.length ≤ m) h' o ∧ canApp h' o ∧ Ext nof h h') x.length ?_ ?_
  · exact ⟨0, _, by simp [lk_ins, lk_cons], by simp [lk_ins, lk_cons], by simp [lk_ins], by omega, by omega, Own.nils 3, trivial, Ext.refl _ _⟩
  · rintro m L h' ⟨i, o, h0, h3, h4, hi, rfl, ho, hc, he⟩
    simp only [c_glebekit_CopyEntries_l0, go_sem, reduceIte, Nat.reduceEqDiff, Nat.reduceAdd, Nat.reduceLeDiff, Nat.reducePow, Nat.reduceDiv, Nat.reduceMod, decide_true, lx, h0, h3, h4]
    refine wCond_split (fun ci => ?_) (fun ci => ?_)
    · simp at ci
      obtain ⟨p, cs, hp, hpc, hcs⟩ := (hx.up he).index .i64 (i := i) (d := x[i].c) (by omega) (by simp [ci])
      simp only [Entry.c, RdL, Rd] at hcs
      obtain ⟨_, _, rfl, rfl, _, _, rfl, rfl, d, _, rfl, hd, rfl⟩ := hcs
      have e : IntKind.i64.wrap (↑i + 1) = (i : Int) + 1 := wrap_i64 (by omega)
      have hpc1 := pup hpc (Ext.b1 none)
      simp only [go_sem, reduceIte, Nat.reduceEqDiff, Nat.reduceAdd, Nat.reduceLeDiff, Nat.reducePow, Nat.reduceDiv, Nat.reduceMod, decide_true, h0, h3, h4, e, hp, afield_p hpc, aload_off hpc1, notRes_of hpc]
      refine wCall_use ⟨hg.1, hg.2 F _ x[i].data d (hd.up (Ext.b1 none)) (hl.2 _ (by simp))⟩ ?_
      rintro r h2 ⟨hr, _, he2⟩
      have hpc2 := pup hpc1 he2
      have hfree := he2.get (bx1 h' none)
      have hlt := (List.getElem?_eq_some_iff.1 hfree).1
      have hs : (h2.set h'.length (some (.arr 3 [[.int .i64 x[i].term, .int .i64 x[i].kind, r]] false)))[h'.length]? = some (some (.arr 3 [[.int .i64 x[i].term, .int .i64 x[i].kind, r]] false)) := List.getElem?_set_self hlt
      have hpc3 := pup hpc (((Ext.b1 none).tr he2).setNew (Nat.le_refl _) (some (.arr 3 [[.int .i64 x[i].term, .int .i64 x[i].kind, r]] false)))
      obtain ⟨o', h3', ha, ho', hc', he'⟩ := own_app (bytes := 40) (es := [x[i].c]) (h := h2.set h'.length (some (.arr 3 [[.int .i64 x[i].term, .int .i64 x[i].kind, r]] false))) ho hc
        (((Ext.b1 none).tr he2).setNew (Nat.le_refl _) _) (ys := [[.int .i64 x[i].term, .int .i64 x[i].kind, r]])
        (by
          simp only [OwnLL, OwnL, Entry.c, Own]
          refine ⟨_, _, rfl, ⟨_, _, rfl, rfl, _, _, rfl, rfl, r, _, rfl, ?_, rfl⟩, rfl⟩
          refine Own.mono _ (fun m hm => ?_) (fun m hm y hy => ?_) _ hr
          · simp at hm; omega
          · rw [List.getElem?_set_ne (by simp at hm; omega)]; exact hy) he.1 (by simp; omega)
      have ha' : aappend (h2.set h'.length (some (.arr 3 [[.int .i64 x[i].term, .int .i64 x[i].kind, r]] false))) 3 40 o (.ref h'.length 3 0 1 (some 1)) = some (o', h3') := by
        rw [aappend_of (aelems_at hs (some 1) (len := 1) rfl)]; exact ha
      simp only [go_sem, reduceIte, Nat.reduceEqDiff, Nat.reduceAdd, Nat.reduceLeDiff, Nat.reducePow, Nat.reduceDiv, Nat.reduceMod, decide_true, h0, h3, h4, e, aload_off hpc2, aload_off hpc3, hr.scalar, cells_of hr.scalar, hfree, ha']
      refine ⟨_, ?_, i + 1, o', rfl, by simp, ci, rfl, ?_, hc', ?_⟩
      · omega
      · have : x.take (i + 1) = x.take i ++ [x[i]] := by simp [ci]
        rw [this, dEntries, List.map_append]; exact ho'
      · exact (he.tr (((Ext.b1 none).tr he2).setNew (Nat.le_refl _) _)).trans he' (fun _ _ x => x) (fun m hm hm' => by omega)
    · simp at ci
      simp only [go_sem, reduceIte, Nat.reduceEqDiff, Nat.reduceAdd, Nat.reduceLeDiff, Nat.reducePow, Nat.reduceDiv, Nat.reduceMod, decide_true, h3]
      obtain rfl : i = x.length := by omega
      rw [List.take_length] at ho
      exact ⟨ho, hc, he⟩
def CopyLogOk (P : Program) (f : FuncId) : Prop :=
  isFn P f = true ∧ ∀ (F : Nat → Prop) (h : AHeap) (x : Log) (a : List AV), RdL F h x.c a → SmallEntries x.es →
    ACalls P f [.agg a] h fun r h' => ∃ cs, r = .agg cs ∧ OwnL x.c (fun m => h.length ≤ m) h' cs ∧ Ext nof h h'

theorem CopyLog_ok {P : Program} {f g : FuncId} (hf : Is P f (c_glebekit_CopyLog g)) (hg : CopyEntriesOk P g) : CopyLogOk P f := by
  refine ⟨hf.2, fun F h x a hx hl => fun_sound hf.1 (Nat.le_of_ble_eq_true rfl) ?_⟩
  show vc P (c_glebekit_CopyLog g).code ⟨[(0, .agg a)], [], h⟩ (atEnd (c_glebekit_CopyLog g).res _)
  simp only [Log.c, RdL, Rd] at hx
  obtain ⟨_, _, rfl, rfl, _, _, rfl, rfl, d, _, rfl, hx, rfl⟩ := hx
  simp only [c_glebekit_CopyLog, go_sem, reduceIte, Nat.reduceEqDiff, Nat.reduceAdd, Nat.reduceLeDiff, Nat.reducePow, Nat.reduceDiv, Nat.reduceMod, decide_true, hx.scalar]
  refine wCall_use ⟨hg.1, hg.2 F _ x.es d (hx.up (Ext.b2 _ _)) hl⟩ ?_
  rintro r h2 ⟨hr, _, he⟩
  have hA := he.get (bx20 _ _ _)
  have hB := he.get (bx21 _ _ _)
  have l1 := (List.getElem?_eq_some_iff.1 hA).1
  have l2 := (List.getElem?_eq_some_iff.1 hB).1
  simp only [go_sem, reduceIte, Nat.reduceEqDiff, Nat.reduceAdd, Nat.reduceLeDiff, Nat.reducePow, Nat.reduceDiv, Nat.reduceMod, decide_true, hA, hB, hr.scalar, cells_of hr.scalar, l1, l2, List.length_set]
  refine ⟨_, rfl, ?_, ?_⟩
  · simp only [Log.c, OwnL, Own]
    refine ⟨_, _, rfl, rfl, _, _, rfl, rfl, r, _, rfl, ?_, rfl⟩
    refine Own.mono _ (fun m hm => ?_) (fun m hm y hy => ?_) _ hr
    · simp at hm; omega
    · simp at hm
      rw [List.getElem?_set_ne (by omega), List.getElem?_set_ne (by omega)]; exact hy
  · exact (((Ext.b2 _ _).tr he).setNew (Nat.le_refl _) _).setNew (by omega) _

end Glb
