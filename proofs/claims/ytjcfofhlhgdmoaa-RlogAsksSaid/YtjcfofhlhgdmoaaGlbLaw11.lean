/-
  The statements on a group's log.
-/
import Derived.Test.YtjcfofhlhgdmoaaGlbLog3
import Derived.Test.YtjcfofhlhgdmoaaGlbClosed
import Derived.Test.YtjcfofhlhgdmoaaGlbEnter
import Derived.Test.YtjcfofhlhgdmoaaGlbCglebelaw11
set_option linter.unusedSimpArgs false
set_option linter.unusedVariables false
namespace Glb
open Go
set_option maxRecDepth 10000
set_option maxHeartbeats 4000000

/-- a log of which something is promised -/
def Right (l : Log) : Prop := (0 ≤ l.base ∧ l.base ≤ 2^40) ∧ (0 ≤ l.bterm ∧ l.bterm ≤ 2^40) ∧ l.es.length ≤ 2000 ∧ ∀ e ∈ l.es, e.data.length ≤ 65536

theorem Right.ok {l : Log} (h : Right l) : LogOk l := ⟨h.1.1, by have := h.1.2; omega, by have := h.2.2.1; omega, fun e he => by have := h.2.2.2 e he; omega⟩

def RightOk (P : Program) (f : FuncId) : Prop :=
  isFn P f = true ∧ ∀ (F : Nat → Prop) (h : AHeap) (l : Log) (a : List AV), RdL F h l.c a →
    ACalls P f [.agg a] h fun r h' => ∃ b, r = .bool b ∧ h' = h ∧ (b = true → Right l)

theorem right_ok {P : Program} {f g : FuncId} (hf : Is P f (c_glebelaw11_right g)) (hg : BigEntriesOk P g) : RightOk P f := by
  refine ⟨hf.2, fun F h l a hl => (ACalls.trunc (K := fun r h' => Ext nof h h' ∧ ∃ b, r = .bool b ∧ (b = true → Right l)) (K' := fun r => ∃ b, r = .bool b ∧ (b = true → Right l)) (fun_sound hf.1 (Nat.le_of_ble_eq_true rfl) ?_)
    (fun r h' hk => ⟨hk.1, by obtain ⟨b, rfl, _⟩ := hk.2; exact upto_bool _ _, hk.2⟩)).mono fun r h' hk => let ⟨b, h1, h2⟩ := hk.2; ⟨b, h1, hk.1, h2⟩⟩
  show vc P (c_glebelaw11_right g).code ⟨[(0, .agg a)], [], h⟩ (atEnd (c_glebelaw11_right g).res _)
  simp only [Log.c, RdL, Rd] at hl
  obtain ⟨_, _, rfl, rfl, _, _, rfl, rfl, d, _, rfl, hl, rfl⟩ := hl
  simp only [c_glebelaw11_right, go_sem, reduceIte, Nat.reduceEqDiff, Nat.reduceAdd, Nat.reduceLeDiff, Nat.reducePow, Nat.reduceDiv, Nat.reduceMod, decide_true, hl.scalar, cells_of hl.scalar]
  repeat' (first
    | refine wGuardT (fun _ => ?_) (fun _ => ?_)
    | (refine wCall_use ⟨hg.1, hg.2 F _ l.es _ 2000 65536 (hl.up (Ext.b1 _)) (by omega) (by omega)⟩ ?_; rintro _ _ ⟨bb, rfl, rfl, hbb⟩)
    | simp only [go_sem, reduceIte, Nat.reduceEqDiff, Nat.reduceAdd, Nat.reduceLeDiff, Nat.reducePow, Nat.reduceDiv, Nat.reduceMod, decide_true, *])
  all_goals refine ⟨Ext.b1 _, _, rfl, fun hb => ?_⟩
  all_goals first
    | (cases hb; done)
    | (have h4 := hbb (by simpa using hb)
       simp only [decide_eq_true_eq] at *
       exact ⟨⟨by assumption, by assumption⟩, ⟨by assumption, by assumption⟩, by have := h4.1; omega, fun e he => by have := h4.2 e he; omega⟩)

theorem owned_rd {x : List D} {F : Nat → Prop} {h : AHeap} {l : List AV} (hh : OwnL x F h l) : RdL F h x l := OwnL.rd x (fun _ x => x) l hh

theorem slice_small {l : Log} (hl : SmallEntries l.es) (i n : Int) : SmallEntries (l.slice i n) := by
  refine hl.sub ?_ ?_
  · simp only [Log.slice]; split
    · simp
    · simp; omega
  · intro e he
    simp only [Log.slice] at he
    split at he
    · simp at he
    · exact List.mem_of_mem_drop (List.mem_of_mem_take he)

/-- what is asked of a log is what the document says -/
theorem asks_ok {P : Program} {f fr fk fc fl rl ft rt fs rs fn rn sl se sp : FuncId} (hf : Is P f (c_glebelaw11_RlogAsks fr fk fc fl rl ft rt fs fn rn rs se sp sl))
    (hr : RightOk P fr) (hk : YesOk P fk) (hc : CopyLogOk P fc) (hl : LastOk P fl) (hl' : LastOk P rl) (ht : TermOk P ft) (ht' : TermOk P rt) (hs : SliceOk P fs) (hs' : SliceOk P rs) (hn : NewerOk P fn) (hn' : NewerOk P rn)
    (hse : SameEntriesOk P se) (hsp : SpoilOk P sp (.sl 3 entryT)) (hsl : SameLogOk P sl) (l : Log) (i n : Int) :
    ACalls P f [.agg (D.avL l.c), .int .i64 i, .int .i64 n] [] fun r _ => r = .bool true := by
  refine fun_sound hf.1 (Nat.le_of_ble_eq_true rfl) ?_
  show vc P (c_glebelaw11_RlogAsks fr fk fc fl rl ft rt fs fn rn rs se sp sl).code ⟨[(0, .agg (D.avL l.c)), (1, .int .i64 i), (2, .int .i64 n)], [], []⟩ (atEnd (c_glebelaw11_RlogAsks fr fk fc fl rl ft rt fs fn rn rs se sp sl).res _)
  have hL : ∀ h, RdL nof h l.c [.int .i64 l.base, .int .i64 l.bterm, (dEntries l.es).av] := fun h => rdL_av nof h l.c
  have hcells : D.avL l.c = [.int .i64 l.base, .int .i64 l.bterm, (dEntries l.es).av] := rfl
  have hsc := av_scalar (dEntries l.es)
  generalize (dEntries l.es).av = dd at *
  rw [hcells]
  simp only [c_glebelaw11_RlogAsks, go_sem, reduceIte, Nat.reduceEqDiff, Nat.reduceAdd, Nat.reduceLeDiff, Nat.reducePow, Nat.reduceDiv, Nat.reduceMod, decide_true, hsc]
  refine wCall_use ⟨hr.1, hr.2 nof _ l _ (hL _)⟩ ?_
  rintro _ _ ⟨b, rfl, rfl, hb⟩
  cases b
  · simp only [go_sem, reduceIte, Nat.reduceEqDiff, Nat.reduceAdd, Nat.reduceLeDiff, Nat.reducePow, Nat.reduceDiv, Nat.reduceMod, decide_true]
    refine wCall_use ⟨hk.1, hk.2 _⟩ ?_
    rintro _ _ ⟨rfl, rfl⟩
    simp only [go_sem, reduceIte, Nat.reduceEqDiff, Nat.reduceAdd, Nat.reduceLeDiff, Nat.reducePow, Nat.reduceDiv, Nat.reduceMod, decide_true]
  have hR := hb rfl
  have ok := hR.ok
  simp only [go_sem, reduceIte, Nat.reduceEqDiff, Nat.reduceAdd, Nat.reduceLeDiff, Nat.reducePow, Nat.reduceDiv, Nat.reduceMod, decide_true]
  refine wCall_use ⟨hc.1, hc.2 nof _ l _ (hL _) ok.2.2⟩ ?_
  rintro _ h1 ⟨_, rfl, hin, he1⟩
  simp only [Log.c, OwnL, Own] at hin
  obtain ⟨_, _, rfl, rfl, _, _, rfl, rfl, r, _, rfl, hin, rfl⟩ := hin
  have hin' : Own (dEntries l.es) (fun m => 1 ≤ m) h1 r := hin
  have hA1 := he1.get (rfl : [some (ABlk.arr 3 [[.int .i64 l.base, .int .i64 l.bterm, dd]] false)][0]? = some _)
  simp only [go_sem, reduceIte, Nat.reduceEqDiff, Nat.reduceAdd, Nat.reduceLeDiff, Nat.reducePow, Nat.reduceDiv, Nat.reduceMod, decide_true, hin'.scalar]
  have hA := (Ext.b1 (some (.arr 3 [[.int .i64 l.base, .int .i64 l.bterm, r]] false))).get hA1
  have hX : (h1 ++ [some (.arr 3 [[.int .i64 l.base, .int .i64 l.bterm, r]] false)])[h1.length]? = _ := bx1 h1 (some (.arr 3 [[.int .i64 l.base, .int .i64 l.bterm, r]] false))
  have hrH : Own (dEntries l.es) (fun m => 1 ≤ m) (h1 ++ [some (.arr 3 [[.int .i64 l.base, .int .i64 l.bterm, r]] false)]) r := hin'.up (Ext.b1 _)
  generalize hH : h1 ++ [some (.arr 3 [[.int .i64 l.base, .int .i64 l.bterm, r]] false)] = H at *
  have hI : RdL (fun m => 1 ≤ m) H l.c [.int .i64 l.base, .int .i64 l.bterm, r] := by
    simp only [Log.c, RdL, Rd]; exact ⟨_, _, rfl, rfl, _, _, rfl, rfl, _, _, rfl, Own.rd _ (fun _ x => x) _ hrH, rfl⟩
  refine wCall_use ⟨hl.1, hl.2 _ _ l _ hI ok⟩ ?_
  rintro _ _ ⟨rfl, rfl⟩
  simp only [go_sem, reduceIte, Nat.reduceEqDiff, Nat.reduceAdd, Nat.reduceLeDiff, Nat.reducePow, Nat.reduceDiv, Nat.reduceMod, decide_true, hA]
  refine wCall_use ⟨hl'.1, hl'.2 _ _ l _ (hL _) ok⟩ ?_
  rintro _ _ ⟨rfl, rfl⟩
  simp only [go_sem, reduceIte, Nat.reduceEqDiff, Nat.reduceAdd, Nat.reduceLeDiff, Nat.reducePow, Nat.reduceDiv, Nat.reduceMod, decide_true, hX]
  refine wCall_use ⟨ht.1, ht.2 _ _ l _ i hI ok⟩ ?_
  rintro _ _ ⟨rfl, rfl⟩
  simp only [go_sem, reduceIte, Nat.reduceEqDiff, Nat.reduceAdd, Nat.reduceLeDiff, Nat.reducePow, Nat.reduceDiv, Nat.reduceMod, decide_true, hA]
  refine wCall_use ⟨ht'.1, ht'.2 _ _ l _ i (hL _) ok⟩ ?_
  rintro _ _ ⟨rfl, rfl⟩
  simp only [go_sem, reduceIte, Nat.reduceEqDiff, Nat.reduceAdd, Nat.reduceLeDiff, Nat.reducePow, Nat.reduceDiv, Nat.reduceMod, decide_true, hX]
  refine wCall_use ⟨hs.1, hs.2 _ _ l _ i n hI ok⟩ ?_
  rintro s h2 ⟨hso, _, he2⟩
  have hA2 := he2.get hA
  have hX2 := he2.get hX
  have hI2 := hI.up he2
  simp only [go_sem, reduceIte, Nat.reduceEqDiff, Nat.reduceAdd, Nat.reduceLeDiff, Nat.reducePow, Nat.reduceDiv, Nat.reduceMod, decide_true, decide_true, hX2, hA2]
  refine wCall_use ⟨hn.1, hn.2 _ _ l _ i n hI2 ok⟩ ?_
  rintro _ _ ⟨rfl, rfl⟩
  simp only [go_sem, reduceIte, Nat.reduceEqDiff, Nat.reduceAdd, Nat.reduceLeDiff, Nat.reducePow, Nat.reduceDiv, Nat.reduceMod, decide_true, decide_true, hX2, hA2]
  refine wCall_use ⟨hn'.1, hn'.2 _ _ l _ i n (hL _) ok⟩ ?_
  rintro _ _ ⟨rfl, rfl⟩
  simp only [go_sem, reduceIte, Nat.reduceEqDiff, Nat.reduceAdd, Nat.reduceLeDiff, Nat.reducePow, Nat.reduceDiv, Nat.reduceMod, decide_true, decide_true, hX2, hA2]
  refine wCall_use ⟨hs'.1, hs'.2 _ _ l _ i n (hL _) ok⟩ ?_
  rintro s' h3 ⟨hso', _, he3⟩
  have hA3 := he3.get hA2
  have hX3 := he3.get hX2
  have small := slice_small ok.2.2 i n
  simp only [go_sem, reduceIte, Nat.reduceEqDiff, Nat.reduceAdd, Nat.reduceLeDiff, Nat.reducePow, Nat.reduceDiv, Nat.reduceMod, decide_true, decide_true, hX3, hA3]
  refine wCall_use ⟨hse.1, hse.2 (fun _ => True) _ (l.slice i n) (l.slice i n) _ _ ((Own.rd _ (fun _ _ => trivial) _ hso).up he3) (Own.rd _ (fun _ _ => trivial) _ hso') (by have := small.1; omega) small.2⟩ ?_
  rintro _ _ ⟨rfl, rfl⟩
  simp only [go_sem, reduceIte, Nat.reduceEqDiff, Nat.reduceAdd, Nat.reduceLeDiff, Nat.reducePow, Nat.reduceDiv, Nat.reduceMod, decide_true, decide_true, hX3, hA3]
  have hsT := Own.ty _ _ _ (entries_ty small) ((Own.lt _ _ hso).up he3)
  refine wCall_use ⟨hsp.1, hsp.2 _ _ _ hsT⟩ ?_
  rintro _ h4 ⟨he4, _⟩
  have l0 := (List.getElem?_eq_some_iff.1 hA).1
  have l1 := (List.getElem?_eq_some_iff.1 hX).1
  have hA4 : h4[0]? = some (some (.arr 3 [[.int .i64 l.base, .int .i64 l.bterm, dd]] false)) := by rw [he4.2 0 (List.getElem?_eq_some_iff.1 hA3).1 (by omega)]; exact hA3
  have hX4 : h4[h1.length]? = some (some (.arr 3 [[.int .i64 l.base, .int .i64 l.bterm, r]] false)) := by rw [he4.2 _ (List.getElem?_eq_some_iff.1 hX3).1 (by omega)]; exact hX3
  have hI4 := RdL.mono (fun _ x => x) (he4.keepOff (F' := _) (fun m hm hm' hm'' => by have := hm'.2; omega)) _ _ (((RdL.lt _ _ hI).up he2).up he3)
  simp only [go_sem, reduceIte, Nat.reduceEqDiff, Nat.reduceAdd, Nat.reduceLeDiff, Nat.reducePow, Nat.reduceDiv, Nat.reduceMod, decide_true, hA4, hX4]
  refine wCall_use ⟨hsl.1, hsl.2 (fun _ => True) _ l l _ _ (RdL.mono (fun _ _ => trivial) (fun _ _ _ x => x) _ _ hI4) (RdL.mono (fun _ _ => trivial) (fun _ _ _ x => x) _ _ (hL _)) (by have := ok.2.2.1; omega) ok.2.2.2⟩ ?_
  rintro _ _ ⟨rfl, rfl⟩
  simp only [go_sem, reduceIte, Nat.reduceEqDiff, Nat.reduceAdd, Nat.reduceLeDiff, Nat.reducePow, Nat.reduceDiv, Nat.reduceMod, decide_true, decide_true]

end Glb
