/-
  A library of its own: its parts, one behind the other.
-/
import Derived.Test.YthbhbgnngmfpiaaGlbSecA
import Derived.Test.YthbhbgnngmfpiaaGlbSecB
import Derived.Test.YthbhbgnngmfpiaaGlbGetA
import Derived.Test.YthbhbgnngmfpiaaGlbKnown13
import Derived.Test.YthbhbgnngmfpiaaGlbImgE
import Derived.Test.YthbhbgnngmfpiaaGlbCglebelaw04
set_option linter.unusedSimpArgs false
set_option linter.unusedVariables false
/-
  Layer 4: what the laws call.
-/
namespace Glb
open Go
set_option maxRecDepth 10000
set_option maxHeartbeats 8000000

theorem rev_peq (g : Opd → AV) (h : AHeap) (neg : Bool) (x : Opd) : rev g h (.x (.peq neg x)) = (pnil (g x)).map fun b => .bool (b != neg) := Eq.trans rfl rfl
theorem pnil_ptr (n sz i o : Nat) : pnil (.ptr n sz i o) = some false := Eq.trans rfl rfl
end Glb

/-
  Layer 4: works.
-/
namespace Glb
open Go
set_option maxRecDepth 10000
set_option maxHeartbeats 8000000

def ReadDP (P : Program) (f : FuncId) : Prop := isFn P f = true ∧ ∀ (F : Nat → Prop) (h : AHeap) (p : Nat) (d : Dk) (i : Int), DiskAt F h p d →
  ACalls P f [.ptr p 6 0 0, .int .i64 i] h fun r h' => r = .tup [abytes (d.read i).1, .int .i64 (d.read i).2] ∧ h' = h
theorem ReadDOk.p {P : Program} {f : FuncId} (hc : ReadDOk P f) : ReadDP P f :=
  ⟨hc.1, fun F h p d i ha => (hc.2 F h p d i ha).freeze fun _ _ ⟨a, e, ho, hx⟩ => ⟨hx, _, e ▸ Frz.tup2 (Frz.d (Own.fz (dBytes _) (fun _ x => x) _ ho)) (Frz.int _ _), rfl⟩⟩

theorem rd_litF {F : Nat → Prop} {H : AHeap} {n : Nat} {k : IntKind} {xs : List Int} {g : Bool} {len : Nat} (hb : H[n]? = some (some (.arr 1 (xs.map fun n => [AV.int k n]) g))) (hl : xs.length = len) (hF : F n) :
    Rd F H (.sl 1 (xs.map fun n => [.int k n])) (.ref n 1 0 len (some len)) := by
  simp only [Rd]
  refine ⟨xs.map fun n => [AV.int k n], .inr (.inr ⟨n, 0, len, some len, _, g, rfl, hF, hb, by simp; omega, fun c hc => by cases hc; omega, ?_⟩), ?_⟩
  · subst hl
    rw [List.drop_zero, List.take_of_length_le (by simp)]
  · exact OwnLL.rd (F := F) _ (fun _ x => x) _ (ownLL_ints k F H xs)

end Glb

/-
  Layer 4: both and Looks.
-/
namespace Glb
open Go
set_option maxRecDepth 10000
set_option maxHeartbeats 8000000

def LooksOk (P : Program) (f : FuncId) : Prop := isFn P f = true ∧ ∀ (F : Nat → Prop) (h : AHeap) (p q : Nat) (d : Dk) (i : Int), DiskAt F h p d → RefAt h q d → (∀ m, F m → m < h.length) →
  ACalls P f [.ptr p 6 0 0, .ptr q 5 0 0, .int .i64 i] h fun r h' => r = .bool true ∧ h' = h

theorem ownK_ty {k : IntKind} {F : Nat → Prop} {h : AHeap} {l : List Int} {a : AV} (hl : l.length ≤ 2^40) (ho : Own (.sl 1 (l.map fun n => [.int k n])) F h a) : OwnT (.sl 1 [.int k]) F h a := by
  refine Own.ty _ _ _ ?_ ho
  simp only [HasTy]
  refine ⟨_, rfl, by simpa using hl, HasTyLL_mk fun d hd => ?_⟩
  obtain ⟨n, _, rfl⟩ := List.mem_map.1 hd
  exact ⟨_, _, rfl, rfl, rfl⟩

theorem Dk.read_len {d : Dk} (h : d.ok) (i : Int) : (d.read i).1.length ≤ 64 := by
  unfold Dk.read
  split
  · simp
  · split
    · rename_i s e; exact (h.cache.2 s (sfind_some e).1).2.2.1
    · cases e : sfind d.lasts i with
      | none => simp [readL]
      | some s => simp only [readL]; split; · simp
                  exact (h.lasts.2 s (sfind_some e).1).2.2

theorem looks_ok {P : Program} {f fr xr fs sb fd xd fi si fl fo : FuncId} (hf : Is P f (c_glebelaw04_Looks fr xr fs sb fd xd fi si fl fo)) (hr : ReadDOk P fr) (hx : XReadOk P xr) (hs : SameOk P fs .u8) (hsb : SpoilOk P sb (.sl 1 [.int .u8])) (hd : DirtyOk P fd) (hxd : XDirtyOk P xd)
    (hi : SameOk P fi .i64) (hsi : SpoilOk P si (.sl 1 [.int .i64])) (hl : DLenOk P fl) (ho : DownOk P fo) : LooksOk P f := by
  refine ⟨hf.2, fun F h p q d i ha hq hF => ACalls.freeze (K := fun r h' => r = .bool true ∧ Ext nof h h') (fun_sound hf.1 (Nat.le_of_ble_eq_true rfl) ?_) (fun r _ ⟨e, hx⟩ => ⟨hx, r, by rw [e]; exact Frz.bool _, e⟩)⟩
  show vc P (c_glebelaw04_Looks fr xr fs sb fd xd fi si fl fo).code ⟨[(0, .ptr p 6 0 0), (1, .ptr q 5 0 0), (2, .int .i64 i)], [], h⟩ (atEnd (c_glebelaw04_Looks fr xr fs sb fd xd fi si fl fo).res _)
  have hq0 := hq.lt
  simp only [c_glebelaw04_Looks, go_sem, reduceIte, Nat.reduceEqDiff, Nat.reduceAdd, Nat.reduceLeDiff, Nat.reducePow, Nat.reduceDiv, Nat.reduceMod, decide_true]
  refine wCall_use ⟨hr.1, hr.2 F h p d i ha⟩ ?_
  rintro _ h1 ⟨a, rfl, oa, x1⟩
  simp only [go_sem, reduceIte, Nat.reduceEqDiff, Nat.reduceAdd, Nat.reduceLeDiff, Nat.reducePow, Nat.reduceDiv, Nat.reduceMod, decide_true]
  refine wCall_use ⟨hr.1, hr.2 F h1 p d i (ha.up x1)⟩ ?_
  rintro _ h2 ⟨b, rfl, ob, x2⟩
  simp only [go_sem, reduceIte, Nat.reduceEqDiff, Nat.reduceAdd, Nat.reduceLeDiff, Nat.reducePow, Nat.reduceDiv, Nat.reduceMod, decide_true]
  have x02 := x1.tr x2
  refine wCall_use ⟨hx.1, hx.2 h2 q d i (hq.up (x02.2 q hq0 (fun x => x)))⟩ ?_
  rintro _ h2 ⟨⟨w, rfl, rw⟩, rfl⟩
  have len := Dk.read_len ha.ok i
  have oa2 : Own (dBytes (d.read i).1) (fun m => h.length ≤ m ∧ m < h1.length) h2 a := Own.mono _ (fun _ x => x) (x2.keep _) _ (Own.lt _ _ oa)
  have ra : Rd (fun _ => True) h2 (dBytes (d.read i).1) a := Own.rd _ (fun _ _ => trivial) _ oa2
  have rb : Rd (fun _ => True) h2 (dBytes (d.read i).1) b := Own.rd _ (fun _ _ => trivial) _ ob
  have rw2 : ∀ h, Rd (fun _ => True) h (dBytes (d.read i).1) w := fun h => Rd.mono (fun _ x => x.elim) (Keep.lt _ _) _ _ (rw h)
  have ne : ∀ z : Int, (!decide (z = z)) = false := fun z => by simp
  simp only [go_sem, reduceIte, Nat.reduceEqDiff, Nat.reduceAdd, Nat.reduceLeDiff, Nat.reducePow, Nat.reduceDiv, Nat.reduceMod, decide_true, ne]
  refine use1 hs.1 (hs.2 _ h2 _ _ _ _ ra (rw2 h2) (by omega)) ?_
  simp only [go_sem, reduceIte, Nat.reduceEqDiff, Nat.reduceAdd, Nat.reduceLeDiff, Nat.reducePow, Nat.reduceDiv, Nat.reduceMod, decide_true]
  refine use1 hs.1 (hs.2 _ h2 _ _ _ _ rb (rw2 h2) (by omega)) ?_
  simp only [go_sem, reduceIte, Nat.reduceEqDiff, Nat.reduceAdd, Nat.reduceLeDiff, Nat.reducePow, Nat.reduceDiv, Nat.reduceMod, decide_true]
  refine wCall_use ⟨hsb.1, hsb.2 _ h2 a (ownK_ty (by omega) oa2)⟩ ?_
  rintro _ h3 ⟨x3, -⟩
  simp only [go_sem, reduceIte, Nat.reduceEqDiff, Nat.reduceAdd, Nat.reduceLeDiff, Nat.reducePow, Nat.reduceDiv, Nat.reduceMod, decide_true]
  have l12 := x2.1
  have l01 := x1.1
  have l23 := x3.1
  have ha3 : DiskAt F h3 p d := (ha.up x02).mono (fun _ x => x) (x3.keepOff fun m _ hm hm' => by have := hF m hm; omega)
  have x03 : Ext nof h h3 := x02.then x3 fun m hm hm' => by omega
  have rb3 : Rd (fun m => h1.length ≤ m) h3 (dBytes (d.read i).1) b := Own.rd _ (fun _ x => x) _ (Own.mono _ (fun _ x => x) (x3.keepOff fun m _ hm hm' => by omega) _ ob)
  refine wCall_use ⟨hd.1, hd.2 F h3 p d ha3⟩ ?_
  rintro l h4 ⟨ol, x4⟩
  simp only [go_sem, reduceIte, Nat.reduceEqDiff, Nat.reduceAdd, Nat.reduceLeDiff, Nat.reducePow, Nat.reduceDiv, Nat.reduceMod, decide_true]
  have x04 := x03.tr x4
  refine use1 hxd.1 (hxd.2 h4 q d (hq.up (x04.2 q hq0 (fun x => x)))) ?_
  have ldl : d.dirty.length ≤ 2^40 := by have := ha.ok.clen; simp [Dk.dirty]; omega
  simp only [go_sem, reduceIte, Nat.reduceEqDiff, Nat.reduceAdd, Nat.reduceLeDiff, Nat.reducePow, Nat.reduceDiv, Nat.reduceMod, decide_true]
  refine use1 hs.1 (hs.2 _ h4 _ _ _ _ (Rd.mono (fun _ _ => trivial) (x4.keep _) _ _ rb3) (rw2 h4) (by omega)) ?_
  simp only [go_sem, reduceIte, Nat.reduceEqDiff, Nat.reduceAdd, Nat.reduceLeDiff, Nat.reducePow, Nat.reduceDiv, Nat.reduceMod, decide_true]
  refine use1 hi.1 (hi.2 _ h4 _ _ _ _ (Own.rd (F' := fun _ => True) _ (fun _ _ => trivial) _ ol) (rd_aints _ _ _) ldl) ?_
  simp only [go_sem, reduceIte, Nat.reduceEqDiff, Nat.reduceAdd, Nat.reduceLeDiff, Nat.reducePow, Nat.reduceDiv, Nat.reduceMod, decide_true]
  have ol2 : Own (dInts d.dirty) (fun m => h3.length ≤ m ∧ m < h4.length) h4 l := Own.lt _ _ ol
  refine wCall_use ⟨hsi.1, hsi.2 _ h4 l (ownK_ty ldl ol2)⟩ ?_
  rintro _ h5 ⟨x5, -⟩
  simp only [go_sem, reduceIte, Nat.reduceEqDiff, Nat.reduceAdd, Nat.reduceLeDiff, Nat.reducePow, Nat.reduceDiv, Nat.reduceMod, decide_true]
  have ha5 : DiskAt F h5 p d := (ha3.up x4).mono (fun _ x => x) (x5.keepOff fun m _ hm hm' => by have := hF m hm; omega)
  have x05 : Ext nof h h5 := x04.then x5 fun m hm hm' => by omega
  have hq5 := hq.up (x05.2 q hq0 (fun x => x))
  obtain ⟨⟨L, C, B, -, -⟩, -⟩ := hq5
  have hdp := hd.p
  refine use1 hdp.1 (hdp.2 F h5 p d ha5) ?_
  simp only [go_sem, reduceIte, Nat.reduceEqDiff, Nat.reduceAdd, Nat.reduceLeDiff, Nat.reducePow, Nat.reduceDiv, Nat.reduceMod, decide_true]
  refine use1 hi.1 (hi.2 _ h5 _ _ _ _ (rd_aints (fun _ => True) _ _) (rd_aints _ _ _) ldl) ?_
  simp only [go_sem, reduceIte, Nat.reduceEqDiff, Nat.reduceAdd, Nat.reduceLeDiff, Nat.reducePow, Nat.reduceDiv, Nat.reduceMod, decide_true, B]
  refine use1 hl.1 (hl.2 F h5 p d ha5) ?_
  simp only [go_sem, reduceIte, Nat.reduceEqDiff, Nat.reduceAdd, Nat.reduceLeDiff, Nat.reducePow, Nat.reduceDiv, Nat.reduceMod, decide_true, B]
  refine use1 ho.1 (ho.2 F h5 p d ha5) ?_
  have bb : (d.off == d.off) = true := by cases d.off <;> rfl
  simp only [go_sem, reduceIte, Nat.reduceEqDiff, Nat.reduceAdd, Nat.reduceLeDiff, Nat.reducePow, Nat.reduceDiv, Nat.reduceMod, decide_true, B, bb]
  exact x05

theorem DiskAt.off {F F' : Nat → Prop} {h h' : AHeap} {p d} (a : DiskAt F h p d) (x : Ext F' h h') (hd : ∀ m, m < h.length → F m → ¬ F' m) : DiskAt F h' p d := a.mono (fun _ x => x) (x.keepOff hd)
theorem RefAt.off {F' : Nat → Prop} {h h' : AHeap} {q d} (a : RefAt h q d) (x : Ext F' h h') (hd : ¬ F' q) : RefAt h' q d := a.up (x.2 q a.lt hd)

def All4Ok (P : Program) (f : FuncId) : Prop := isFn P f = true ∧ ∀ (F : Nat → Prop) (h : AHeap) (p q : Nat) (d : Dk), DiskAt F h p d → RefAt h q d → (∀ m, F m → m < h.length) →
  ACalls P f [.ptr p 6 0 0, .ptr q 5 0 0] h fun r h' => r = .bool true ∧ h' = h

theorem all4_ok {P : Program} {f g : FuncId} (hf : Is P f (c_glebelaw04_All g)) (hg : LooksOk P g) : All4Ok P f := by
  refine ⟨hf.2, fun F h p q d da qa hF => fun_sound hf.1 (Nat.le_of_ble_eq_true rfl) ?_⟩
  show vc P (c_glebelaw04_All g).code ⟨[(0, .ptr p 6 0 0), (1, .ptr q 5 0 0)], [], h⟩ (atEnd (c_glebelaw04_All g).res _)
  have ⟨⟨L, C, B, hL, hC⟩, ok⟩ := qa
  have ll := ok.llen
  have cl := ok.clen
  have lL := hL.len
  have lC := hC.len
  simp only [c_glebelaw04_All, go_sem, reduceIte, Nat.reduceEqDiff, Nat.reduceAdd, Nat.reduceLeDiff, Nat.reducePow, Nat.reduceDiv, Nat.reduceMod, decide_true]
  obtain ⟨I, hI⟩ : ∃ I : Nat → Env → AHeap → Prop, ∀ m E h', I m E h' ↔ ∃ (i : Nat), lk 0 E = .ptr p 6 0 0 ∧ lk 1 E = .ptr q 5 0 0 ∧ lk 5 E = .int .i64 i ∧ h' = h ∧ i ≤ d.lasts.length ∧ m = d.lasts.length - i := ⟨_, fun _ _ _ => Iff.rfl⟩
  refine vc_loop I d.lasts.length ((hI _ _ _).2 ⟨0, by simp [lk_ins, lk_cons], by simp [lk_ins, lk_cons], by simp [lk_ins], rfl, by omega, by omega⟩) ?_
  intro m E h2 hh
  obtain ⟨i, k0, k1, k5, rfl, hi, rfl⟩ := (hI _ _ _).1 hh
  simp only [c_glebelaw04_All_l0, go_sem, reduceIte, Nat.reduceEqDiff, Nat.reduceAdd, Nat.reduceLeDiff, Nat.reducePow, Nat.reduceDiv, Nat.reduceMod, decide_true, k0, k1, k5, B, lL]
  refine wCond_split (fun ci => ?_) (fun ci => ?_)
  · simp at ci
    obtain ⟨pp, hp1, hp2⟩ := hL.at ci
    have l0 : aload h2 false 1 (poff 0 pp) = some (.int .i64 d.lasts[i].no) := by rw [aload_off (hp2 h2), Sec.v_eq]; rfl
    have ew : IntKind.i64.wrap (↑i + 1) = (i : Int) + 1 := wrap_i64 (by omega)
    simp only [go_sem, reduceIte, Nat.reduceEqDiff, Nat.reduceAdd, Nat.reduceLeDiff, Nat.reducePow, Nat.reduceDiv, Nat.reduceMod, decide_true, k0, k1, k5, B, hp1, afield_p (hp2 h2), l0]
    refine use1 hg.1 (hg.2 F h2 p q d _ da qa hF) ?_
    simp only [go_sem, reduceIte, Nat.reduceEqDiff, Nat.reduceAdd, Nat.reduceLeDiff, Nat.reducePow, Nat.reduceDiv, Nat.reduceMod, decide_true, k0, k1, k5, ew]
    exact ⟨_, by omega, (hI _ _ _).2 ⟨i + 1, by simp [lk_ins, k0], by simp [lk_ins, k1], by simp [lk_ins], rfl, ci, rfl⟩⟩
  · simp only [go_sem, reduceIte, Nat.reduceEqDiff, Nat.reduceAdd, Nat.reduceLeDiff, Nat.reducePow, Nat.reduceDiv, Nat.reduceMod, decide_true, k0, k1]
    clear hh hI I
    obtain ⟨I, hI⟩ : ∃ I : Nat → Env → AHeap → Prop, ∀ m E h', I m E h' ↔ ∃ (i : Nat), lk 0 E = .ptr p 6 0 0 ∧ lk 1 E = .ptr q 5 0 0 ∧ lk 6 E = .int .i64 i ∧ h' = h2 ∧ i ≤ d.cache.length ∧ m = d.cache.length - i := ⟨_, fun _ _ _ => Iff.rfl⟩
    refine vc_loop I d.cache.length ((hI _ _ _).2 ⟨0, by simp [lk_ins, k0], by simp [lk_ins, k1], by simp [lk_ins], rfl, by omega, by omega⟩) ?_
    clear k0 k1 k5
    intro m E h3 hh
    obtain ⟨i, k0, k1, k6, rfl, hi, rfl⟩ := (hI _ _ _).1 hh
    simp only [c_glebelaw04_All_l1, go_sem, reduceIte, Nat.reduceEqDiff, Nat.reduceAdd, Nat.reduceLeDiff, Nat.reducePow, Nat.reduceDiv, Nat.reduceMod, decide_true, k0, k1, k6, B, lC]
    refine wCond_split (fun ci => ?_) (fun ci => ?_)
    · simp at ci
      obtain ⟨pp, hp1, hp2⟩ := hC.at ci
      have l0 : aload h3 false 1 (poff 0 pp) = some (.int .i64 d.cache[i].no) := by rw [aload_off (hp2 h3), Sec.v_eq]; rfl
      have ew : IntKind.i64.wrap (↑i + 1) = (i : Int) + 1 := wrap_i64 (by omega)
      simp only [go_sem, reduceIte, Nat.reduceEqDiff, Nat.reduceAdd, Nat.reduceLeDiff, Nat.reducePow, Nat.reduceDiv, Nat.reduceMod, decide_true, k0, k1, k6, B, hp1, afield_p (hp2 h3), l0]
      refine use1 hg.1 (hg.2 F h3 p q d _ da qa hF) ?_
      simp only [go_sem, reduceIte, Nat.reduceEqDiff, Nat.reduceAdd, Nat.reduceLeDiff, Nat.reducePow, Nat.reduceDiv, Nat.reduceMod, decide_true, k0, k1, k6, ew]
      exact ⟨_, by omega, (hI _ _ _).2 ⟨i + 1, by simp [lk_ins, k0], by simp [lk_ins, k1], by simp [lk_ins], rfl, ci, rfl⟩⟩
    · simp only [go_sem, reduceIte, Nat.reduceEqDiff, Nat.reduceAdd, Nat.reduceLeDiff, Nat.reducePow, Nat.reduceDiv, Nat.reduceMod, decide_true, k0, k1]
      refine use1 hg.1 (hg.2 F h3 p q d _ da qa hF) ?_
      simp only [go_sem, reduceIte, Nat.reduceEqDiff, Nat.reduceAdd, Nat.reduceLeDiff, Nat.reducePow, Nat.reduceDiv, Nat.reduceMod, decide_true]

end Glb

/-
  Layer 4: the law SectorRuns.
-/
namespace Glb
open Go
set_option maxRecDepth 10000
set_option maxHeartbeats 8000000

end Glb
