/-
  A library of its own: its parts, one behind the other.
-/
import Derived.Test.YtifkpnagloijkaaGlbSecA
import Derived.Test.YtifkpnagloijkaaGlbSecB
import Derived.Test.YtifkpnagloijkaaGlbTurA
import Derived.Test.YtifkpnagloijkaaGlbImgB
import Derived.Test.YtifkpnagloijkaaGlbImgA
import Derived.Test.YtifkpnagloijkaaGlbMorA
import Derived.Test.YtifkpnagloijkaaGlbLibB
import Derived.Test.YtifkpnagloijkaaGlbConB
import Derived.Test.YtifkpnagloijkaaGlbQuoB
import Derived.Test.YtifkpnagloijkaaGlbQuoA
import Derived.Test.YtifkpnagloijkaaGlbKitA
import Derived.Test.YtifkpnagloijkaaGlbCglebelaw04
set_option linter.unusedSimpArgs false
set_option linter.unusedVariables false
/-
  Layer 4: what the laws call.
-/
namespace Glb
open Go
set_option maxRecDepth 10000
set_option maxHeartbeats 8000000

structure Op4 where
  kind : Int
  i : Int
  look : Int
  data : List Int
  list : List Int
  deriving Inhabited
def Op4.c (o : Op4) : List D := [.int .i64 o.kind, .int .i64 o.i, .int .i64 o.look, dBytes o.data, dInts o.list]
def Op4.v (o : Op4) : List AV := D.avL o.c
theorem Op4.v_eq (o : Op4) : o.v = [.int .i64 o.kind, .int .i64 o.i, .int .i64 o.look, abytes o.data, aints o.list] := by simp only [Op4.v, Op4.c, D.avL, D.av]; rfl
def dOps (l : List Op4) : D := .sl 5 (l.map Op4.c)
def aops (l : List Op4) : AV := (dOps l).av
theorem len_aops (l : List Op4) : alen (aops l) = some (.int .i64 l.length) := by
  have : Rd nof [] (dOps l) (aops l) := rd_av _ _ _
  simpa using this.len
def Op4.few (o : Op4) : Prop := o.data.length ≤ 1024 ∧ o.list.length ≤ 1024
def Op4.R (o : Op4) : Prop := -9223372036854775808 ≤ o.i ∧ o.i ≤ 9223372036854775807

def Dk.op (d : Dk) (o : Op4) : Dk × Int := if o.kind = 0 then d.write o.i o.data else if o.kind = 1 then d.flush else if o.kind = 2 then (d.arm o.i, 0) else if o.kind = 3 then (d.crash o.list, 0) else (d, 0)
theorem rev_peq (g : Opd → AV) (h : AHeap) (neg : Bool) (x : Opd) : rev g h (.x (.peq neg x)) = (pnil (g x)).map fun b => .bool (b != neg) := Eq.trans rfl rfl
theorem pnil_ptr (n sz i o : Nat) : pnil (.ptr n sz i o) = some false := Eq.trans rfl rfl
def Long4Ok (P : Program) (f : FuncId) : Prop := isFn P f = true ∧ ∀ (h : AHeap) (l : List Op4),
  ACalls P f [aops l] h fun r h' => (∃ b, r = .bool b ∧ (b = false → l.length ≤ 200 ∧ ∀ o ∈ l, o.few)) ∧ h' = h
def Run4Ok (P : Program) (f : FuncId) : Prop := isFn P f = true ∧ ∀ (F : Nat → Prop) (h : AHeap) (p : Nat) (d : Dk) (o : Op4), DiskAt F h p d → o.few → o.R → (∀ m, F m → m < h.length) →
  ACalls P f [.ptr p 6 0 0, .agg o.v] h fun r h' => r = .int .i64 (d.op o).2 ∧ DiskAt F h' p (d.op o).1 ∧ Ext F h h'

theorem long4_ok {P : Program} {f : FuncId} (hf : Is P f c_glebelaw04_long) : Long4Ok P f := by
  refine ⟨hf.2, fun h l => ACalls.freeze (K := fun r h' => (∃ b, r = .bool b ∧ (b = false → l.length ≤ 200 ∧ ∀ o ∈ l, o.few)) ∧ Ext nof h h') (fun_sound hf.1 (Nat.le_of_ble_eq_true rfl) ?_) (fun r _ ⟨⟨b, e, hb⟩, hx⟩ => ⟨hx, r, by rw [e]; exact Frz.bool _, b, e, hb⟩)⟩
  show vc P c_glebelaw04_long.code ⟨[(0, aops l)], [], h⟩ (atEnd c_glebelaw04_long.res _)
  by_cases c0 : 200 < (l.length : Int)
  · simp only [c_glebelaw04_long, go_sem, reduceIte, Nat.reduceEqDiff, Nat.reduceAdd, Nat.reduceLeDiff, Nat.reducePow, Nat.reduceDiv, Nat.reduceMod, decide_true, len_aops, decide_eq_true c0]
    exact ⟨⟨true, rfl, fun x => by cases x⟩, Ext.refl _ _⟩
  · simp only [c_glebelaw04_long, go_sem, reduceIte, Nat.reduceEqDiff, Nat.reduceAdd, Nat.reduceLeDiff, Nat.reducePow, Nat.reduceDiv, Nat.reduceMod, decide_true, len_aops, decide_eq_false c0]
    obtain ⟨I, hI⟩ : ∃ I : Nat → Env → AHeap → Prop, ∀ m E h', I m E h' ↔ ∃ (i : Nat), lk 0 E = aops l ∧ lk 3 E = .int .i64 i ∧ h' = h ∧ (∀ j (hj : j < l.length), j < i → l[j].few) ∧ i ≤ l.length ∧ m = l.length - i := ⟨_, fun _ _ _ => Iff.rfl⟩
    refine vc_loop I l.length ((hI _ _ _).2 ⟨0, by simp [lk_ins, lk_cons], by simp [lk_ins], rfl, fun j _ hj => by omega, by omega, by omega⟩) ?_
    intro m E h2 hh
    obtain ⟨i, k0, k3, rfl, hn, hi, rfl⟩ := (hI _ _ _).1 hh
    simp only [c_glebelaw04_long_l0, go_sem, reduceIte, Nat.reduceEqDiff, Nat.reduceAdd, Nat.reduceLeDiff, Nat.reducePow, Nat.reduceDiv, Nat.reduceMod, decide_true, k0, k3, len_aops]
    refine wCond_split (fun ci => ?_) (fun ci => ?_)
    · simp at ci
      obtain ⟨p, hp1, hp2⟩ := index_av 5 Op4.c l .i64 ci
      change aindex 5 (aops l) _ = some p at hp1
      change ∀ h, pcells h p = some l[i].v at hp2
      have l3 : aload h2 false 1 (poff 3 p) = some (abytes l[i].data) := by rw [aload_off (hp2 h2), Op4.v_eq]; rfl
      have l4 : aload h2 false 1 (poff 4 p) = some (aints l[i].list) := by rw [aload_off (hp2 h2), Op4.v_eq]; rfl
      have ew : IntKind.i64.wrap (↑i + 1) = (i : Int) + 1 := wrap_i64 (by omega)
      by_cases c1 : 1024 < (l[i].data.length : Int)
      · simp only [go_sem, reduceIte, Nat.reduceEqDiff, Nat.reduceAdd, Nat.reduceLeDiff, Nat.reducePow, Nat.reduceDiv, Nat.reduceMod, decide_true, k0, k3, hp1, afield_p (hp2 h2), l3, decide_eq_true c1]
        exact ⟨⟨true, rfl, fun x => by cases x⟩, Ext.refl _ _⟩
      · by_cases c2 : 1024 < (l[i].list.length : Int)
        · simp only [go_sem, reduceIte, Nat.reduceEqDiff, Nat.reduceAdd, Nat.reduceLeDiff, Nat.reducePow, Nat.reduceDiv, Nat.reduceMod, decide_true, k0, k3, hp1, afield_p (hp2 h2), l3, l4, decide_eq_false c1, decide_eq_true c2]
          exact ⟨⟨true, rfl, fun x => by cases x⟩, Ext.refl _ _⟩
        · simp only [go_sem, reduceIte, Nat.reduceEqDiff, Nat.reduceAdd, Nat.reduceLeDiff, Nat.reducePow, Nat.reduceDiv, Nat.reduceMod, decide_true, k0, k3, hp1, afield_p (hp2 h2), l3, l4, decide_eq_false c1, decide_eq_false c2, ew]
          refine ⟨_, by omega, (hI _ _ _).2 ⟨i + 1, by simp [lk_ins, k0], by simp [lk_ins], rfl, fun j hj hji => ?_, ci, rfl⟩⟩
          by_cases e : j = i
          · subst e; exact ⟨by omega, by omega⟩
          · exact hn j hj (by omega)
    · simp at ci
      obtain rfl : i = l.length := by omega
      simp only [go_sem, reduceIte, Nat.reduceEqDiff, Nat.reduceAdd, Nat.reduceLeDiff, Nat.reducePow, Nat.reduceDiv, Nat.reduceMod, decide_true]
      refine ⟨⟨false, rfl, fun _ => ⟨by omega, fun o ho => ?_⟩⟩, Ext.refl _ _⟩
      obtain ⟨j, hj, rfl⟩ := List.getElem_of_mem ho
      exact hn j hj hj

theorem run4_ok {P : Program} {f g1 g2 g3 g4 : FuncId} (hf : Is P f (c_glebelaw04_run g1 g2 g3 g4)) (h1 : WriteOk P g1) (h2 : FlushDOk P g2) (h3 : ArmOk P g3) (h4 : CrashDOk P g4) : Run4Ok P f := by
  refine ⟨hf.2, fun F h p d o ha hfew hR hF => fun_sound hf.1 (Nat.le_of_ble_eq_true rfl) ?_⟩
  show vc P (c_glebelaw04_run g1 g2 g3 g4).code ⟨[(0, .ptr p 6 0 0), (1, .agg o.v)], [], h⟩ (atEnd (c_glebelaw04_run g1 g2 g3 g4).res _)
  rw [Op4.v_eq]
  obtain ⟨f1, f2⟩ := hfew
  have X := Ext.b1 (h := h) (some (.arr 5 [[.int .i64 o.kind, .int .i64 o.i, .int .i64 o.look, abytes o.data, aints o.list]] false))
  have ha1 := ha.up X
  have fin : ∀ {H : AHeap} {d' : Dk}, Ext F (h ++ [some (.arr 5 [[.int .i64 o.kind, .int .i64 o.i, .int .i64 o.look, abytes o.data, aints o.list]] false)]) H → Ext F h H := fun e => X.trans e (fun _ _ x => x.elim) (fun _ _ x => x)
  unfold Dk.op
  by_cases c0 : o.kind = 0
  · rw [if_pos c0]
    simp only [c_glebelaw04_run, go_sem, reduceIte, Nat.reduceEqDiff, Nat.reduceAdd, Nat.reduceLeDiff, Nat.reducePow, Nat.reduceDiv, Nat.reduceMod, decide_true, decide_eq_true c0]
    refine wCall_use ⟨h1.1, h1.2 F nof _ p d o.i o.data _ ha1 (rd_abytes _ _ _) (fun _ x => x.elim) (by omega)⟩ ?_
    rintro _ H ⟨rfl, a1, x1⟩
    simp only [go_sem, reduceIte, Nat.reduceEqDiff, Nat.reduceAdd, Nat.reduceLeDiff, Nat.reducePow, Nat.reduceDiv, Nat.reduceMod, decide_true]
    exact ⟨a1, fin (d' := d) x1⟩
  · rw [if_neg c0]
    by_cases c1 : o.kind = 1
    · rw [if_pos c1]
      simp only [c_glebelaw04_run, go_sem, reduceIte, Nat.reduceEqDiff, Nat.reduceAdd, Nat.reduceLeDiff, Nat.reducePow, Nat.reduceDiv, Nat.reduceMod, decide_true, decide_eq_false c0, decide_eq_true c1]
      refine wCall_use ⟨h2.1, h2.2 F _ p d ha1⟩ ?_
      rintro _ H ⟨rfl, a1, x1⟩
      simp only [go_sem, reduceIte, Nat.reduceEqDiff, Nat.reduceAdd, Nat.reduceLeDiff, Nat.reducePow, Nat.reduceDiv, Nat.reduceMod, decide_true]
      exact ⟨a1, fin (d' := d) x1⟩
    · rw [if_neg c1]
      by_cases c2 : o.kind = 2
      · rw [if_pos c2]
        simp only [c_glebelaw04_run, go_sem, reduceIte, Nat.reduceEqDiff, Nat.reduceAdd, Nat.reduceLeDiff, Nat.reducePow, Nat.reduceDiv, Nat.reduceMod, decide_true, decide_eq_false c0, decide_eq_false c1, decide_eq_true c2]
        refine wCall_use ⟨h3.1, h3.2 F _ p d o.i ha1 hR⟩ ?_
        rintro _ H ⟨a1, x1⟩
        simp only [go_sem, reduceIte, Nat.reduceEqDiff, Nat.reduceAdd, Nat.reduceLeDiff, Nat.reducePow, Nat.reduceDiv, Nat.reduceMod, decide_true]
        exact ⟨a1, fin (d' := d) x1⟩
      · rw [if_neg c2]
        by_cases c3 : o.kind = 3
        · rw [if_pos c3]
          simp only [c_glebelaw04_run, go_sem, reduceIte, Nat.reduceEqDiff, Nat.reduceAdd, Nat.reduceLeDiff, Nat.reducePow, Nat.reduceDiv, Nat.reduceMod, decide_true, decide_eq_false c0, decide_eq_false c1, decide_eq_false c2, decide_eq_true c3]
          refine wCall_use ⟨h4.1, h4.2 F nof _ p d o.list _ ha1 (rd_aints _ _ _) (fun _ x => x.elim)⟩ ?_
          rintro _ H ⟨a1, x1⟩
          simp only [go_sem, reduceIte, Nat.reduceEqDiff, Nat.reduceAdd, Nat.reduceLeDiff, Nat.reducePow, Nat.reduceDiv, Nat.reduceMod, decide_true]
          exact ⟨a1, fin (d' := d) x1⟩
        · rw [if_neg c3]
          simp only [c_glebelaw04_run, go_sem, reduceIte, Nat.reduceEqDiff, Nat.reduceAdd, Nat.reduceLeDiff, Nat.reducePow, Nat.reduceDiv, Nat.reduceMod, decide_true, decide_eq_false c0, decide_eq_false c1, decide_eq_false c2, decide_eq_false c3]
          exact ⟨ha1, fin (d' := d) (Ext.refl _ _)⟩

end Glb

/-
  Layer 4: works.
-/
namespace Glb
open Go
set_option maxRecDepth 10000
set_option maxHeartbeats 8000000

def ReadDP (P : Program) (f : FuncId) : Prop := isFn P f = true ∧ ∀ (F : Nat → Prop) (h : AHeap) (p : Nat) (d : Dk) (i : Int), DiskAt F h p d →
  ACalls P f [.ptr p 6 0 0, .int .i64 i] h fun r h' => r = .tup [abytes (d.read i).1, .int .i64 (d.read i).2] ∧ h' = h
theorem ReadDOk.p {P : Program} {f : FuncId} (hc : ReadDOk P f) : ReadDP P f :=
  ⟨hc.1, fun F h p d i ha => (hc.2 F h p d i ha).freeze fun _ _ ⟨a, e, ho, hx⟩ => ⟨hx, _, e ▸ Frz.tup2 (Frz.d (Own.fz (dBytes _) (fun _ x => x) _ ho)) (Frz.int _ _), rfl⟩⟩

theorem rd_litF {F : Nat → Prop} {H : AHeap} {n : Nat} {k : IntKind} {xs : List Int} {g : Bool} {len : Nat} (hb : H[n]? = some (some (.arr 1 (xs.map fun n => [AV.int k n]) g))) (hl : xs.length = len) (hF : F n) :
    Rd F H (.sl 1 (xs.map fun n => [.int k n])) (.ref n 1 0 len (some len)) := by
  simp only [Rd]
  refine ⟨xs.map fun n => [AV.int k n], .inr (.inr ⟨n, 0, len, some len, _, g, rfl, hF, hb, by simp; omega, fun c hc => by cases hc; omega, ?_⟩), ?_⟩
  · subst hl
    rw [List.drop_zero, List.take_of_length_le (by simp)]
  · exact OwnLL.rd (F := F) _ (fun _ x => x) _ (ownLL_ints k F H xs)

def wk1 : Dk := ((Dk.new 4).write 1 [7]).1
def wk2 : Dk := wk1.flush.1
def wk3 : Dk := (wk2.write 1 [8]).1
def wk4 : Dk := (wk3.write 2 [9]).1
def wk5 : Dk := wk4.crash [2, 1]

theorem works4_ok {P : Program} {f fn fw ff fc fr fs fd : FuncId} (hf : Is P f (c_glebelaw04_works fn fw ff fc fr fs fd)) (hn : NewDOk P fn) (hw : WriteOk P fw) (hff : FlushDOk P ff) (hc : CrashDOk P fc) (hr : ReadDP P fr) (hs : SameOk P fs .u8) (hd : DirtyP P fd) : YesOk P f := by
  refine ⟨hf.2, fun h => ACalls.freeze (K := fun r h' => r = .bool true ∧ Ext nof h h') (fun_sound hf.1 (Nat.le_of_ble_eq_true rfl) ?_) (fun r _ ⟨e, hx⟩ => ⟨hx, r, by rw [e]; exact Frz.bool _, e⟩)⟩
  show vc P (c_glebelaw04_works fn fw ff fc fr fs fd).code ⟨[], [], h⟩ (atEnd (c_glebelaw04_works fn fw ff fc fr fs fd).res _)
  simp only [c_glebelaw04_works, go_sem, reduceIte, Nat.reduceEqDiff, Nat.reduceAdd, Nat.reduceLeDiff, Nat.reducePow, Nat.reduceDiv, Nat.reduceMod, decide_true]
  refine wCall_use ⟨hn.1, hn.2 h 4⟩ ?_
  rintro r H ⟨e1, -, X⟩
  obtain ⟨p, rfl, a⟩ := e1 (by omega)
  obtain ⟨F, a, hF, hF2⟩ : ∃ F : Nat → Prop, DiskAt F H p (Dk.new 4) ∧ (∀ m, F m → m < H.length) ∧ (∀ m, m < h.length → ¬ F m) := ⟨_, a, fun m x => x.2, fun m x y => by have := y.1; omega⟩
  simp only [go_sem, reduceIte, Nat.reduceEqDiff, Nat.reduceAdd, Nat.reduceLeDiff, Nat.reducePow, Nat.reduceDiv, Nat.reduceMod, decide_true, rev_peq, pnil_ptr, show (false != false) = false from rfl]
  have step : ∀ {H1 H2 : AHeap}, H.length ≤ H1.length → Ext nof h H1 → Ext F H1 H2 → Ext nof h H2 ∧ H.length ≤ H2.length := fun l e x => ⟨e.then x hF2, Nat.le_trans l x.1⟩
  have lit : ∀ (H1 : AHeap) (z : Int), H.length ≤ H1.length → Rd (fun m => H1.length ≤ m) (H1 ++ [some (.arr 1 [[.int .u8 z]] false)]) (dBytes [z]) (.ref H1.length 1 0 1 (some 1)) := fun H1 z hl => rd_litF (k := .u8) (xs := [z]) (bx10 _ _) rfl (Nat.le_refl _)
  have dis : ∀ (H1 : AHeap), H.length ≤ H1.length → ∀ m, H1.length ≤ m → ¬ F m := fun H1 l m hm x => by have := hF m x; omega
  have l0 : H.length ≤ H.length := Nat.le_refl _
  refine wCall_use ⟨hw.1, hw.2 F _ _ p _ 1 [7] _ (a.up (Ext.b1 _)) (lit H 7 l0) (dis H l0) (by simp)⟩ ?_
  rintro _ H1 ⟨rfl, a1, x1⟩
  obtain ⟨X1, l1⟩ := step (by simp) (X.tr (Ext.b1 _)) x1
  rw [show ((Dk.new 4).write 1 [7]).2 = 0 from rfl, show ((Dk.new 4).write 1 [7]).1 = wk1 from rfl] at *
  simp only [go_sem, reduceIte, Nat.reduceEqDiff, Nat.reduceAdd, Nat.reduceLeDiff, Nat.reducePow, Nat.reduceDiv, Nat.reduceMod, decide_true]
  refine wCall_use ⟨hff.1, hff.2 F H1 p wk1 a1⟩ ?_
  rintro _ H2 ⟨rfl, a2, x2⟩
  obtain ⟨X2, l2⟩ := step l1 X1 x2
  rw [show wk1.flush.2 = 0 from rfl, show wk1.flush.1 = wk2 from rfl] at *
  simp only [go_sem, reduceIte, Nat.reduceEqDiff, Nat.reduceAdd, Nat.reduceLeDiff, Nat.reducePow, Nat.reduceDiv, Nat.reduceMod, decide_true]
  refine wCall_use ⟨hw.1, hw.2 F _ _ p wk2 1 [8] _ (a2.up (Ext.b1 _)) (lit H2 8 l2) (dis H2 l2) (by simp)⟩ ?_
  rintro _ H3 ⟨rfl, a3, x3⟩
  obtain ⟨X3, l3⟩ := step (by simp; omega) (X2.tr (Ext.b1 _)) x3
  rw [show (wk2.write 1 [8]).2 = 0 from rfl, show (wk2.write 1 [8]).1 = wk3 from rfl] at *
  simp only [go_sem, reduceIte, Nat.reduceEqDiff, Nat.reduceAdd, Nat.reduceLeDiff, Nat.reducePow, Nat.reduceDiv, Nat.reduceMod, decide_true]
  refine wCall_use ⟨hw.1, hw.2 F _ _ p wk3 2 [9] _ (a3.up (Ext.b1 _)) (lit H3 9 l3) (dis H3 l3) (by simp)⟩ ?_
  rintro _ H4 ⟨rfl, a4, x4⟩
  obtain ⟨X4, l4⟩ := step (by simp; omega) (X3.tr (Ext.b1 _)) x4
  rw [show (wk3.write 2 [9]).2 = 0 from rfl, show (wk3.write 2 [9]).1 = wk4 from rfl] at *
  simp only [go_sem, reduceIte, Nat.reduceEqDiff, Nat.reduceAdd, Nat.reduceLeDiff, Nat.reducePow, Nat.reduceDiv, Nat.reduceMod, decide_true]
  refine wCall_use ⟨hc.1, hc.2 F (fun m => H4.length ≤ m) _ p wk4 [2, 1] _ (a4.up (Ext.b1 _)) (rd_litF (k := .i64) (xs := [2, 1]) (bx10 _ _) rfl (Nat.le_refl _)) (dis H4 l4)⟩ ?_
  rintro _ H5 ⟨a5, x5⟩
  obtain ⟨X5, l5⟩ := step (by simp; omega) (X4.tr (Ext.b1 _)) x5
  rw [show wk4.crash [2, 1] = wk5 from rfl] at *
  simp only [go_sem, reduceIte, Nat.reduceEqDiff, Nat.reduceAdd, Nat.reduceLeDiff, Nat.reducePow, Nat.reduceDiv, Nat.reduceMod, decide_true]
  refine use1 hr.1 (hr.2 F H5 p wk5 1 a5) ?_
  rw [show wk5.read 1 = ([], 9) from rfl]
  simp only [go_sem, reduceIte, Nat.reduceEqDiff, Nat.reduceAdd, Nat.reduceLeDiff, Nat.reducePow, Nat.reduceDiv, Nat.reduceMod, decide_true]
  refine use1 hr.1 (hr.2 F H5 p wk5 2 a5) ?_
  rw [show wk5.read 2 = ([9], 0) from rfl]
  simp only [go_sem, reduceIte, Nat.reduceEqDiff, Nat.reduceAdd, Nat.reduceLeDiff, Nat.reducePow, Nat.reduceDiv, Nat.reduceMod, decide_true]
  refine use1 hs.1 (hs.2 (fun _ => True) _ [9] [9] _ _ (rd_abytes _ _ _) (rd_litF (k := .u8) (xs := [9]) (bx10 _ _) rfl trivial) (by simp)) ?_
  simp only [go_sem, reduceIte, Nat.reduceEqDiff, Nat.reduceAdd, Nat.reduceLeDiff, Nat.reducePow, Nat.reduceDiv, Nat.reduceMod, decide_true]
  refine use1 hd.1 (hd.2 F _ p wk5 (a5.up (Ext.b1 _))) ?_
  rw [show wk5.dirty = [] from rfl]
  simp only [go_sem, reduceIte, Nat.reduceEqDiff, Nat.reduceAdd, Nat.reduceLeDiff, Nat.reducePow, Nat.reduceDiv, Nat.reduceMod, decide_true]
  exact ⟨rfl, X5.tr (Ext.b1 _)⟩

end Glb

/-
  Layer 4: both and Looks.
-/
namespace Glb
open Go
set_option maxRecDepth 10000
set_option maxHeartbeats 8000000

theorem Dk.read_len {d : Dk} (h : d.ok) (i : Int) : (d.read i).1.length ≤ 64 := by
  unfold Dk.read
  split
  · simp
  · split
    · rename_i s e; exact (h.cache.2 s (sfind_some e).1).2.2.1
    · cases e : sfind d.lasts i with
      | none => simp [readL]
      | some s => simp only [readL]; split; · simp
                  exact (h.lasts.2 s (sfind_some e).1).2.2

theorem DiskAt.off {F F' : Nat → Prop} {h h' : AHeap} {p d} (a : DiskAt F h p d) (x : Ext F' h h') (hd : ∀ m, m < h.length → F m → ¬ F' m) : DiskAt F h' p d := a.mono (fun _ x => x) (x.keepOff hd)
end Glb

/-
  Layer 4: the law SectorRuns.
-/
namespace Glb
open Go
set_option maxRecDepth 10000
set_option maxHeartbeats 8000000

theorem ops_at {l : List Op4} {i : Nat} (hi : i < l.length) : ∃ p, aindex 5 (aops l) (.int .i64 i) = some p ∧ (∀ h, aload h true 5 p = some (.agg l[i].v)) ∧ (∀ o, afield o p = some (poff o p)) ∧
    (∀ h, aload h false 1 (poff 1 p) = some (.int .i64 l[i].i)) ∧ (∀ h, aload h false 1 (poff 2 p) = some (.int .i64 l[i].look)) ∧ (∀ h, aload h false 1 (poff 0 p) = some (.int .i64 l[i].kind)) := by
  obtain ⟨p, hp1, hp2⟩ := index_av 5 Op4.c l .i64 hi
  change aindex 5 (aops l) _ = some p at hp1
  change ∀ h, pcells h p = some l[i].v at hp2
  refine ⟨p, hp1, fun h => ?_, fun o => afield_p (hp2 []) o, fun h => ?_, fun h => ?_, fun h => ?_⟩
  · rw [aload_p (hp2 h), take_agg, if_pos (by rw [Op4.v_eq]; simp), List.take_of_length_le (by rw [Op4.v_eq]; simp)]
  · rw [aload_off (hp2 h), Op4.v_eq]; rfl
  · rw [aload_off (hp2 h), Op4.v_eq]; rfl
  · rw [aload_off (hp2 h), Op4.v_eq]; rfl

end Glb
