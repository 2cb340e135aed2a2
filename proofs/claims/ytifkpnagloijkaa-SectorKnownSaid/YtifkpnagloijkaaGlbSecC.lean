/-
  A library of its own: its parts, one behind the other.
-/
import Derived.Test.YtifkpnagloijkaaGlbSecA
import Derived.Test.YtifkpnagloijkaaGlbSecB
import Derived.Test.YtifkpnagloijkaaGlbGetA
import Derived.Test.YtifkpnagloijkaaGlbKnown13
import Derived.Test.YtifkpnagloijkaaGlbImgB
import Derived.Test.YtifkpnagloijkaaGlbImgC
import Derived.Test.YtifkpnagloijkaaGlbLibB
import Derived.Test.YtifkpnagloijkaaGlbQuoB
import Derived.Test.YtifkpnagloijkaaGlbKitA
import Derived.Test.YtifkpnagloijkaaGlbCglebelaw04
set_option linter.unusedSimpArgs false
set_option linter.unusedVariables false
/-
  Layer 4: what the laws call.
-/
namespace Glb
open Go
set_option maxRecDepth 10000
set_option maxHeartbeats 8000000

structure Op4 where
  kind : Int
  i : Int
  look : Int
  data : List Int
  list : List Int
  deriving Inhabited
def Op4.c (o : Op4) : List D := [.int .i64 o.kind, .int .i64 o.i, .int .i64 o.look, dBytes o.data, dInts o.list]
def Op4.v (o : Op4) : List AV := D.avL o.c
theorem Op4.v_eq (o : Op4) : o.v = [.int .i64 o.kind, .int .i64 o.i, .int .i64 o.look, abytes o.data, aints o.list] := by simp only [Op4.v, Op4.c, D.avL, D.av]; rfl
def dOps (l : List Op4) : D := .sl 5 (l.map Op4.c)
def aops (l : List Op4) : AV := (dOps l).av
theorem len_aops (l : List Op4) : alen (aops l) = some (.int .i64 l.length) := by
  have : Rd nof [] (dOps l) (aops l) := rd_av _ _ _
  simpa using this.len
def Op4.few (o : Op4) : Prop := o.data.length ≤ 1024 ∧ o.list.length ≤ 1024
def Op4.R (o : Op4) : Prop := -9223372036854775808 ≤ o.i ∧ o.i ≤ 9223372036854775807

def Dk.op (d : Dk) (o : Op4) : Dk × Int := if o.kind = 0 then d.write o.i o.data else if o.kind = 1 then d.flush else if o.kind = 2 then (d.arm o.i, 0) else if o.kind = 3 then (d.crash o.list, 0) else (d, 0)
theorem rev_peq (g : Opd → AV) (h : AHeap) (neg : Bool) (x : Opd) : rev g h (.x (.peq neg x)) = (pnil (g x)).map fun b => .bool (b != neg) := Eq.trans rfl rfl
theorem pnil_ptr (n sz i o : Nat) : pnil (.ptr n sz i o) = some false := Eq.trans rfl rfl
theorem pnil_nil : pnil (.raw (.pointer none)) = some true := Eq.trans rfl rfl

def Long4Ok (P : Program) (f : FuncId) : Prop := isFn P f = true ∧ ∀ (h : AHeap) (l : List Op4),
  ACalls P f [aops l] h fun r h' => (∃ b, r = .bool b ∧ (b = false → l.length ≤ 200 ∧ ∀ o ∈ l, o.few)) ∧ h' = h
def Run4Ok (P : Program) (f : FuncId) : Prop := isFn P f = true ∧ ∀ (F : Nat → Prop) (h : AHeap) (p : Nat) (d : Dk) (o : Op4), DiskAt F h p d → o.few → o.R → (∀ m, F m → m < h.length) →
  ACalls P f [.ptr p 6 0 0, .agg o.v] h fun r h' => r = .int .i64 (d.op o).2 ∧ DiskAt F h' p (d.op o).1 ∧ Ext F h h'

theorem long4_ok {P : Program} {f : FuncId} (hf : Is P f c_glebelaw04_long) : Long4Ok P f := by
  refine ⟨hf.2, fun h l => ACalls.freeze (K := fun r h' => (∃ b, r = .bool b ∧ (b = false → l.length ≤ 200 ∧ ∀ o ∈ l, o.few)) ∧ Ext nof h h') (fun_sound hf.1 (Nat.le_of_ble_eq_true rfl) ?_) (fun r _ ⟨⟨b, e, hb⟩, hx⟩ => ⟨hx, r, by rw [e]; exact Frz.bool _, b, e, hb⟩)⟩
  show vc P c_glebelaw04_long.code ⟨[(0, aops l)], [], h⟩ (atEnd c_glebelaw04_long.res _)
  by_cases c0 : 200 < (l.length : Int)
  · simp only [c_glebelaw04_long, go_sem, reduceIte, Nat.reduceEqDiff, Nat.reduceAdd, Nat.reduceLeDiff, Nat.reducePow, Nat.reduceDiv, Nat.reduceMod, decide_true, len_aops, decide_eq_true c0]
    exact ⟨⟨true, rfl, fun x => by cases x⟩, Ext.refl _ _⟩
  · simp only [c_glebelaw04_long, go_sem, reduceIte, Nat.reduceEqDiff, Nat.reduceAdd, Nat.reduceLeDiff, Nat.reducePow, Nat.reduceDiv, Nat.reduceMod, decide_true, len_aops, decide_eq_false c0]
    obtain ⟨I, hI⟩ : ∃ I : Nat → Env → AHeap → Prop, ∀ m E h', I m E h' ↔ ∃ (i : Nat), lk 0 E = aops l ∧ lk 3 E = .int .i64 i ∧ h' = h ∧ (∀ j (hj : j < l.length), j < i → l[j].few) ∧ i ≤ l.length ∧ m = l.length - i := ⟨_, fun _ _ _ => Iff.rfl⟩
    refine vc_loop I l.length ((hI _ _ _).2 ⟨0, by simp [lk_ins, lk_cons], by simp [lk_ins], rfl, fun j _ hj => by omega, by omega, by omega⟩) ?_
    intro m E h2 hh
    obtain ⟨i, k0, k3, rfl, hn, hi, rfl⟩ := (hI _ _ _).1 hh
    simp only [c_glebelaw04_long_l0, go_sem, reduceIte, Nat.reduceEqDiff, Nat.reduceAdd, Nat.reduceLeDiff, Nat.reducePow, Nat.reduceDiv, Nat.reduceMod, decide_true, k0, k3, len_aops]
    refine wCond_split (fun ci => ?_) (fun ci => ?_)
    · simp at ci
      obtain ⟨p, hp1, hp2⟩ := index_av 5 Op4.c l .i64 ci
      change aindex 5 (aops l) _ = some p at hp1
      change ∀ h, pcells h p = some l[i].v at hp2
      have l3 : aload h2 false 1 (poff 3 p) = some (abytes l[i].data) := by rw [aload_off (hp2 h2), Op4.v_eq]; rfl
      have l4 : aload h2 false 1 (poff 4 p) = some (aints l[i].list) := by rw [aload_off (hp2 h2), Op4.v_eq]; rfl
      have ew : IntKind.i64.wrap (↑i + 1) = (i : Int) + 1 := wrap_i64 (by omega)
      by_cases c1 : 1024 < (l[i].data.length : Int)
      · simp only [go_sem, reduceIte, Nat.reduceEqDiff, Nat.reduceAdd, Nat.reduceLeDiff, Nat.reducePow, Nat.reduceDiv, Nat.reduceMod, decide_true, k0, k3, hp1, afield_p (hp2 h2), l3, decide_eq_true c1]
        exact ⟨⟨true, rfl, fun x => by cases x⟩, Ext.refl _ _⟩
      · by_cases c2 : 1024 < (l[i].list.length : Int)
        · simp only [go_sem, reduceIte, Nat.reduceEqDiff, Nat.reduceAdd, Nat.reduceLeDiff, Nat.reducePow, Nat.reduceDiv, Nat.reduceMod, decide_true, k0, k3, hp1, afield_p (hp2 h2), l3, l4, decide_eq_false c1, decide_eq_true c2]
          exact ⟨⟨true, rfl, fun x => by cases x⟩, Ext.refl _ _⟩
        · simp only [go_sem, reduceIte, Nat.reduceEqDiff, Nat.reduceAdd, Nat.reduceLeDiff, Nat.reducePow, Nat.reduceDiv, Nat.reduceMod, decide_true, k0, k3, hp1, afield_p (hp2 h2), l3, l4, decide_eq_false c1, decide_eq_false c2, ew]
          refine ⟨_, by omega, (hI _ _ _).2 ⟨i + 1, by simp [lk_ins, k0], by simp [lk_ins], rfl, fun j hj hji => ?_, ci, rfl⟩⟩
          by_cases e : j = i
          · subst e; exact ⟨by omega, by omega⟩
          · exact hn j hj (by omega)
    · simp at ci
      obtain rfl : i = l.length := by omega
      simp only [go_sem, reduceIte, Nat.reduceEqDiff, Nat.reduceAdd, Nat.reduceLeDiff, Nat.reducePow, Nat.reduceDiv, Nat.reduceMod, decide_true]
      refine ⟨⟨false, rfl, fun _ => ⟨by omega, fun o ho => ?_⟩⟩, Ext.refl _ _⟩
      obtain ⟨j, hj, rfl⟩ := List.getElem_of_mem ho
      exact hn j hj hj

theorem run4_ok {P : Program} {f g1 g2 g3 g4 : FuncId} (hf : Is P f (c_glebelaw04_run g1 g2 g3 g4)) (h1 : WriteOk P g1) (h2 : FlushDOk P g2) (h3 : ArmOk P g3) (h4 : CrashDOk P g4) : Run4Ok P f := by
  refine ⟨hf.2, fun F h p d o ha hfew hR hF => fun_sound hf.1 (Nat.le_of_ble_eq_true rfl) ?_⟩
  show vc P (c_glebelaw04_run g1 g2 g3 g4).code ⟨[(0, .ptr p 6 0 0), (1, .agg o.v)], [], h⟩ (atEnd (c_glebelaw04_run g1 g2 g3 g4).res _)
  rw [Op4.v_eq]
  obtain ⟨f1, f2⟩ := hfew
  have X := Ext.b1 (h := h) (some (.arr 5 [[.int .i64 o.kind, .int .i64 o.i, .int .i64 o.look, abytes o.data, aints o.list]] false))
  have ha1 := ha.up X
  have fin : ∀ {H : AHeap} {d' : Dk}, Ext F (h ++ [some (.arr 5 [[.int .i64 o.kind, .int .i64 o.i, .int .i64 o.look, abytes o.data, aints o.list]] false)]) H → Ext F h H := fun e => X.trans e (fun _ _ x => x.elim) (fun _ _ x => x)
  unfold Dk.op
  by_cases c0 : o.kind = 0
  · rw [if_pos c0]
    simp only [c_glebelaw04_run, go_sem, reduceIte, Nat.reduceEqDiff, Nat.reduceAdd, Nat.reduceLeDiff, Nat.reducePow, Nat.reduceDiv, Nat.reduceMod, decide_true, decide_eq_true c0]
    refine wCall_use ⟨h1.1, h1.2 F nof _ p d o.i o.data _ ha1 (rd_abytes _ _ _) (fun _ x => x.elim) (by omega)⟩ ?_
    rintro _ H ⟨rfl, a1, x1⟩
    simp only [go_sem, reduceIte, Nat.reduceEqDiff, Nat.reduceAdd, Nat.reduceLeDiff, Nat.reducePow, Nat.reduceDiv, Nat.reduceMod, decide_true]
    exact ⟨a1, fin (d' := d) x1⟩
  · rw [if_neg c0]
    by_cases c1 : o.kind = 1
    · rw [if_pos c1]
      simp only [c_glebelaw04_run, go_sem, reduceIte, Nat.reduceEqDiff, Nat.reduceAdd, Nat.reduceLeDiff, Nat.reducePow, Nat.reduceDiv, Nat.reduceMod, decide_true, decide_eq_false c0, decide_eq_true c1]
      refine wCall_use ⟨h2.1, h2.2 F _ p d ha1⟩ ?_
      rintro _ H ⟨rfl, a1, x1⟩
      simp only [go_sem, reduceIte, Nat.reduceEqDiff, Nat.reduceAdd, Nat.reduceLeDiff, Nat.reducePow, Nat.reduceDiv, Nat.reduceMod, decide_true]
      exact ⟨a1, fin (d' := d) x1⟩
    · rw [if_neg c1]
      by_cases c2 : o.kind = 2
      · rw [if_pos c2]
        simp only [c_glebelaw04_run, go_sem, reduceIte, Nat.reduceEqDiff, Nat.reduceAdd, Nat.reduceLeDiff, Nat.reducePow, Nat.reduceDiv, Nat.reduceMod, decide_true, decide_eq_false c0, decide_eq_false c1, decide_eq_true c2]
        refine wCall_use ⟨h3.1, h3.2 F _ p d o.i ha1 hR⟩ ?_
        rintro _ H ⟨a1, x1⟩
        simp only [go_sem, reduceIte, Nat.reduceEqDiff, Nat.reduceAdd, Nat.reduceLeDiff, Nat.reducePow, Nat.reduceDiv, Nat.reduceMod, decide_true]
        exact ⟨a1, fin (d' := d) x1⟩
      · rw [if_neg c2]
        by_cases c3 : o.kind = 3
        · rw [if_pos c3]
          simp only [c_glebelaw04_run, go_sem, reduceIte, Nat.reduceEqDiff, Nat.reduceAdd, Nat.reduceLeDiff, Nat.reducePow, Nat.reduceDiv, Nat.reduceMod, decide_true, decide_eq_false c0, decide_eq_false c1, decide_eq_false c2, decide_eq_true c3]
          refine wCall_use ⟨h4.1, h4.2 F nof _ p d o.list _ ha1 (rd_aints _ _ _) (fun _ x => x.elim)⟩ ?_
          rintro _ H ⟨a1, x1⟩
          simp only [go_sem, reduceIte, Nat.reduceEqDiff, Nat.reduceAdd, Nat.reduceLeDiff, Nat.reducePow, Nat.reduceDiv, Nat.reduceMod, decide_true]
          exact ⟨a1, fin (d' := d) x1⟩
        · rw [if_neg c3]
          simp only [c_glebelaw04_run, go_sem, reduceIte, Nat.reduceEqDiff, Nat.reduceAdd, Nat.reduceLeDiff, Nat.reducePow, Nat.reduceDiv, Nat.reduceMod, decide_true, decide_eq_false c0, decide_eq_false c1, decide_eq_false c2, decide_eq_false c3]
          exact ⟨ha1, fin (d' := d) (Ext.refl _ _)⟩

end Glb

/-
  Layer 4: works.
-/
namespace Glb
open Go
set_option maxRecDepth 10000
set_option maxHeartbeats 8000000

def ReadDP (P : Program) (f : FuncId) : Prop := isFn P f = true ∧ ∀ (F : Nat → Prop) (h : AHeap) (p : Nat) (d : Dk) (i : Int), DiskAt F h p d →
  ACalls P f [.ptr p 6 0 0, .int .i64 i] h fun r h' => r = .tup [abytes (d.read i).1, .int .i64 (d.read i).2] ∧ h' = h
theorem ReadDOk.p {P : Program} {f : FuncId} (hc : ReadDOk P f) : ReadDP P f :=
  ⟨hc.1, fun F h p d i ha => (hc.2 F h p d i ha).freeze fun _ _ ⟨a, e, ho, hx⟩ => ⟨hx, _, e ▸ Frz.tup2 (Frz.d (Own.fz (dBytes _) (fun _ x => x) _ ho)) (Frz.int _ _), rfl⟩⟩

theorem rd_litF {F : Nat → Prop} {H : AHeap} {n : Nat} {k : IntKind} {xs : List Int} {g : Bool} {len : Nat} (hb : H[n]? = some (some (.arr 1 (xs.map fun n => [AV.int k n]) g))) (hl : xs.length = len) (hF : F n) :
    Rd F H (.sl 1 (xs.map fun n => [.int k n])) (.ref n 1 0 len (some len)) := by
  simp only [Rd]
  refine ⟨xs.map fun n => [AV.int k n], .inr (.inr ⟨n, 0, len, some len, _, g, rfl, hF, hb, by simp; omega, fun c hc => by cases hc; omega, ?_⟩), ?_⟩
  · subst hl
    rw [List.drop_zero, List.take_of_length_le (by simp)]
  · exact OwnLL.rd (F := F) _ (fun _ x => x) _ (ownLL_ints k F H xs)

def wk1 : Dk := ((Dk.new 4).write 1 [7]).1
def wk2 : Dk := wk1.flush.1
def wk3 : Dk := (wk2.write 1 [8]).1
def wk4 : Dk := (wk3.write 2 [9]).1
def wk5 : Dk := wk4.crash [2, 1]

theorem works4_ok {P : Program} {f fn fw ff fc fr fs fd : FuncId} (hf : Is P f (c_glebelaw04_works fn fw ff fc fr fs fd)) (hn : NewDOk P fn) (hw : WriteOk P fw) (hff : FlushDOk P ff) (hc : CrashDOk P fc) (hr : ReadDP P fr) (hs : SameOk P fs .u8) (hd : DirtyP P fd) : YesOk P f := by
  refine ⟨hf.2, fun h => ACalls.freeze (K := fun r h' => r = .bool true ∧ Ext nof h h') (fun_sound hf.1 (Nat.le_of_ble_eq_true rfl) ?_) (fun r _ ⟨e, hx⟩ => ⟨hx, r, by rw [e]; exact Frz.bool _, e⟩)⟩
  show vc P (c_glebelaw04_works fn fw ff fc fr fs fd).code ⟨[], [], h⟩ (atEnd (c_glebelaw04_works fn fw ff fc fr fs fd).res _)
  simp only [c_glebelaw04_works, go_sem, reduceIte, Nat.reduceEqDiff, Nat.reduceAdd, Nat.reduceLeDiff, Nat.reducePow, Nat.reduceDiv, Nat.reduceMod, decide_true]
  refine wCall_use ⟨hn.1, hn.2 h 4⟩ ?_
  rintro r H ⟨e1, -, X⟩
  obtain ⟨p, rfl, a⟩ := e1 (by omega)
  obtain ⟨F, a, hF, hF2⟩ : ∃ F : Nat → Prop, DiskAt F H p (Dk.new 4) ∧ (∀ m, F m → m < H.length) ∧ (∀ m, m < h.length → ¬ F m) := ⟨_, a, fun m x => x.2, fun m x y => by have := y.1; omega⟩
  simp only [go_sem, reduceIte, Nat.reduceEqDiff, Nat.reduceAdd, Nat.reduceLeDiff, Nat.reducePow, Nat.reduceDiv, Nat.reduceMod, decide_true, rev_peq, pnil_ptr, show (false != false) = false from rfl]
  have step : ∀ {H1 H2 : AHeap}, H.length ≤ H1.length → Ext nof h H1 → Ext F H1 H2 → Ext nof h H2 ∧ H.length ≤ H2.length := fun l e x => ⟨e.then x hF2, Nat.le_trans l x.1⟩
  have lit : ∀ (H1 : AHeap) (z : Int), H.length ≤ H1.length → Rd (fun m => H1.length ≤ m) (H1 ++ [some (.arr 1 [[.int .u8 z]] false)]) (dBytes [z]) (.ref H1.length 1 0 1 (some 1)) := fun H1 z hl => rd_litF (k := .u8) (xs := [z]) (bx10 _ _) rfl (Nat.le_refl _)
  have dis : ∀ (H1 : AHeap), H.length ≤ H1.length → ∀ m, H1.length ≤ m → ¬ F m := fun H1 l m hm x => by have := hF m x; omega
  have l0 : H.length ≤ H.length := Nat.le_refl _
  refine wCall_use ⟨hw.1, hw.2 F _ _ p _ 1 [7] _ (a.up (Ext.b1 _)) (lit H 7 l0) (dis H l0) (by simp)⟩ ?_
  rintro _ H1 ⟨rfl, a1, x1⟩
  obtain ⟨X1, l1⟩ := step (by simp) (X.tr (Ext.b1 _)) x1
  rw [show ((Dk.new 4).write 1 [7]).2 = 0 from rfl, show ((Dk.new 4).write 1 [7]).1 = wk1 from rfl] at *
  simp only [go_sem, reduceIte, Nat.reduceEqDiff, Nat.reduceAdd, Nat.reduceLeDiff, Nat.reducePow, Nat.reduceDiv, Nat.reduceMod, decide_true]
  refine wCall_use ⟨hff.1, hff.2 F H1 p wk1 a1⟩ ?_
  rintro _ H2 ⟨rfl, a2, x2⟩
  obtain ⟨X2, l2⟩ := step l1 X1 x2
  rw [show wk1.flush.2 = 0 from rfl, show wk1.flush.1 = wk2 from rfl] at *
  simp only [go_sem, reduceIte, Nat.reduceEqDiff, Nat.reduceAdd, Nat.reduceLeDiff, Nat.reducePow, Nat.reduceDiv, Nat.reduceMod, decide_true]
  refine wCall_use ⟨hw.1, hw.2 F _ _ p wk2 1 [8] _ (a2.up (Ext.b1 _)) (lit H2 8 l2) (dis H2 l2) (by simp)⟩ ?_
  rintro _ H3 ⟨rfl, a3, x3⟩
  obtain ⟨X3, l3⟩ := step (by simp; omega) (X2.tr (Ext.b1 _)) x3
  rw [show (wk2.write 1 [8]).2 = 0 from rfl, show (wk2.write 1 [8]).1 = wk3 from rfl] at *
  simp only [go_sem, reduceIte, Nat.reduceEqDiff, Nat.reduceAdd, Nat.reduceLeDiff, Nat.reducePow, Nat.reduceDiv, Nat.reduceMod, decide_true]
  refine wCall_use ⟨hw.1, hw.2 F _ _ p wk3 2 [9] _ (a3.up (Ext.b1 _)) (lit H3 9 l3) (dis H3 l3) (by simp)⟩ ?_
  rintro _ H4 ⟨rfl, a4, x4⟩
  obtain ⟨X4, l4⟩ := step (by simp; omega) (X3.tr (Ext.b1 _)) x4
  rw [show (wk3.write 2 [9]).2 = 0 from rfl, show (wk3.write 2 [9]).1 = wk4 from rfl] at *
  simp only [go_sem, reduceIte, Nat.reduceEqDiff, Nat.reduceAdd, Nat.reduceLeDiff, Nat.reducePow, Nat.reduceDiv, Nat.reduceMod, decide_true]
  refine wCall_use ⟨hc.1, hc.2 F (fun m => H4.length ≤ m) _ p wk4 [2, 1] _ (a4.up (Ext.b1 _)) (rd_litF (k := .i64) (xs := [2, 1]) (bx10 _ _) rfl (Nat.le_refl _)) (dis H4 l4)⟩ ?_
  rintro _ H5 ⟨a5, x5⟩
  obtain ⟨X5, l5⟩ := step (by simp; omega) (X4.tr (Ext.b1 _)) x5
  rw [show wk4.crash [2, 1] = wk5 from rfl] at *
  simp only [go_sem, reduceIte, Nat.reduceEqDiff, Nat.reduceAdd, Nat.reduceLeDiff, Nat.reducePow, Nat.reduceDiv, Nat.reduceMod, decide_true]
  refine use1 hr.1 (hr.2 F H5 p wk5 1 a5) ?_
  rw [show wk5.read 1 = ([], 9) from rfl]
  simp only [go_sem, reduceIte, Nat.reduceEqDiff, Nat.reduceAdd, Nat.reduceLeDiff, Nat.reducePow, Nat.reduceDiv, Nat.reduceMod, decide_true]
  refine use1 hr.1 (hr.2 F H5 p wk5 2 a5) ?_
  rw [show wk5.read 2 = ([9], 0) from rfl]
  simp only [go_sem, reduceIte, Nat.reduceEqDiff, Nat.reduceAdd, Nat.reduceLeDiff, Nat.reducePow, Nat.reduceDiv, Nat.reduceMod, decide_true]
  refine use1 hs.1 (hs.2 (fun _ => True) _ [9] [9] _ _ (rd_abytes _ _ _) (rd_litF (k := .u8) (xs := [9]) (bx10 _ _) rfl trivial) (by simp)) ?_
  simp only [go_sem, reduceIte, Nat.reduceEqDiff, Nat.reduceAdd, Nat.reduceLeDiff, Nat.reducePow, Nat.reduceDiv, Nat.reduceMod, decide_true]
  refine use1 hd.1 (hd.2 F _ p wk5 (a5.up (Ext.b1 _))) ?_
  rw [show wk5.dirty = [] from rfl]
  simp only [go_sem, reduceIte, Nat.reduceEqDiff, Nat.reduceAdd, Nat.reduceLeDiff, Nat.reducePow, Nat.reduceDiv, Nat.reduceMod, decide_true]
  exact ⟨rfl, X5.tr (Ext.b1 _)⟩

end Glb

/-
  Layer 4: both and Looks.
-/
namespace Glb
open Go
set_option maxRecDepth 10000
set_option maxHeartbeats 8000000

def LooksOk (P : Program) (f : FuncId) : Prop := isFn P f = true ∧ ∀ (F : Nat → Prop) (h : AHeap) (p q : Nat) (d : Dk) (i : Int), DiskAt F h p d → RefAt h q d → (∀ m, F m → m < h.length) →
  ACalls P f [.ptr p 6 0 0, .ptr q 5 0 0, .int .i64 i] h fun r h' => r = .bool true ∧ h' = h

theorem ownK_ty {k : IntKind} {F : Nat → Prop} {h : AHeap} {l : List Int} {a : AV} (hl : l.length ≤ 2^40) (ho : Own (.sl 1 (l.map fun n => [.int k n])) F h a) : OwnT (.sl 1 [.int k]) F h a := by
  refine Own.ty _ _ _ ?_ ho
  simp only [HasTy]
  refine ⟨_, rfl, by simpa using hl, HasTyLL_mk fun d hd => ?_⟩
  obtain ⟨n, _, rfl⟩ := List.mem_map.1 hd
  exact ⟨_, _, rfl, rfl, rfl⟩

theorem Dk.read_len {d : Dk} (h : d.ok) (i : Int) : (d.read i).1.length ≤ 64 := by
  unfold Dk.read
  split
  · simp
  · split
    · rename_i s e; exact (h.cache.2 s (sfind_some e).1).2.2.1
    · cases e : sfind d.lasts i with
      | none => simp [readL]
      | some s => simp only [readL]; split; · simp
                  exact (h.lasts.2 s (sfind_some e).1).2.2

theorem looks_ok {P : Program} {f fr xr fs sb fd xd fi si fl fo : FuncId} (hf : Is P f (c_glebelaw04_Looks fr xr fs sb fd xd fi si fl fo)) (hr : ReadDOk P fr) (hx : XReadOk P xr) (hs : SameOk P fs .u8) (hsb : SpoilOk P sb (.sl 1 [.int .u8])) (hd : DirtyOk P fd) (hxd : XDirtyOk P xd)
    (hi : SameOk P fi .i64) (hsi : SpoilOk P si (.sl 1 [.int .i64])) (hl : DLenOk P fl) (ho : DownOk P fo) : LooksOk P f := by
  refine ⟨hf.2, fun F h p q d i ha hq hF => ACalls.freeze (K := fun r h' => r = .bool true ∧ Ext nof h h') (fun_sound hf.1 (Nat.le_of_ble_eq_true rfl) ?_) (fun r _ ⟨e, hx⟩ => ⟨hx, r, by rw [e]; exact Frz.bool _, e⟩)⟩
  show vc P (c_glebelaw04_Looks fr xr fs sb fd xd fi si fl fo).code ⟨[(0, .ptr p 6 0 0), (1, .ptr q 5 0 0), (2, .int .i64 i)], [], h⟩ (atEnd (c_glebelaw04_Looks fr xr fs sb fd xd fi si fl fo).res _)
  have hq0 := hq.lt
  simp only [c_glebelaw04_Looks, go_sem, reduceIte, Nat.reduceEqDiff, Nat.reduceAdd, Nat.reduceLeDiff, Nat.reducePow, Nat.reduceDiv, Nat.reduceMod, decide_true]
  refine wCall_use ⟨hr.1, hr.2 F h p d i ha⟩ ?_
  rintro _ h1 ⟨a, rfl, oa, x1⟩
  simp only [go_sem, reduceIte, Nat.reduceEqDiff, Nat.reduceAdd, Nat.reduceLeDiff, Nat.reducePow, Nat.reduceDiv, Nat.reduceMod, decide_true]
  refine wCall_use ⟨hr.1, hr.2 F h1 p d i (ha.up x1)⟩ ?_
  rintro _ h2 ⟨b, rfl, ob, x2⟩
  simp only [go_sem, reduceIte, Nat.reduceEqDiff, Nat.reduceAdd, Nat.reduceLeDiff, Nat.reducePow, Nat.reduceDiv, Nat.reduceMod, decide_true]
  have x02 := x1.tr x2
  refine wCall_use ⟨hx.1, hx.2 h2 q d i (hq.up (x02.2 q hq0 (fun x => x)))⟩ ?_
  rintro _ h2 ⟨⟨w, rfl, rw⟩, rfl⟩
  have len := Dk.read_len ha.ok i
  have oa2 : Own (dBytes (d.read i).1) (fun m => h.length ≤ m ∧ m < h1.length) h2 a := Own.mono _ (fun _ x => x) (x2.keep _) _ (Own.lt _ _ oa)
  have ra : Rd (fun _ => True) h2 (dBytes (d.read i).1) a := Own.rd _ (fun _ _ => trivial) _ oa2
  have rb : Rd (fun _ => True) h2 (dBytes (d.read i).1) b := Own.rd _ (fun _ _ => trivial) _ ob
  have rw2 : ∀ h, Rd (fun _ => True) h (dBytes (d.read i).1) w := fun h => Rd.mono (fun _ x => x.elim) (Keep.lt _ _) _ _ (rw h)
  have ne : ∀ z : Int, (!decide (z = z)) = false := fun z => by simp
  simp only [go_sem, reduceIte, Nat.reduceEqDiff, Nat.reduceAdd, Nat.reduceLeDiff, Nat.reducePow, Nat.reduceDiv, Nat.reduceMod, decide_true, ne]
  refine use1 hs.1 (hs.2 _ h2 _ _ _ _ ra (rw2 h2) (by omega)) ?_
  simp only [go_sem, reduceIte, Nat.reduceEqDiff, Nat.reduceAdd, Nat.reduceLeDiff, Nat.reducePow, Nat.reduceDiv, Nat.reduceMod, decide_true]
  refine use1 hs.1 (hs.2 _ h2 _ _ _ _ rb (rw2 h2) (by omega)) ?_
  simp only [go_sem, reduceIte, Nat.reduceEqDiff, Nat.reduceAdd, Nat.reduceLeDiff, Nat.reducePow, Nat.reduceDiv, Nat.reduceMod, decide_true]
  refine wCall_use ⟨hsb.1, hsb.2 _ h2 a (ownK_ty (by omega) oa2)⟩ ?_
  rintro _ h3 ⟨x3, -⟩
  simp only [go_sem, reduceIte, Nat.reduceEqDiff, Nat.reduceAdd, Nat.reduceLeDiff, Nat.reducePow, Nat.reduceDiv, Nat.reduceMod, decide_true]
  have l12 := x2.1
  have l01 := x1.1
  have l23 := x3.1
  have ha3 : DiskAt F h3 p d := (ha.up x02).mono (fun _ x => x) (x3.keepOff fun m _ hm hm' => by have := hF m hm; omega)
  have x03 : Ext nof h h3 := x02.then x3 fun m hm hm' => by omega
  have rb3 : Rd (fun m => h1.length ≤ m) h3 (dBytes (d.read i).1) b := Own.rd _ (fun _ x => x) _ (Own.mono _ (fun _ x => x) (x3.keepOff fun m _ hm hm' => by omega) _ ob)
  refine wCall_use ⟨hd.1, hd.2 F h3 p d ha3⟩ ?_
  rintro l h4 ⟨ol, x4⟩
  simp only [go_sem, reduceIte, Nat.reduceEqDiff, Nat.reduceAdd, Nat.reduceLeDiff, Nat.reducePow, Nat.reduceDiv, Nat.reduceMod, decide_true]
  have x04 := x03.tr x4
  refine use1 hxd.1 (hxd.2 h4 q d (hq.up (x04.2 q hq0 (fun x => x)))) ?_
  have ldl : d.dirty.length ≤ 2^40 := by have := ha.ok.clen; simp [Dk.dirty]; omega
  simp only [go_sem, reduceIte, Nat.reduceEqDiff, Nat.reduceAdd, Nat.reduceLeDiff, Nat.reducePow, Nat.reduceDiv, Nat.reduceMod, decide_true]
  refine use1 hs.1 (hs.2 _ h4 _ _ _ _ (Rd.mono (fun _ _ => trivial) (x4.keep _) _ _ rb3) (rw2 h4) (by omega)) ?_
  simp only [go_sem, reduceIte, Nat.reduceEqDiff, Nat.reduceAdd, Nat.reduceLeDiff, Nat.reducePow, Nat.reduceDiv, Nat.reduceMod, decide_true]
  refine use1 hi.1 (hi.2 _ h4 _ _ _ _ (Own.rd (F' := fun _ => True) _ (fun _ _ => trivial) _ ol) (rd_aints _ _ _) ldl) ?_
  simp only [go_sem, reduceIte, Nat.reduceEqDiff, Nat.reduceAdd, Nat.reduceLeDiff, Nat.reducePow, Nat.reduceDiv, Nat.reduceMod, decide_true]
  have ol2 : Own (dInts d.dirty) (fun m => h3.length ≤ m ∧ m < h4.length) h4 l := Own.lt _ _ ol
  refine wCall_use ⟨hsi.1, hsi.2 _ h4 l (ownK_ty ldl ol2)⟩ ?_
  rintro _ h5 ⟨x5, -⟩
  simp only [go_sem, reduceIte, Nat.reduceEqDiff, Nat.reduceAdd, Nat.reduceLeDiff, Nat.reducePow, Nat.reduceDiv, Nat.reduceMod, decide_true]
  have ha5 : DiskAt F h5 p d := (ha3.up x4).mono (fun _ x => x) (x5.keepOff fun m _ hm hm' => by have := hF m hm; omega)
  have x05 : Ext nof h h5 := x04.then x5 fun m hm hm' => by omega
  have hq5 := hq.up (x05.2 q hq0 (fun x => x))
  obtain ⟨⟨L, C, B, -, -⟩, -⟩ := hq5
  have hdp := hd.p
  refine use1 hdp.1 (hdp.2 F h5 p d ha5) ?_
  simp only [go_sem, reduceIte, Nat.reduceEqDiff, Nat.reduceAdd, Nat.reduceLeDiff, Nat.reducePow, Nat.reduceDiv, Nat.reduceMod, decide_true]
  refine use1 hi.1 (hi.2 _ h5 _ _ _ _ (rd_aints (fun _ => True) _ _) (rd_aints _ _ _) ldl) ?_
  simp only [go_sem, reduceIte, Nat.reduceEqDiff, Nat.reduceAdd, Nat.reduceLeDiff, Nat.reducePow, Nat.reduceDiv, Nat.reduceMod, decide_true, B]
  refine use1 hl.1 (hl.2 F h5 p d ha5) ?_
  simp only [go_sem, reduceIte, Nat.reduceEqDiff, Nat.reduceAdd, Nat.reduceLeDiff, Nat.reducePow, Nat.reduceDiv, Nat.reduceMod, decide_true, B]
  refine use1 ho.1 (ho.2 F h5 p d ha5) ?_
  have bb : (d.off == d.off) = true := by cases d.off <;> rfl
  simp only [go_sem, reduceIte, Nat.reduceEqDiff, Nat.reduceAdd, Nat.reduceLeDiff, Nat.reducePow, Nat.reduceDiv, Nat.reduceMod, decide_true, B, bb]
  exact x05

def BothOk (P : Program) (f : FuncId) : Prop := isFn P f = true ∧ ∀ (F : Nat → Prop) (h : AHeap) (p q : Nat) (d : Dk) (o : Op4), DiskAt F h p d → RefAt h q d → (∀ m, F m → m < h.length) → ¬ F q → o.few → o.R →
  ACalls P f [.ptr p 6 0 0, .ptr q 5 0 0, .agg o.v] h fun r h' => r = .bool true ∧ DiskAt F h' p (d.op o).1 ∧ RefAt h' q (d.op o).1 ∧ Ext (fun m => F m ∨ m = q) h h'

theorem DiskAt.off {F F' : Nat → Prop} {h h' : AHeap} {p d} (a : DiskAt F h p d) (x : Ext F' h h') (hd : ∀ m, m < h.length → F m → ¬ F' m) : DiskAt F h' p d := a.mono (fun _ x => x) (x.keepOff hd)
theorem RefAt.off {F' : Nat → Prop} {h h' : AHeap} {q d} (a : RefAt h q d) (x : Ext F' h h') (hd : ¬ F' q) : RefAt h' q d := a.up (x.2 q a.lt hd)

theorem both_ok {P : Program} {f lb fw xw kb sb ff xf fa xa li fc xc ki : FuncId} (hf : Is P f (c_glebelaw04_both lb fw xw kb sb ff xf fa xa li fc xc ki)) (hlb : LentBytesO P lb) (hw : WriteOk P fw) (hxw : XWriteOk P xw) (hkb : KeptBOk P kb) (hsb : SpoilOk P sb (.sl 1 [.int .u8]))
    (hff : FlushDOk P ff) (hxf : XFlushOk P xf) (ha : ArmOk P fa) (hxa : XArmOk P xa) (hli : LentIntsP P li) (hc : CrashDOk P fc) (hxc : XCrashOk P xc) (hki : KeptOk P ki) : BothOk P f := by
  refine ⟨hf.2, fun F h p q d o da qa hF hq hfew hR => fun_sound hf.1 (Nat.le_of_ble_eq_true rfl) ?_⟩
  show vc P (c_glebelaw04_both lb fw xw kb sb ff xf fa xa li fc xc ki).code ⟨[(0, .ptr p 6 0 0), (1, .ptr q 5 0 0), (2, .agg o.v)], [], h⟩ (atEnd (c_glebelaw04_both lb fw xw kb sb ff xf fa xa li fc xc ki).res _)
  obtain ⟨f1, f2⟩ := hfew
  have q0 := qa.lt
  rw [Op4.v_eq]
  simp only [c_glebelaw04_both, go_sem, reduceIte, Nat.reduceEqDiff, Nat.reduceAdd, Nat.reduceLeDiff, Nat.reducePow, Nat.reduceDiv, Nat.reduceMod, decide_true]
  have B := bx10 h (some (.arr 5 [[.int .i64 o.kind, .int .i64 o.i, .int .i64 o.look, abytes o.data, aints o.list]] false))
  have X := Ext.b1 (h := h) (some (.arr 5 [[.int .i64 o.kind, .int .i64 o.i, .int .i64 o.look, abytes o.data, aints o.list]] false))
  have hL : (h ++ [some (ABlk.arr 5 [[.int .i64 o.kind, .int .i64 o.i, .int .i64 o.look, abytes o.data, aints o.list]] false)]).length = h.length + 1 := by simp
  generalize h ++ [some (.arr 5 [[.int .i64 o.kind, .int .i64 o.i, .int .i64 o.look, abytes o.data, aints o.list]] false)] = H at *
  obtain ⟨n0, hn0⟩ : ∃ n, h.length = n := ⟨_, rfl⟩
  rw [hn0] at B hL ⊢
  have da1 := da.up X
  have qa1 := qa.off X (fun x => x)
  have hFH : ∀ m, F m → m < n0 := fun m hm => by have := hF m hm; omega
  unfold Dk.op
  by_cases c0 : o.kind = 0
  · rw [if_pos c0]
    simp only [go_sem, reduceIte, Nat.reduceEqDiff, Nat.reduceAdd, Nat.reduceLeDiff, Nat.reducePow, Nat.reduceDiv, Nat.reduceMod, decide_true, decide_eq_true c0, B]
    refine wCall_use ⟨hlb.1, hlb.2 o.data H (by omega)⟩ ?_
    rintro b h1 ⟨ob, x1⟩
    have B1 := x1.get B
    have rb : Rd (fun m => H.length ≤ m) h1 (dBytes (lentB o.data)) b := Own.rd _ (fun _ x => x) _ ob
    have ob' := Own.lt _ _ ob
    obtain ⟨c, hs, hcr⟩ := Rd.slice rb (lo := none) (hi := some (o.data.length : Int)) (mx := none) (by simp) (by simp) (by simp [lentB]; omega) (by simp) (by simp [lentB]; omega) (by simp)
    have hc2 : Rd (fun m => H.length ≤ m) h1 (dBytes o.data) c := by
      have : (lentB o.data).take o.data.length = o.data := by simp [lentB]
      simpa [dBytes, ← List.map_take, this] using hcr
    simp only [go_sem, reduceIte, Nat.reduceEqDiff, Nat.reduceAdd, Nat.reduceLeDiff, Nat.reducePow, Nat.reduceDiv, Nat.reduceMod, decide_true, B1, aslc, hs]
    refine wCall_use ⟨hw.1, hw.2 F (fun m => H.length ≤ m) h1 p d o.i o.data c (da1.up x1) hc2 (fun m hm hm' => by have := hFH m hm'; omega) (by omega)⟩ ?_
    rintro _ h2 ⟨rfl, d2, x2⟩
    have nF0 : ¬ F n0 := fun x => by have := hFH _ x; omega
    have B2 : h2[n0]? = some (some (.arr 5 [[.int .i64 o.kind, .int .i64 o.i, .int .i64 o.look, abytes o.data, aints o.list]] false)) := by
      rw [x2.2 n0 (List.getElem?_eq_some_iff.1 B1).1 nF0]; exact B1
    have qa2 : RefAt h2 q d := (qa1.off x1 (fun x => x)).off x2 hq
    simp only [go_sem, reduceIte, Nat.reduceEqDiff, Nat.reduceAdd, Nat.reduceLeDiff, Nat.reducePow, Nat.reduceDiv, Nat.reduceMod, decide_true, B1, B2, aslc, hs]
    refine wCall_use ⟨hxw.1, hxw.2 nof h2 q d o.i o.data (abytes o.data) qa2 (rd_abytes _ _ _) (fun x => x) (by omega)⟩ ?_
    rintro _ h3 ⟨rfl, q3, x3, l3⟩
    have nq : n0 ≠ q := by omega
    have B3 : h3[n0]? = some (some (.arr 5 [[.int .i64 o.kind, .int .i64 o.i, .int .i64 o.look, abytes o.data, aints o.list]] false)) := by
      rw [x3.2 n0 (List.getElem?_eq_some_iff.1 B2).1 nq]; exact B2
    have ob3 : Own (dBytes (lentB o.data)) (fun m => H.length ≤ m ∧ m < h1.length) h3 b := by
      refine Own.mono _ (fun _ x => x) (fun m hm y hy => ?_) _ ob'
      have lm : m < h2.length := by have := x2.1; omega
      rw [x3.2 m lm (fun e => by subst e; omega), x2.2 m hm.2 (fun x => by have := hFH m x; omega)]; exact hy
    have ne : ∀ z : Int, (!decide (z = z)) = false := fun z => by simp
    simp only [go_sem, reduceIte, Nat.reduceEqDiff, Nat.reduceAdd, Nat.reduceLeDiff, Nat.reducePow, Nat.reduceDiv, Nat.reduceMod, decide_true, B3, ne]
    refine use1 hkb.1 (hkb.2 (fun _ => True) h3 o.data b _ (Own.rd _ (fun _ _ => trivial) _ ob3) (rd_abytes _ _ _) (by omega)) ?_
    simp only [go_sem, reduceIte, Nat.reduceEqDiff, Nat.reduceAdd, Nat.reduceLeDiff, Nat.reducePow, Nat.reduceDiv, Nat.reduceMod, decide_true]
    refine wCall_use ⟨hsb.1, hsb.2 _ h3 b (ownK_ty (by simp [lentB]; omega) ob3)⟩ ?_
    rintro _ h4 ⟨x4, -⟩
    simp only [go_sem, reduceIte, Nat.reduceEqDiff, Nat.reduceAdd, Nat.reduceLeDiff, Nat.reducePow, Nat.reduceDiv, Nat.reduceMod, decide_true]
    refine ⟨(d2.off x3 fun m _ hm e => hq (e ▸ hm)).off x4 fun m _ hm hm' => ?_, q3.off x4 fun hm' => ?_, ?_⟩
    · have := hFH m hm; omega
    · omega
    · refine ⟨by have := X.1; have := x1.1; have := x2.1; have := x3.1; have := x4.1; omega, fun m hm hn => ?_⟩
      have n1 : ¬ F m := fun x => hn (.inl x)
      have n2 : m ≠ q := fun x => hn (.inr x)
      have := X.1; have := x1.1; have := x2.1; have := x3.1
      rw [x4.2 m (by omega) (fun x => by omega), x3.2 m (by omega) n2, x2.2 m (by omega) n1, x1.2 m (by omega) (fun x => x), X.2 m hm (fun x => x)]
  · rw [if_neg c0]
    have two : ∀ {h1 h2 h3 : AHeap}, Ext nof h h1 → Ext F h1 h2 → Ext (only q) h2 h3 → Ext (fun m => F m ∨ m = q) h h3 := fun {h1 h2 h3} e1 e2 e3 => by
      refine ⟨by have := e1.1; have := e2.1; have := e3.1; omega, fun m hm hn => ?_⟩
      have := e1.1; have := e2.1
      rw [e3.2 m (by omega) (fun x => hn (.inr x)), e2.2 m (by omega) (fun x => hn (.inl x)), e1.2 m hm (fun x => x)]
    have nF0 : ¬ F n0 := fun x => by have := hFH _ x; omega
    have lB := (List.getElem?_eq_some_iff.1 B).1
    by_cases c1 : o.kind = 1
    · rw [if_pos c1]
      simp only [go_sem, reduceIte, Nat.reduceEqDiff, Nat.reduceAdd, Nat.reduceLeDiff, Nat.reducePow, Nat.reduceDiv, Nat.reduceMod, decide_true, decide_eq_false c0, decide_eq_true c1, B]
      refine wCall_use ⟨hff.1, hff.2 F H p d da1⟩ ?_
      rintro _ h2 ⟨rfl, d2, x2⟩
      simp only [go_sem, reduceIte, Nat.reduceEqDiff, Nat.reduceAdd, Nat.reduceLeDiff, Nat.reducePow, Nat.reduceDiv, Nat.reduceMod, decide_true]
      refine wCall_use ⟨hxf.1, hxf.2 h2 q d (qa1.off x2 hq)⟩ ?_
      rintro _ h3 ⟨rfl, q3, x3, l3⟩
      simp only [go_sem, reduceIte, Nat.reduceEqDiff, Nat.reduceAdd, Nat.reduceLeDiff, Nat.reducePow, Nat.reduceDiv, Nat.reduceMod, decide_true]
      exact ⟨d2.off x3 fun m _ hm e => hq (e ▸ hm), q3, two X x2 x3⟩
    · rw [if_neg c1]
      by_cases c2 : o.kind = 2
      · rw [if_pos c2]
        simp only [go_sem, reduceIte, Nat.reduceEqDiff, Nat.reduceAdd, Nat.reduceLeDiff, Nat.reducePow, Nat.reduceDiv, Nat.reduceMod, decide_true, decide_eq_false c0, decide_eq_false c1, decide_eq_true c2, B]
        refine wCall_use ⟨ha.1, ha.2 F H p d o.i da1 hR⟩ ?_
        rintro _ h2 ⟨d2, x2⟩
        have B2 : h2[n0]? = some (some (.arr 5 [[.int .i64 o.kind, .int .i64 o.i, .int .i64 o.look, abytes o.data, aints o.list]] false)) := by rw [x2.2 n0 lB nF0]; exact B
        simp only [go_sem, reduceIte, Nat.reduceEqDiff, Nat.reduceAdd, Nat.reduceLeDiff, Nat.reducePow, Nat.reduceDiv, Nat.reduceMod, decide_true, B2]
        refine wCall_use ⟨hxa.1, hxa.2 h2 q d o.i (qa1.off x2 hq) hR.2⟩ ?_
        rintro _ h3 ⟨q3, x3, l3⟩
        simp only [go_sem, reduceIte, Nat.reduceEqDiff, Nat.reduceAdd, Nat.reduceLeDiff, Nat.reducePow, Nat.reduceDiv, Nat.reduceMod, decide_true]
        exact ⟨d2.off x3 fun m _ hm e => hq (e ▸ hm), q3, two X x2 x3⟩
      · rw [if_neg c2]
        by_cases c3 : o.kind = 3
        · rw [if_pos c3]
          simp only [go_sem, reduceIte, Nat.reduceEqDiff, Nat.reduceAdd, Nat.reduceLeDiff, Nat.reducePow, Nat.reduceDiv, Nat.reduceMod, decide_true, decide_eq_false c0, decide_eq_false c1, decide_eq_false c2, decide_eq_true c3, B]
          refine use1 hli.1 (hli.2 o.list (by omega) H) ?_
          obtain ⟨c, hs, hcr⟩ := aints_slice (lent o.list) o.list.length (by simp [lent])
          have hc2 : ∀ F h, Rd F h (dInts o.list) c := by
            have : (lent o.list).take o.list.length = o.list := by simp [lent]
            rw [this] at hcr; exact hcr
          simp only [go_sem, reduceIte, Nat.reduceEqDiff, Nat.reduceAdd, Nat.reduceLeDiff, Nat.reducePow, Nat.reduceDiv, Nat.reduceMod, decide_true, B, aslc, hs]
          refine wCall_use ⟨hc.1, hc.2 F nof H p d o.list c da1 (hc2 _ _) (fun _ x => x.elim)⟩ ?_
          rintro _ h2 ⟨d2, x2⟩
          have B2 : h2[n0]? = some (some (.arr 5 [[.int .i64 o.kind, .int .i64 o.i, .int .i64 o.look, abytes o.data, aints o.list]] false)) := by rw [x2.2 n0 lB nF0]; exact B
          simp only [go_sem, reduceIte, Nat.reduceEqDiff, Nat.reduceAdd, Nat.reduceLeDiff, Nat.reducePow, Nat.reduceDiv, Nat.reduceMod, decide_true, B2]
          refine wCall_use ⟨hxc.1, hxc.2 nof h2 q d o.list _ (qa1.off x2 hq) (rd_aints _ _ _) (fun x => x) (by omega)⟩ ?_
          rintro _ h3 ⟨q3, x3, l3⟩
          have B3 : h3[n0]? = some (some (.arr 5 [[.int .i64 o.kind, .int .i64 o.i, .int .i64 o.look, abytes o.data, aints o.list]] false)) := by
            rw [x3.2 n0 (List.getElem?_eq_some_iff.1 B2).1 (by show n0 ≠ q; omega)]; exact B2
          simp only [go_sem, reduceIte, Nat.reduceEqDiff, Nat.reduceAdd, Nat.reduceLeDiff, Nat.reducePow, Nat.reduceDiv, Nat.reduceMod, decide_true, B3]
          refine use1 hki.1 (hki.2 nof h3 o.list _ _ (rd_aints _ _ _) (rd_aints _ _ _) (by omega)) ?_
          simp only [go_sem, reduceIte, Nat.reduceEqDiff, Nat.reduceAdd, Nat.reduceLeDiff, Nat.reducePow, Nat.reduceDiv, Nat.reduceMod, decide_true]
          exact ⟨d2.off x3 fun m _ hm e => hq (e ▸ hm), q3, two X x2 x3⟩
        · rw [if_neg c3]
          simp only [go_sem, reduceIte, Nat.reduceEqDiff, Nat.reduceAdd, Nat.reduceLeDiff, Nat.reducePow, Nat.reduceDiv, Nat.reduceMod, decide_true, decide_eq_false c0, decide_eq_false c1, decide_eq_false c2, decide_eq_false c3, B]
          exact ⟨da1, qa1, X.weak fun m _ x => x.elim⟩

def All4Ok (P : Program) (f : FuncId) : Prop := isFn P f = true ∧ ∀ (F : Nat → Prop) (h : AHeap) (p q : Nat) (d : Dk), DiskAt F h p d → RefAt h q d → (∀ m, F m → m < h.length) →
  ACalls P f [.ptr p 6 0 0, .ptr q 5 0 0] h fun r h' => r = .bool true ∧ h' = h

theorem all4_ok {P : Program} {f g : FuncId} (hf : Is P f (c_glebelaw04_All g)) (hg : LooksOk P g) : All4Ok P f := by
  refine ⟨hf.2, fun F h p q d da qa hF => fun_sound hf.1 (Nat.le_of_ble_eq_true rfl) ?_⟩
  show vc P (c_glebelaw04_All g).code ⟨[(0, .ptr p 6 0 0), (1, .ptr q 5 0 0)], [], h⟩ (atEnd (c_glebelaw04_All g).res _)
  have ⟨⟨L, C, B, hL, hC⟩, ok⟩ := qa
  have ll := ok.llen
  have cl := ok.clen
  have lL := hL.len
  have lC := hC.len
  simp only [c_glebelaw04_All, go_sem, reduceIte, Nat.reduceEqDiff, Nat.reduceAdd, Nat.reduceLeDiff, Nat.reducePow, Nat.reduceDiv, Nat.reduceMod, decide_true]
  obtain ⟨I, hI⟩ : ∃ I : Nat → Env → AHeap → Prop, ∀ m E h', I m E h' ↔ ∃ (i : Nat), lk 0 E = .ptr p 6 0 0 ∧ lk 1 E = .ptr q 5 0 0 ∧ lk 5 E = .int .i64 i ∧ h' = h ∧ i ≤ d.lasts.length ∧ m = d.lasts.length - i := ⟨_, fun _ _ _ => Iff.rfl⟩
  refine vc_loop I d.lasts.length ((hI _ _ _).2 ⟨0, by simp [lk_ins, lk_cons], by simp [lk_ins, lk_cons], by simp [lk_ins], rfl, by omega, by omega⟩) ?_
  intro m E h2 hh
  obtain ⟨i, k0, k1, k5, rfl, hi, rfl⟩ := (hI _ _ _).1 hh
  simp only [c_glebelaw04_All_l0, go_sem, reduceIte, Nat.reduceEqDiff, Nat.reduceAdd, Nat.reduceLeDiff, Nat.reducePow, Nat.reduceDiv, Nat.reduceMod, decide_true, k0, k1, k5, B, lL]
  refine wCond_split (fun ci => ?_) (fun ci => ?_)
  · simp at ci
    obtain ⟨pp, hp1, hp2⟩ := hL.at ci
    have l0 : aload h2 false 1 (poff 0 pp) = some (.int .i64 d.lasts[i].no) := by rw [aload_off (hp2 h2), Sec.v_eq]; rfl
    have ew : IntKind.i64.wrap (↑i + 1) = (i : Int) + 1 := wrap_i64 (by omega)
    simp only [go_sem, reduceIte, Nat.reduceEqDiff, Nat.reduceAdd, Nat.reduceLeDiff, Nat.reducePow, Nat.reduceDiv, Nat.reduceMod, decide_true, k0, k1, k5, B, hp1, afield_p (hp2 h2), l0]
    refine use1 hg.1 (hg.2 F h2 p q d _ da qa hF) ?_
    simp only [go_sem, reduceIte, Nat.reduceEqDiff, Nat.reduceAdd, Nat.reduceLeDiff, Nat.reducePow, Nat.reduceDiv, Nat.reduceMod, decide_true, k0, k1, k5, ew]
    exact ⟨_, by omega, (hI _ _ _).2 ⟨i + 1, by simp [lk_ins, k0], by simp [lk_ins, k1], by simp [lk_ins], rfl, ci, rfl⟩⟩
  · simp only [go_sem, reduceIte, Nat.reduceEqDiff, Nat.reduceAdd, Nat.reduceLeDiff, Nat.reducePow, Nat.reduceDiv, Nat.reduceMod, decide_true, k0, k1]
    clear hh hI I
    obtain ⟨I, hI⟩ : ∃ I : Nat → Env → AHeap → Prop, ∀ m E h', I m E h' ↔ ∃ (i : Nat), lk 0 E = .ptr p 6 0 0 ∧ lk 1 E = .ptr q 5 0 0 ∧ lk 6 E = .int .i64 i ∧ h' = h2 ∧ i ≤ d.cache.length ∧ m = d.cache.length - i := ⟨_, fun _ _ _ => Iff.rfl⟩
    refine vc_loop I d.cache.length ((hI _ _ _).2 ⟨0, by simp [lk_ins, k0], by simp [lk_ins, k1], by simp [lk_ins], rfl, by omega, by omega⟩) ?_
    clear k0 k1 k5
    intro m E h3 hh
    obtain ⟨i, k0, k1, k6, rfl, hi, rfl⟩ := (hI _ _ _).1 hh
    simp only [c_glebelaw04_All_l1, go_sem, reduceIte, Nat.reduceEqDiff, Nat.reduceAdd, Nat.reduceLeDiff, Nat.reducePow, Nat.reduceDiv, Nat.reduceMod, decide_true, k0, k1, k6, B, lC]
    refine wCond_split (fun ci => ?_) (fun ci => ?_)
    · simp at ci
      obtain ⟨pp, hp1, hp2⟩ := hC.at ci
      have l0 : aload h3 false 1 (poff 0 pp) = some (.int .i64 d.cache[i].no) := by rw [aload_off (hp2 h3), Sec.v_eq]; rfl
      have ew : IntKind.i64.wrap (↑i + 1) = (i : Int) + 1 := wrap_i64 (by omega)
      simp only [go_sem, reduceIte, Nat.reduceEqDiff, Nat.reduceAdd, Nat.reduceLeDiff, Nat.reducePow, Nat.reduceDiv, Nat.reduceMod, decide_true, k0, k1, k6, B, hp1, afield_p (hp2 h3), l0]
      refine use1 hg.1 (hg.2 F h3 p q d _ da qa hF) ?_
      simp only [go_sem, reduceIte, Nat.reduceEqDiff, Nat.reduceAdd, Nat.reduceLeDiff, Nat.reducePow, Nat.reduceDiv, Nat.reduceMod, decide_true, k0, k1, k6, ew]
      exact ⟨_, by omega, (hI _ _ _).2 ⟨i + 1, by simp [lk_ins, k0], by simp [lk_ins, k1], by simp [lk_ins], rfl, ci, rfl⟩⟩
    · simp only [go_sem, reduceIte, Nat.reduceEqDiff, Nat.reduceAdd, Nat.reduceLeDiff, Nat.reducePow, Nat.reduceDiv, Nat.reduceMod, decide_true, k0, k1]
      refine use1 hg.1 (hg.2 F h3 p q d _ da qa hF) ?_
      simp only [go_sem, reduceIte, Nat.reduceEqDiff, Nat.reduceAdd, Nat.reduceLeDiff, Nat.reducePow, Nat.reduceDiv, Nat.reduceMod, decide_true]

end Glb

/-
  Layer 4: the law SectorRuns.
-/
namespace Glb
open Go
set_option maxRecDepth 10000
set_option maxHeartbeats 8000000

theorem ops_at {l : List Op4} {i : Nat} (hi : i < l.length) : ∃ p, aindex 5 (aops l) (.int .i64 i) = some p ∧ (∀ h, aload h true 5 p = some (.agg l[i].v)) ∧ (∀ o, afield o p = some (poff o p)) ∧
    (∀ h, aload h false 1 (poff 1 p) = some (.int .i64 l[i].i)) ∧ (∀ h, aload h false 1 (poff 2 p) = some (.int .i64 l[i].look)) ∧ (∀ h, aload h false 1 (poff 0 p) = some (.int .i64 l[i].kind)) := by
  obtain ⟨p, hp1, hp2⟩ := index_av 5 Op4.c l .i64 hi
  change aindex 5 (aops l) _ = some p at hp1
  change ∀ h, pcells h p = some l[i].v at hp2
  refine ⟨p, hp1, fun h => ?_, fun o => afield_p (hp2 []) o, fun h => ?_, fun h => ?_, fun h => ?_⟩
  · rw [aload_p (hp2 h), take_agg, if_pos (by rw [Op4.v_eq]; simp), List.take_of_length_le (by rw [Op4.v_eq]; simp)]
  · rw [aload_off (hp2 h), Op4.v_eq]; rfl
  · rw [aload_off (hp2 h), Op4.v_eq]; rfl
  · rw [aload_off (hp2 h), Op4.v_eq]; rfl

theorem runs_ok {P : Program} {f fl fw fn xn fb fo fa : FuncId} (hf : Is P f (c_glebelaw04_SectorRuns fl fw fn xn fb fo fa)) (hl : Long4Ok P fl) (hw : YesOk P fw) (hn : NewDOk P fn) (hx : XNewOk P xn) (hb : BothOk P fb) (ho : LooksOk P fo) (hall : All4Ok P fa)
    (n : Int) (l : List Op4) (hR : ∀ o ∈ l, o.R) (h : AHeap) : ACalls P f [.int .i64 n, aops l] h fun r _ => r = .bool true := by
  refine fun_sound hf.1 (Nat.le_of_ble_eq_true rfl) ?_
  show vc P (c_glebelaw04_SectorRuns fl fw fn xn fb fo fa).code ⟨[(0, .int .i64 n), (1, aops l)], [], h⟩ (atEnd (c_glebelaw04_SectorRuns fl fw fn xn fb fo fa).res _)
  simp only [c_glebelaw04_SectorRuns, go_sem, reduceIte, Nat.reduceEqDiff, Nat.reduceAdd, Nat.reduceLeDiff, Nat.reducePow, Nat.reduceDiv, Nat.reduceMod, decide_true]
  refine wCall_use ⟨hl.1, hl.2 h l⟩ ?_
  rintro _ h ⟨⟨b, rfl, hfew⟩, rfl⟩
  cases b with
  | true =>
    simp only [go_sem, reduceIte, Nat.reduceEqDiff, Nat.reduceAdd, Nat.reduceLeDiff, Nat.reducePow, Nat.reduceDiv, Nat.reduceMod, decide_true]
    refine use1 hw.1 (hw.2 _) ?_
    simp only [go_sem, reduceIte, Nat.reduceEqDiff, Nat.reduceAdd, Nat.reduceLeDiff, Nat.reducePow, Nat.reduceDiv, Nat.reduceMod, decide_true]
  | false =>
    obtain ⟨h200, hfew⟩ := hfew rfl
    simp only [go_sem, reduceIte, Nat.reduceEqDiff, Nat.reduceAdd, Nat.reduceLeDiff, Nat.reducePow, Nat.reduceDiv, Nat.reduceMod, decide_true]
    refine wCall_use ⟨hn.1, hn.2 h n⟩ ?_
    rintro r h1 ⟨a1, a2, x1⟩
    by_cases c : 1 ≤ n ∧ n ≤ 16384
    · obtain ⟨p, rfl, da⟩ := a1 c
      simp only [go_sem, reduceIte, Nat.reduceEqDiff, Nat.reduceAdd, Nat.reduceLeDiff, Nat.reducePow, Nat.reduceDiv, Nat.reduceMod, decide_true]
      refine wCall_use ⟨hx.1, hx.2 h1 n⟩ ?_
      rintro r h2 ⟨b1, b2, x2⟩
      obtain ⟨rfl, qa, lh⟩ := b1 c
      have da2 := da.up x2
      obtain ⟨F, da2, hF, hq⟩ : ∃ F : Nat → Prop, DiskAt F h2 p (Dk.new n) ∧ (∀ m, F m → m < h1.length) ∧ ¬ F h1.length := ⟨_, da2, fun m x => x.2, fun x => by have := x.2; omega⟩
      clear da
      simp only [go_sem, reduceIte, Nat.reduceEqDiff, Nat.reduceAdd, Nat.reduceLeDiff, Nat.reducePow, Nat.reduceDiv, Nat.reduceMod, decide_true]
      obtain ⟨q, hqq⟩ : ∃ q, h1.length = q := ⟨_, rfl⟩
      rw [hqq] at qa hq hF lh ⊢
      obtain ⟨I, hI⟩ : ∃ I : Nat → Env → AHeap → Prop, ∀ m E h', I m E h' ↔ ∃ (i : Nat) (d : Dk), lk 1 E = aops l ∧ lk 5 E = .ptr p 6 0 0 ∧ lk 7 E = .ptr q 5 0 0 ∧ lk 9 E = .int .i64 i ∧ DiskAt F h' p d ∧ RefAt h' q d ∧ q < h'.length ∧ i ≤ l.length ∧ m = l.length - i := ⟨_, fun _ _ _ => Iff.rfl⟩
      refine vc_loop I l.length ((hI _ _ _).2 ⟨0, Dk.new n, by simp [lk_ins, lk_cons], by simp [lk_ins, lk_cons], by simp [lk_ins, lk_cons], by simp [lk_ins], da2, qa, by omega, by omega, by omega⟩) ?_
      clear da2 qa lh
      intro m E H hh
      obtain ⟨i, d, k1, k5, k7, k9, da, qa, lq, hi, rfl⟩ := (hI _ _ _).1 hh
      simp only [c_glebelaw04_SectorRuns_l0, go_sem, reduceIte, Nat.reduceEqDiff, Nat.reduceAdd, Nat.reduceLeDiff, Nat.reducePow, Nat.reduceDiv, Nat.reduceMod, decide_true, k1, k5, k7, k9, len_aops]
      refine wCond_split (fun ci => ?_) (fun ci => ?_)
      · simp at ci
        obtain ⟨pp, z1, z2, z3, z4, z5, -⟩ := ops_at ci
        have ew : IntKind.i64.wrap (↑i + 1) = (i : Int) + 1 := wrap_i64 (by omega)
        have hm := List.getElem_mem ci
        simp only [go_sem, reduceIte, Nat.reduceEqDiff, Nat.reduceAdd, Nat.reduceLeDiff, Nat.reducePow, Nat.reduceDiv, Nat.reduceMod, decide_true, k1, k5, k7, k9, z1, z2]
        refine wCall_use ⟨hb.1, hb.2 F H p q d l[i] da qa (fun m hm => by have := hF m hm; omega) hq (hfew _ hm) (hR _ hm)⟩ ?_
        rintro _ H2 ⟨rfl, da2, qa2, x2⟩
        have hF2 : ∀ m, F m → m < H2.length := fun m hm => by have := hF m hm; have := x2.1; omega
        simp only [go_sem, reduceIte, Nat.reduceEqDiff, Nat.reduceAdd, Nat.reduceLeDiff, Nat.reducePow, Nat.reduceDiv, Nat.reduceMod, decide_true, k1, k5, k7, k9, z1, z2, z3, z4, z5]
        refine use1 ho.1 (ho.2 F H2 p q _ _ da2 qa2 hF2) ?_
        simp only [go_sem, reduceIte, Nat.reduceEqDiff, Nat.reduceAdd, Nat.reduceLeDiff, Nat.reducePow, Nat.reduceDiv, Nat.reduceMod, decide_true, k1, k5, k7, k9, z1, z2, z3, z4, z5]
        refine use1 ho.1 (ho.2 F H2 p q _ _ da2 qa2 hF2) ?_
        simp only [go_sem, reduceIte, Nat.reduceEqDiff, Nat.reduceAdd, Nat.reduceLeDiff, Nat.reducePow, Nat.reduceDiv, Nat.reduceMod, decide_true, k1, k5, k7, k9, ew]
        exact ⟨_, by omega, (hI _ _ _).2 ⟨i + 1, _, by simp [lk_ins, k1], by simp [lk_ins, k5], by simp [lk_ins, k7], by simp [lk_ins], da2, qa2, by have := x2.1; omega, ci, rfl⟩⟩
      · simp only [go_sem, reduceIte, Nat.reduceEqDiff, Nat.reduceAdd, Nat.reduceLeDiff, Nat.reducePow, Nat.reduceDiv, Nat.reduceMod, decide_true, k5, k7]
        refine use1 hall.1 (hall.2 F H p q d da qa (fun m hm => by have := hF m hm; omega)) ?_
        simp only [go_sem, reduceIte, Nat.reduceEqDiff, Nat.reduceAdd, Nat.reduceLeDiff, Nat.reducePow, Nat.reduceDiv, Nat.reduceMod, decide_true]
        refine use1 hw.1 (hw.2 _) ?_
        simp only [go_sem, reduceIte, Nat.reduceEqDiff, Nat.reduceAdd, Nat.reduceLeDiff, Nat.reducePow, Nat.reduceDiv, Nat.reduceMod, decide_true]
    · obtain rfl := a2 c
      simp only [go_sem, reduceIte, Nat.reduceEqDiff, Nat.reduceAdd, Nat.reduceLeDiff, Nat.reducePow, Nat.reduceDiv, Nat.reduceMod, decide_true]
      refine wCall_use ⟨hx.1, hx.2 h1 n⟩ ?_
      rintro r h2 ⟨b1, b2, x2⟩
      obtain rfl := b2 c
      simp only [go_sem, reduceIte, Nat.reduceEqDiff, Nat.reduceAdd, Nat.reduceLeDiff, Nat.reducePow, Nat.reduceDiv, Nat.reduceMod, decide_true, rev_peq, pnil_nil, show (true != false) = true from rfl, show decide ((3:Int) = 0) = false from rfl, show decide ((3:Int) = 3) = true from rfl]
      refine use1 hw.1 (hw.2 _) ?_
      simp only [go_sem, reduceIte, Nat.reduceEqDiff, Nat.reduceAdd, Nat.reduceLeDiff, Nat.reducePow, Nat.reduceDiv, Nat.reduceMod, decide_true]

end Glb
