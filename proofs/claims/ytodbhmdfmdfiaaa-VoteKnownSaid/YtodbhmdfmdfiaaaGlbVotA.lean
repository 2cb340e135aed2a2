/-
  A library of its own: its parts, one behind the other.
-/
import Derived.Test.YtodbhmdfmdfiaaaGlbLaw11r
import Derived.Test.YtodbhmdfmdfiaaaGlbQuoA
import Derived.Test.YtodbhmdfmdfiaaaGlbKitB
import Derived.Test.YtodbhmdfmdfiaaaGlbCvote
import Derived.Test.YtodbhmdfmdfiaaaGlbKitJ
import Derived.Test.YtodbhmdfmdfiaaaGlbQuoB
import Derived.Test.YtodbhmdfmdfiaaaGlbTurA
import Derived.Test.YtodbhmdfmdfiaaaGlbKnown13
import Derived.Test.YtodbhmdfmdfiaaaGlbConB
set_option linter.unusedSimpArgs false
set_option linter.unusedVariables false
/-
  Layer 14: waiting, granting.
-/
namespace Glb
open Go
set_option maxRecDepth 10000
set_option maxHeartbeats 8000000

def wait (d : Int) : Int := 10 + d % 10
theorem tmod10 (d : Int) : (0 ≤ d ∧ d.tmod 10 = d % 10) ∨ (d < 0 ∧ (d.tmod 10 = d % 10 - 10 ∨ d.tmod 10 = 0 ∧ d % 10 = 0)) := by
  by_cases h : 0 ≤ d
  · exact .inl ⟨h, Int.tmod_eq_emod_of_nonneg h⟩
  · have e : d.tmod 10 = -((-d) % 10) := by
      rw [← Int.tmod_eq_emod_of_nonneg (show 0 ≤ -d by omega), Int.neg_tmod]; omega
    refine .inr ⟨by omega, ?_⟩
    rw [e]
    omega
def TimeOk (P : Program) (f : FuncId) : Prop := isFn P f = true ∧ ∀ (h : AHeap) (d : Int), ACalls P f [.int .i64 d] h fun r h' => r = .int .i64 (wait d) ∧ h' = h
theorem vote_Timeout_ok {P : Program} {f : FuncId} (hf : Is P f c_vote_Timeout) : TimeOk P f := by
  refine ⟨hf.2, fun h d => fun_sound hf.1 (Nat.le_of_ble_eq_true rfl) ?_⟩
  show vc P c_vote_Timeout.code ⟨[(0, .int .i64 d)], [], h⟩ (atEnd c_vote_Timeout.res _)
  have z : ¬ (10 : Int) = 0 := by decide
  simp only [c_vote_Timeout, go_sem, reduceIte, Nat.reduceEqDiff, Nat.reduceAdd, Nat.reduceLeDiff, Nat.reducePow, Nat.reduceDiv, Nat.reduceMod, decide_true, rem64, if_neg z]
  have t := tmod10 d
  by_cases c : d.tmod 10 < 0
  · have e1 : IntKind.i64.wrap (d.tmod 10 + 10) = d % 10 := by rw [wrap_i64 (by omega)]; omega
    have e2 : IntKind.i64.wrap (10 + d % 10) = wait d := by rw [wrap_i64 (by omega)]; rfl
    simp only [go_sem, reduceIte, Nat.reduceEqDiff, Nat.reduceAdd, Nat.reduceLeDiff, Nat.reducePow, Nat.reduceDiv, Nat.reduceMod, decide_true, decide_eq_true c, e1, e2]
  · have e1 : d.tmod 10 = d % 10 := by omega
    have e2 : IntKind.i64.wrap (10 + d % 10) = wait d := by rw [wrap_i64 (by omega)]; rfl
    have c' : ¬ d % 10 < 0 := by omega
    simp only [go_sem, reduceIte, Nat.reduceEqDiff, Nat.reduceAdd, Nat.reduceLeDiff, Nat.reducePow, Nat.reduceDiv, Nat.reduceMod, decide_true, decide_eq_false c', e1, e2]
theorem gleberef14_Timeout_ok {P : Program} {f : FuncId} (hf : Is P f c_gleberef14_Timeout) : TimeOk P f := by
  refine ⟨hf.2, fun h d => fun_sound hf.1 (Nat.le_of_ble_eq_true rfl) ?_⟩
  show vc P c_gleberef14_Timeout.code ⟨[(0, .int .i64 d)], [], h⟩ (atEnd c_gleberef14_Timeout.res _)
  have z : ¬ (10 : Int) = 0 := by decide
  have t := tmod10 d
  have e1 : IntKind.i64.wrap (d.tmod 10 + 10) = d.tmod 10 + 10 := wrap_i64 (by omega)
  have e3 : (d.tmod 10 + 10).tmod 10 = d % 10 := by
    rw [Int.tmod_eq_emod_of_nonneg (by omega)]; omega
  have e2 : IntKind.i64.wrap (10 + d % 10) = wait d := by rw [wrap_i64 (by omega)]; rfl
  simp only [c_gleberef14_Timeout, go_sem, reduceIte, Nat.reduceEqDiff, Nat.reduceAdd, Nat.reduceLeDiff, Nat.reducePow, Nat.reduceDiv, Nat.reduceMod, decide_true, rem64, if_neg z, e1, e3, e2]

theorem gleberef14_Last_ok {P : Program} {f : FuncId} (hf : Is P f c_gleberef14_Last) : LastOk P f := by
  refine ⟨hf.2, fun F h l a hl ok => obs (upto_tup2 (upto_int _ _ _) (upto_int _ _ _)) (fun_sound hf.1 (Nat.le_of_ble_eq_true rfl) ?_)⟩
  show vc P c_gleberef14_Last.code ⟨[(0, .agg a)], [], h⟩ (atEnd c_gleberef14_Last.res _)
  simp only [Log.c, RdL, Rd] at hl
  obtain ⟨_, _, rfl, rfl, _, _, rfl, rfl, d, _, rfl, hl, rfl⟩ := hl
  have ll := hl.len
  simp only [List.length_map] at ll
  obtain ⟨o1, o2, o3, o4⟩ := ok
  simp only [c_gleberef14_Last, go_sem, reduceIte, Nat.reduceEqDiff, Nat.reduceAdd, Nat.reduceLeDiff, Nat.reducePow, Nat.reduceDiv, Nat.reduceMod, decide_true, hl.scalar, cells_of hl.scalar, ll]
  refine wCond_split (fun c => ?_) (fun c => ?_)
  · simp at c
    simp only [go_sem, reduceIte, Nat.reduceEqDiff, Nat.reduceAdd, Nat.reduceLeDiff, Nat.reducePow, Nat.reduceDiv, Nat.reduceMod, decide_true]
    refine ⟨?_, Ext.b1 _⟩
    simp [Log.last, Log.lastTerm, c]
  · simp at c
    have e1 : IntKind.i64.wrap (l.base + ↑l.es.length) = l.base + ↑l.es.length := wrap_i64 (by omega)
    have e2 : IntKind.i64.wrap ((l.es.length : Int) - 1) = (l.es.length : Int) - 1 := wrap_i64 (by omega)
    have hlt : l.es.length - 1 < l.es.length := by first | omega | (have := List.length_pos_iff.2 c; omega)
    have ht : ((l.es.length : Int) - 1).toNat = l.es.length - 1 := by omega
    obtain ⟨p, cs, hp, hpc, hcs⟩ := hl.index .i64 (i := (l.es.length : Int) - 1) (d := (l.es[l.es.length - 1]).c) (by omega) (by rw [ht]; simp [hlt])
    simp only [Entry.c, RdL, Rd] at hcs
    obtain ⟨_, _, rfl, rfl, _, _, rfl, rfl, d', _, rfl, _, rfl⟩ := hcs
    have hpc1 := pup hpc (Ext.b1 (some (.arr 3 [[.int .i64 l.base, .int .i64 l.bterm, d]] false)))
    simp only [go_sem, reduceIte, Nat.reduceEqDiff, Nat.reduceAdd, Nat.reduceLeDiff, Nat.reducePow, Nat.reduceDiv, Nat.reduceMod, decide_true, e1, e2, hp, afield_p hpc, aload_off hpc1]
    refine ⟨?_, Ext.b1 _⟩
    simp [Log.last, Log.lastTerm, hlt]

def grants (term voted : Int) (l : Log) (m : Msg) : Bool := decide (m.kind = 1) && (decide (m.term = term) && ((decide (voted = 0) || decide (voted = m.from_)) && l.newer m.index m.prev))
def GrantsOk (P : Program) (f : FuncId) : Prop := isFn P f = true ∧ ∀ (F F' : Nat → Prop) (h : AHeap) (term voted : Int) (l : Log) (m : Msg) (a b : List AV), RdL F h l.c a → RdL F' h m.c b → LogOk l →
  ACalls P f [.int .i64 term, .int .i64 voted, .agg a, .agg b] h fun r h' => r = .bool (grants term voted l m) ∧ h' = h
theorem rd_msgL {m : Msg} {F : Nat → Prop} {h : AHeap} {a : List AV} (hh : RdL F h m.c a) : ∃ e d, a = m.cells e d ∧ Rd F h (dEntries m.es) e ∧ Rd F h (dBytes m.data) d := by
  simp only [Msg.c, RdL, Rd] at hh
  obtain ⟨_, _, rfl, rfl, _, _, rfl, rfl, _, _, rfl, rfl, _, _, rfl, rfl, _, _, rfl, rfl, _, _, rfl, rfl, _, _, rfl, rfl, _, _, rfl, rfl, _, _, rfl, rfl, _, _, rfl, rfl, _, _, rfl, rfl, _, _, rfl, rfl, _, _, rfl, rfl, _, _, rfl, rfl, _, _, rfl, rfl, e, _, rfl, he, d, _, rfl, hd, rfl⟩ := hh
  exact ⟨e, d, rfl, he, hd⟩
theorem rd_logL {l : Log} {F : Nat → Prop} {h : AHeap} {a : List AV} (hh : RdL F h l.c a) : ∃ d, a = [.int .i64 l.base, .int .i64 l.bterm, d] ∧ Rd F h (dEntries l.es) d := by
  simp only [Log.c, RdL, Rd] at hh
  obtain ⟨_, _, rfl, rfl, _, _, rfl, rfl, d, _, rfl, hd, rfl⟩ := hh
  exact ⟨d, rfl, hd⟩

theorem vote_Grants_ok {P : Program} {f g : FuncId} (hf : Is P f (c_vote_Grants g)) (hg : NewerOk P g) : GrantsOk P f := by
  refine ⟨hf.2, fun F F' h term voted l m a b ha hb ok => obs (upto_bool _ _) (fun_sound hf.1 (Nat.le_of_ble_eq_true rfl) ?_)⟩
  show vc P (c_vote_Grants g).code ⟨[(0, .int .i64 term), (1, .int .i64 voted), (2, .agg a), (3, .agg b)], [], h⟩ (atEnd (c_vote_Grants g).res _)
  have ha0 := ha
  obtain ⟨d, rfl, hd⟩ := rd_logL ha
  obtain ⟨e, s, rfl, he, hs⟩ := rd_msgL hb
  simp only [c_vote_Grants, go_sem, reduceIte, Nat.reduceEqDiff, Nat.reduceAdd, Nat.reduceLeDiff, Nat.reducePow, Nat.reduceDiv, Nat.reduceMod, decide_true, Msg.cells, hd.scalar, cells_of hd.scalar, he.scalar, hs.scalar]
  repeat' (first
    | refine wGuardT (fun _ => ?_) (fun _ => ?_)
    | refine wGuardF (fun _ => ?_) (fun _ => ?_)
    | (refine wCall_use ⟨hg.1, hg.2 F _ l _ _ _ (ha0.up ((Ext.b1 _).tr (Ext.b1 _))) ok⟩ ?_; rintro _ _ ⟨rfl, rfl⟩)
    | simp only [go_sem, reduceIte, Nat.reduceEqDiff, Nat.reduceAdd, Nat.reduceLeDiff, Nat.reducePow, Nat.reduceDiv, Nat.reduceMod, decide_true, *])
  all_goals refine ⟨?_, (Ext.b1 _).tr (Ext.b1 _)⟩
  all_goals simp_all [grants]

theorem gleberef14_Grants_ok {P : Program} {f g : FuncId} (hf : Is P f (c_gleberef14_Grants g)) (hg : LastOk P g) : GrantsOk P f := by
  refine ⟨hf.2, fun F F' h term voted l m a b ha hb ok => obs (upto_bool _ _) (fun_sound hf.1 (Nat.le_of_ble_eq_true rfl) ?_)⟩
  show vc P (c_gleberef14_Grants g).code ⟨[(0, .int .i64 term), (1, .int .i64 voted), (2, .agg a), (3, .agg b)], [], h⟩ (atEnd (c_gleberef14_Grants g).res _)
  have ha0 := ha
  obtain ⟨d, rfl, hd⟩ := rd_logL ha
  obtain ⟨e, s, rfl, he, hs⟩ := rd_msgL hb
  simp only [c_gleberef14_Grants, go_sem, reduceIte, Nat.reduceEqDiff, Nat.reduceAdd, Nat.reduceLeDiff, Nat.reducePow, Nat.reduceDiv, Nat.reduceMod, decide_true, Msg.cells, hd.scalar, cells_of hd.scalar, he.scalar, hs.scalar]
  repeat' (first
    | refine wGuardT (fun _ => ?_) (fun _ => ?_)
    | refine wGuardF (fun _ => ?_) (fun _ => ?_)
    | refine wCond_split (fun _ => ?_) (fun _ => ?_)
    | (refine wCall_use ⟨hg.1, hg.2 F _ l _ (ha0.up ((Ext.b1 _).tr (Ext.b1 _))) ok⟩ ?_; rintro _ _ ⟨rfl, rfl⟩)
    | simp only [go_sem, reduceIte, Nat.reduceEqDiff, Nat.reduceAdd, Nat.reduceLeDiff, Nat.reducePow, Nat.reduceDiv, Nat.reduceMod, decide_true, *])
  all_goals refine ⟨?_, (Ext.b1 _).tr (Ext.b1 _)⟩
  all_goals simp_all [grants, Log.newer]

def LongOk (P : Program) (f : FuncId) : Prop :=
  isFn P f = true ∧ ∀ (F : Nat → Prop) (h : AHeap) (l : Log) (a : List AV), RdL F h l.c a →
    ACalls P f [.agg a] h fun r h' => ∃ b, r = .bool b ∧ h' = h ∧ (b = false → Right l)
theorem long14_ok {P : Program} {f g : FuncId} (hf : Is P f (c_glebelaw14_long g)) (hg : BigEntriesOk P g) : LongOk P f := by
  refine ⟨hf.2, fun F h l a hl => (ACalls.trunc (K := fun r h' => Ext nof h h' ∧ ∃ b, r = .bool b ∧ (b = false → Right l)) (K' := fun r => ∃ b, r = .bool b ∧ (b = false → Right l)) (fun_sound hf.1 (Nat.le_of_ble_eq_true rfl) ?_)
    (fun r h' hk => ⟨hk.1, by obtain ⟨b, rfl, _⟩ := hk.2; exact upto_bool _ _, hk.2⟩)).mono fun r h' hk => let ⟨b, h1, h2⟩ := hk.2; ⟨b, h1, hk.1, h2⟩⟩
  show vc P (c_glebelaw14_long g).code ⟨[(0, .agg a)], [], h⟩ (atEnd (c_glebelaw14_long g).res _)
  obtain ⟨d, rfl, hd⟩ := rd_logL hl
  simp only [c_glebelaw14_long, go_sem, reduceIte, Nat.reduceEqDiff, Nat.reduceAdd, Nat.reduceLeDiff, Nat.reducePow, Nat.reduceDiv, Nat.reduceMod, decide_true, hd.scalar, cells_of hd.scalar]
  repeat' (first
    | refine wGuardT (fun _ => ?_) (fun _ => ?_)
    | refine wGuardF (fun _ => ?_) (fun _ => ?_)
    | (refine wCall_use ⟨hg.1, hg.2 F _ l.es _ 2000 65536 (hd.up (Ext.b1 _)) (by omega) (by omega)⟩ ?_; rintro _ _ ⟨bb, rfl, rfl, hbb⟩)
    | simp only [go_sem, reduceIte, Nat.reduceEqDiff, Nat.reduceAdd, Nat.reduceLeDiff, Nat.reducePow, Nat.reduceDiv, Nat.reduceMod, decide_true, *])
  all_goals refine ⟨Ext.b1 _, _, rfl, fun hb => ?_⟩
  all_goals first
    | (cases hb; done)
    | (have h4 := hbb (by simpa using hb)
       simp only [decide_eq_false_iff_not, Int.not_lt] at *
       exact ⟨⟨by omega, by omega⟩, ⟨by omega, by omega⟩, by have := h4.1; omega, fun e he => by have := h4.2 e he; omega⟩)

end Glb

/-
  Layer 14: whom a candidate asks.
-/
namespace Glb
open Go
set_option maxRecDepth 10000
set_option maxHeartbeats 16000000

def dMsgs (l : List Msg) : D := .sl 17 (l.map Msg.c)
def SameMsgsOk (P : Program) (f : FuncId) : Prop :=
  isFn P f = true ∧ ∀ (F F' : Nat → Prop) (h : AHeap) (x y : List Msg) (a b : AV), Rd F h (dMsgs x) a → Rd F' h (dMsgs y) b → x.length ≤ 2^40 → (∀ e ∈ x, SmallEntries e.es ∧ e.data.length ≤ 2^40) → ACalls P f [a, b] h fun r h' => r = .bool (decide (x = y)) ∧ h' = h
theorem SameMsgs_ok {P : Program} {f g : FuncId} (hf : Is P f (c_glebekit_SameMsgs g)) (hg : SameMsgOk P g) : SameMsgsOk P f := by
  refine ⟨hf.2, fun F F' h x y a b hx hy hl hd => fun_sound hf.1 (Nat.le_of_ble_eq_true rfl) ?_⟩
  show vc P (c_glebekit_SameMsgs g).code ⟨[(0, a), (1, b)], [], h⟩ (atEnd (c_glebekit_SameMsgs g).res _)
  have lx : alen a = some (.int .i64 x.length) := by simpa using hx.len
  have ly : alen b = some (.int .i64 y.length) := by simpa using hy.len
  simp only [c_glebekit_SameMsgs, go_sem, reduceIte, Nat.reduceEqDiff, Nat.reduceAdd, Nat.reduceLeDiff, Nat.reducePow, Nat.reduceDiv, Nat.reduceMod, decide_true, lx, ly]
  refine wCond_split (fun c => ?_) (fun c => ?_)
  · simp only [go_sem, reduceIte, Nat.reduceEqDiff, Nat.reduceAdd, Nat.reduceLeDiff, Nat.reducePow, Nat.reduceDiv, Nat.reduceMod, decide_true]
    simp at c
    simp; rintro rfl; exact c rfl
  · simp only [go_sem, reduceIte, Nat.reduceEqDiff, Nat.reduceAdd, Nat.reduceLeDiff, Nat.reducePow, Nat.reduceDiv, Nat.reduceMod, decide_true]
    simp at c
    have c' : x.length = y.length := by omega
    refine vc_loop (fun m L h' => ∃ i : Nat, lk 0 L = a ∧ lk 1 L = b ∧ lk 5 L = .int .i64 i ∧ h' = h ∧ i ≤ x.length ∧ m = x.length - i ∧ ∀ j : Nat, j < i → x[j]? = y[j]?) x.length ?_ ?_
    · exact ⟨0, by simp [lk_ins, lk_cons], by simp [lk_ins, lk_cons], by simp [lk_ins], rfl, by omega, by omega, by omega⟩
    · rintro m L h' ⟨i, h0, h1, h5, rfl, hi, rfl, hj⟩
      simp only [c_glebekit_SameMsgs_l0, go_sem, reduceIte, Nat.reduceEqDiff, Nat.reduceAdd, Nat.reduceLeDiff, Nat.reducePow, Nat.reduceDiv, Nat.reduceMod, decide_true, lx, h0, h1, h5]
      refine wCond_split (fun ci => ?_) (fun ci => ?_)
      · simp at ci
        have iy : i < y.length := by omega
        obtain ⟨p, cs, hp, hpc, hcs⟩ := hx.index .i64 (i := i) (d := x[i].c) (by omega) (by simp [ci])
        obtain ⟨q, cs', hq, hqc, hcs'⟩ := hy.index .i64 (i := i) (d := y[i].c) (by omega) (by simp [iy])
        have e : IntKind.i64.wrap (↑i + 1) = (i : Int) + 1 := wrap_i64 (by omega)
        have l1 : cs.length = 17 := by rw [RdL_length hcs]; rfl
        have l2 : cs'.length = 17 := by rw [RdL_length hcs']; rfl
        have t1 : cs.take 17 = cs := List.take_of_length_le (by omega)
        have t2 : cs'.take 17 = cs' := List.take_of_length_le (by omega)
        simp only [go_sem, reduceIte, Nat.reduceEqDiff, Nat.reduceAdd, Nat.reduceLeDiff, Nat.reducePow, Nat.reduceDiv, Nat.reduceMod, decide_true, h0, h1, h5, hp, hq, aload_p hpc, aload_p hqc, l1, l2, t1, t2]
        refine use1 hg.1 (hg.2 F F' _ x[i] y[i] _ _ hcs hcs' (hd _ (by simp)).1 (hd _ (by simp)).2) ?_
        simp only [go_sem, reduceIte, Nat.reduceEqDiff, Nat.reduceAdd, Nat.reduceLeDiff, Nat.reducePow, Nat.reduceDiv, Nat.reduceMod, decide_true, aload_p hpc, aload_p hqc, l1, l2, t1, t2, or_true]
        refine wCond_split (fun ce => ?_) (fun ce => ?_)
        · simp only [go_sem, reduceIte, Nat.reduceEqDiff, Nat.reduceAdd, Nat.reduceLeDiff, Nat.reducePow, Nat.reduceDiv, Nat.reduceMod, decide_true]
          simp at ce
          simp; rintro rfl; exact ce rfl
        · simp only [go_sem, reduceIte, Nat.reduceEqDiff, Nat.reduceAdd, Nat.reduceLeDiff, Nat.reducePow, Nat.reduceDiv, Nat.reduceMod, decide_true, h0, h1, h5, e]
          simp at ce
          refine ⟨_, ?_, i + 1, by simp, ci, rfl, fun j hj' => ?_⟩
          · omega
          · rcases Nat.lt_or_ge j i with hlt | hge
            · exact hj j hlt
            · obtain rfl : j = i := by omega
              simp [ci, iy, ce]
      · simp at ci
        simp only [go_sem, reduceIte, Nat.reduceEqDiff, Nat.reduceAdd, Nat.reduceLeDiff, Nat.reducePow, Nat.reduceDiv, Nat.reduceMod, decide_true, lx, h0, h1, h5]
        obtain rfl : i = x.length := by omega
        simp [ext_upto c' hj]



def ask (id group term index last n : Int) : Msg := ⟨1, id, n, group, term, index, last, 0, 0, 0, 0, 0, 0, 0, false, [], []⟩
def asks (id group term : Int) (l : Log) (c : Conf) : List Msg := (c.voters.filter fun n => decide (n ≠ id)).map (ask id group term l.last l.lastTerm)
def mrow (m : Msg) : List AV := m.cells .nils .nils
theorem rd_mrow (F : Nat → Prop) (h : AHeap) {m : Msg} (h1 : m.es = []) (h2 : m.data = []) : RdL F h m.c (mrow m) := by
  have e0 : ∀ n : Int, Rd F h (.int .i64 n) (.int .i64 n) := fun n => by simp only [Rd]
  have eb : ∀ b : Bool, Rd F h (.bool b) (.bool b) := fun n => by simp only [Rd]
  have n1 : ∀ sz, Rd F h (.sl sz []) .nils := fun sz => by simp only [Rd]; exact ⟨[], .inl ⟨rfl, rfl⟩, by simp only [RdLL]⟩
  simp only [Msg.c, dEntries, dBytes, h1, h2, List.map_nil]
  exact ⟨_, _, rfl, e0 _, _, _, rfl, e0 _, _, _, rfl, e0 _, _, _, rfl, e0 _, _, _, rfl, e0 _, _, _, rfl, e0 _, _, _, rfl, e0 _, _, _, rfl, e0 _, _, _, rfl, e0 _, _, _, rfl, e0 _, _, _, rfl, e0 _, _, _, rfl, e0 _, _, _, rfl, e0 _, _, _, rfl, e0 _, _, _, rfl, eb _, _, _, rfl, n1 3, _, _, rfl, n1 1, rfl⟩
theorem rd_mrows (F : Nat → Prop) (h : AHeap) : ∀ {l : List Msg}, (∀ m ∈ l, m.es = [] ∧ m.data = []) → RdLL F h (l.map Msg.c) (l.map mrow)
  | [], _ => by simp only [List.map_nil, RdLL]
  | m :: r, hh => by
    simp only [List.map_cons, RdLL]
    exact ⟨_, _, rfl, rd_mrow F h (hh m (by simp)).1 (hh m (by simp)).2, rd_mrows F h fun m hm => hh m (by simp [hm])⟩
theorem asks_no {id group term : Int} {l : Log} {c : Conf} : ∀ m ∈ asks id group term l c, m.es = [] ∧ m.data = [] := by
  intro m hm
  simp only [asks, List.mem_map] at hm
  obtain ⟨n, -, rfl⟩ := hm
  exact ⟨rfl, rfl⟩
theorem asks_len (id group term : Int) (l : Log) (c : Conf) : (asks id group term l c).length ≤ c.voters.length := by
  simp only [asks, List.length_map]; exact List.length_filter_le _ _
def AsksOk (P : Program) (f : FuncId) : Prop := isFn P f = true ∧ ∀ (F F' : Nat → Prop) (h : AHeap) (id group term : Int) (l : Log) (c : Conf) (a b : List AV), RdL F h l.c a → RdL F' h c.c b → LogOk l → c.few (2^30) →
  ACalls P f [.int .i64 id, .int .i64 group, .int .i64 term, .agg a, .agg b] h fun r h' => OwnO h.length h' 17 r ((asks id group term l c).map mrow) ∧ Ext nof h h'

theorem vote_Asks_ok {P : Program} {f g v : FuncId} (hf : Is P f (c_vote_Asks g v)) (hg : LastOk P g) (hv : ListOk P v Conf.voters) : AsksOk P f := by
  refine ⟨hf.2, fun F F' h id group term l c a b ha hb ok few => fun_sound hf.1 (Nat.le_of_ble_eq_true rfl) ?_⟩
  show vc P (c_vote_Asks g v).code ⟨[(0, .int .i64 id), (1, .int .i64 group), (2, .int .i64 term), (3, .agg a), (4, .agg b)], [], h⟩ (atEnd (c_vote_Asks g v).res _)
  have ha0 := ha
  have hb0 := hb
  obtain ⟨d, rfl, hd⟩ := rd_logL ha
  obtain ⟨o, n, e, rfl, ho, hn, he⟩ := rd_conf hb
  simp only [c_vote_Asks, go_sem, reduceIte, Nat.reduceEqDiff, Nat.reduceAdd, Nat.reduceLeDiff, Nat.reducePow, Nat.reduceDiv, Nat.reduceMod, decide_true, hd.scalar, cells_of hd.scalar, ho.scalar, hn.scalar, he.scalar, cells_of ho.scalar]
  have X0 := Ext.b2 (h := h) (some (.arr 3 [[.int .i64 l.base, .int .i64 l.bterm, d]] false)) (some (.arr 3 [[o, n, e]] false))
  have B1 := bx21 h (some (.arr 3 [[.int .i64 l.base, .int .i64 l.bterm, d]] false)) (some (.arr 3 [[o, n, e]] false))
  refine use1 hg.1 (hg.2 F _ l _ (ha0.up X0) ok) ?_
  simp only [go_sem, reduceIte, Nat.reduceEqDiff, Nat.reduceAdd, Nat.reduceLeDiff, Nat.reducePow, Nat.reduceDiv, Nat.reduceMod, decide_true]
  have hb1 := hb0.up X0
  have lH : (h ++ [some (ABlk.arr 3 [[.int .i64 l.base, .int .i64 l.bterm, d]] false)] ++ [some (ABlk.arr 3 [[o, n, e]] false)]).length = h.length + 2 := by simp
  generalize h ++ [some (ABlk.arr 3 [[.int .i64 l.base, .int .i64 l.bterm, d]] false)] ++ [some (ABlk.arr 3 [[o, n, e]] false)] = H at *
  refine wCall_use ⟨hv.1, hv.2 F' H c _ hb1 ⟨by have := few.1; omega, by have := few.2.1; omega, by have := few.2.2; omega⟩⟩ ?_
  rintro w h1 ⟨ow, x1⟩
  have ow := Own.lt _ _ ow
  have vl : c.voters.length ≤ 2^31 := by have u := uni_length (c.old ++ c.new); simp only [List.length_append] at u; have := few.1; have := few.2.1; simp only [Conf.voters]; omega
  have lw : alen w = some (.int .i64 c.voters.length) := (Own.rd _ (F' := fun _ => True) (fun _ _ => trivial) _ ow).ints_len
  have l1 := x1.1
  have X1 := X0.trans x1 (F'' := nof) (fun _ _ x => x) (fun _ _ x => x)
  simp only [go_sem, reduceIte, Nat.reduceEqDiff, Nat.reduceAdd, Nat.reduceLeDiff, Nat.reducePow, Nat.reduceDiv, Nat.reduceMod, decide_true, lw]
  obtain ⟨R, hR⟩ : ∃ R : Int → List AV, R = fun n => mrow (ask id group term l.last l.lastTerm n) := ⟨_, rfl⟩
  obtain ⟨Q, hQ⟩ : ∃ Q : Int → Bool, Q = fun n => decide (n ≠ id) := ⟨_, rfl⟩
  have eA : (asks id group term l c).map mrow = (c.voters.filter Q).map R := by rw [hR, hQ]; simp [asks]
  rw [eA]
  generalize c.voters = vs at *
  obtain ⟨I, hI⟩ : ∃ I : Nat → Env → AHeap → Prop, ∀ m L h', I m L h' ↔ ∃ (i : Nat) (o : AV), lk 0 L = .int .i64 id ∧ lk 1 L = .int .i64 group ∧ lk 2 L = .int .i64 term ∧ lk 11 L = .int .i64 l.last ∧ lk 12 L = .int .i64 l.lastTerm ∧ lk 13 L = o ∧ lk 22 L = w ∧ lk 23 L = .int .i64 vs.length ∧ lk 24 L = .int .i64 i ∧
      OwnO h1.length h' 17 o (((vs.take i).filter Q).map R) ∧ Ext nof h1 h' ∧ i ≤ vs.length ∧ m = vs.length - i := ⟨_, fun _ _ _ => Iff.rfl⟩
  refine vc_loop I vs.length ((hI _ _ _).2 ⟨0, .nils, by simp [lk_ins, lk_cons], by simp [lk_ins, lk_cons], by simp [lk_ins, lk_cons], by simp [lk_ins, lk_cons], by simp [lk_ins, lk_cons], by simp [lk_ins, lk_cons], by simp [lk_ins, lk_cons], by simp [lk_ins, lk_cons], by simp [lk_ins], .inl ⟨rfl, by simp⟩, Ext.refl _ _, by omega, by omega⟩) ?_
  intro m L h2 hh
  obtain ⟨i, o, k0, k1, k2, k11, k12, k13, k22, k23, k24, oo, X2, hi, rfl⟩ := (hI _ _ _).1 hh
  simp only [c_vote_Asks_l0, go_sem, reduceIte, Nat.reduceEqDiff, Nat.reduceAdd, Nat.reduceLeDiff, Nat.reducePow, Nat.reduceDiv, Nat.reduceMod, decide_true, k0, k1, k2, k11, k12, k13, k22, k23, k24]
  refine wCond_split (fun ci => ?_) (fun ci => ?_)
  · simp at ci
    obtain ⟨p, hp, hv'⟩ := (Own.rd _ (F' := fun _ => True) (fun _ _ => trivial) _ (Own.mono _ (fun _ x => x) (fun m hm y hy => by rw [X2.2 m hm.2 (by simp [nof])]; exact hy) _ ow)).int_at (i := i) ci
    have ew : IntKind.i64.wrap (↑i + 1) = (i : Int) + 1 := wrap_i64 (by omega)
    have tk : vs.take (i + 1) = vs.take i ++ [vs[i]] := List.take_succ_eq_append_getElem ci
    simp only [go_sem, reduceIte, Nat.reduceEqDiff, Nat.reduceAdd, Nat.reduceLeDiff, Nat.reducePow, Nat.reduceDiv, Nat.reduceMod, decide_true, k0, k1, k2, k11, k12, k13, k22, k23, k24, hp, hv']
    by_cases c0 : vs[i] = id
    · have q : Q vs[i] = false := by rw [hQ]; simp [c0]
      simp only [go_sem, reduceIte, Nat.reduceEqDiff, Nat.reduceAdd, Nat.reduceLeDiff, Nat.reducePow, Nat.reduceDiv, Nat.reduceMod, decide_true, decide_eq_true c0, ew, k24]
      exact ⟨_, by omega, (hI _ _ _).2 ⟨i + 1, o, by simp [lk_ins, k0], by simp [lk_ins, k1], by simp [lk_ins, k2], by simp [lk_ins, k11], by simp [lk_ins, k12], by simp [lk_ins, k13], by simp [lk_ins, k22], by simp [lk_ins, k23], by simp [lk_ins], by rw [tk, List.filter_append]; simpa [q] using oo, X2, ci, rfl⟩⟩
    · have q : Q vs[i] = true := by rw [hQ]; simp [c0]
      have ll := List.length_filter_le Q (vs.take i)
      have lt := List.length_take_le i vs
      obtain ⟨o2, h3, s1, s2, s3⟩ := acc_app (bytes := 168) (h := h2 ++ [some (.arr 17 [R vs[i]] false)]) (ys := [R vs[i]]) oo (Ext.b1 _) X2.1 (by simp; omega)
      rw [← aappend_of (aelems_new h2 17 [R vs[i]] false (some 1) (len := 1) rfl)] at s1
      have eR : R vs[i] = [.int .i64 1, .int .i64 id, .int .i64 vs[i], .int .i64 group, .int .i64 term, .int .i64 l.last, .int .i64 l.lastTerm, .int .i64 0, .int .i64 0, .int .i64 0, .int .i64 0, .int .i64 0, .int .i64 0, .int .i64 0, .bool false, .nils, .nils] := by rw [hR]; rfl
      rw [eR] at s1
      simp only [go_sem, reduceIte, Nat.reduceEqDiff, Nat.reduceAdd, Nat.reduceLeDiff, Nat.reducePow, Nat.reduceDiv, Nat.reduceMod, decide_true, decide_eq_false c0, k0, k1, k2, k11, k12, k13, k22, k23, k24, s1, ew]
      exact ⟨_, by omega, (hI _ _ _).2 ⟨i + 1, o2, by simp [lk_ins, k0], by simp [lk_ins, k1], by simp [lk_ins, k2], by simp [lk_ins, k11], by simp [lk_ins, k12], by simp [lk_ins], by simp [lk_ins, k22], by simp [lk_ins, k23], by simp [lk_ins], by rw [tk, List.filter_append, List.map_append]; simpa [q] using s2, (X2.tr (Ext.b1 _)).then s3 (fun m hm hm' => by omega), ci, rfl⟩⟩
  · simp at ci
    obtain rfl : i = vs.length := by omega
    rw [List.take_length] at oo
    simp only [go_sem, reduceIte, Nat.reduceEqDiff, Nat.reduceAdd, Nat.reduceLeDiff, Nat.reducePow, Nat.reduceDiv, Nat.reduceMod, decide_true, k13]
    exact ⟨OwnO.lo oo (by omega), X1.tr X2⟩

theorem gleberef14_Asks_ok {P : Program} {f g v : FuncId} (hf : Is P f (c_gleberef14_Asks v g)) (hg : LastOk P g) (hv : ListR P v Conf.voters) : AsksOk P f := by
  refine ⟨hf.2, fun F F' h id group term l c a b ha hb ok few => fun_sound hf.1 (Nat.le_of_ble_eq_true rfl) ?_⟩
  show vc P (c_gleberef14_Asks v g).code ⟨[(0, .int .i64 id), (1, .int .i64 group), (2, .int .i64 term), (3, .agg a), (4, .agg b)], [], h⟩ (atEnd (c_gleberef14_Asks v g).res _)
  have ha0 := ha
  have hb0 := hb
  obtain ⟨d, rfl, hd⟩ := rd_logL ha
  obtain ⟨o, n, e, rfl, ho, hn, he⟩ := rd_conf hb
  simp only [c_gleberef14_Asks, go_sem, reduceIte, Nat.reduceEqDiff, Nat.reduceAdd, Nat.reduceLeDiff, Nat.reducePow, Nat.reduceDiv, Nat.reduceMod, decide_true, hd.scalar, cells_of hd.scalar, ho.scalar, hn.scalar, he.scalar, cells_of ho.scalar]
  have X0 := Ext.b2 (h := h) (some (.arr 3 [[.int .i64 l.base, .int .i64 l.bterm, d]] false)) (some (.arr 3 [[o, n, e]] false))
  have B0 := bx20 h (some (.arr 3 [[.int .i64 l.base, .int .i64 l.bterm, d]] false)) (some (.arr 3 [[o, n, e]] false))
  have ha1 := ha0.up X0
  have hb1 := hb0.up X0
  have lH : (h ++ [some (ABlk.arr 3 [[.int .i64 l.base, .int .i64 l.bterm, d]] false)] ++ [some (ABlk.arr 3 [[o, n, e]] false)]).length = h.length + 2 := by simp
  generalize h ++ [some (ABlk.arr 3 [[.int .i64 l.base, .int .i64 l.bterm, d]] false)] ++ [some (ABlk.arr 3 [[o, n, e]] false)] = h1 at *
  refine wCall_use ⟨hv.1, hv.2 F' h1 c _ hb1 ⟨by have := few.1; omega, by have := few.2.1; omega, by have := few.2.2; omega⟩⟩ ?_
  rintro w h1' ⟨ow, rfl⟩
  have vl : c.voters.length ≤ 2^31 := by have u := uni_length (c.old ++ c.new); simp only [List.length_append] at u; have := few.1; have := few.2.1; simp only [Conf.voters]; omega
  have lw : alen w = some (.int .i64 c.voters.length) := (ow.rd (fun _ => True) []).ints_len
  simp only [go_sem, reduceIte, Nat.reduceEqDiff, Nat.reduceAdd, Nat.reduceLeDiff, Nat.reducePow, Nat.reduceDiv, Nat.reduceMod, decide_true, lw, B0]
  refine use1 hg.1 (hg.2 F _ l _ ha1 ok) ?_
  simp only [go_sem, reduceIte, Nat.reduceEqDiff, Nat.reduceAdd, Nat.reduceLeDiff, Nat.reducePow, Nat.reduceDiv, Nat.reduceMod, decide_true, lw]
  obtain ⟨R, hR⟩ : ∃ R : Int → List AV, R = fun n => mrow (ask id group term l.last l.lastTerm n) := ⟨_, rfl⟩
  obtain ⟨Q, hQ⟩ : ∃ Q : Int → Bool, Q = fun n => decide (n ≠ id) := ⟨_, rfl⟩
  have eA : (asks id group term l c).map mrow = (c.voters.filter Q).map R := by rw [hR, hQ]; simp [asks]
  rw [eA]
  generalize c.voters = vs at *
  obtain ⟨I, hI⟩ : ∃ I : Nat → Env → AHeap → Prop, ∀ m L h', I m L h' ↔ ∃ (i : Nat) (o : AV), lk 0 L = .int .i64 id ∧ lk 1 L = .int .i64 group ∧ lk 2 L = .int .i64 term ∧ lk 13 L = .int .i64 l.last ∧ lk 14 L = .int .i64 l.lastTerm ∧ lk 11 L = o ∧ lk 12 L = w ∧ lk 15 L = .int .i64 i ∧
      OwnO h1'.length h' 17 o (((vs.take i).filter Q).map R) ∧ Ext nof h1' h' ∧ i ≤ vs.length ∧ m = vs.length - i := ⟨_, fun _ _ _ => Iff.rfl⟩
  refine vc_loop I vs.length ((hI _ _ _).2 ⟨0, .nils, by simp [lk_ins, lk_cons], by simp [lk_ins, lk_cons], by simp [lk_ins, lk_cons], by simp [lk_ins, lk_cons], by simp [lk_ins, lk_cons], by simp [lk_ins, lk_cons], by simp [lk_ins, lk_cons], by simp [lk_ins], .inl ⟨rfl, by simp⟩, Ext.refl _ _, by omega, by omega⟩) ?_
  intro m L h2 hh
  obtain ⟨i, o, k0, k1, k2, k11, k12, k13, k22, k24, oo, X2, hi, rfl⟩ := (hI _ _ _).1 hh
  simp only [c_gleberef14_Asks_l0, go_sem, reduceIte, Nat.reduceEqDiff, Nat.reduceAdd, Nat.reduceLeDiff, Nat.reducePow, Nat.reduceDiv, Nat.reduceMod, decide_true, k0, k1, k2, k11, k12, k13, k22, k24, lw]
  refine wCond_split (fun ci => ?_) (fun ci => ?_)
  · simp at ci
    obtain ⟨p, hp, hv'⟩ := (ow.rd (fun _ => True) h2).int_at (i := i) ci
    have ew : IntKind.i64.wrap (↑i + 1) = (i : Int) + 1 := wrap_i64 (by omega)
    have tk : vs.take (i + 1) = vs.take i ++ [vs[i]] := List.take_succ_eq_append_getElem ci
    simp only [go_sem, reduceIte, Nat.reduceEqDiff, Nat.reduceAdd, Nat.reduceLeDiff, Nat.reducePow, Nat.reduceDiv, Nat.reduceMod, decide_true, k0, k1, k2, k11, k12, k13, k22, k24, hp, hv']
    by_cases c0 : vs[i] = id
    · have q : Q vs[i] = false := by rw [hQ]; simp [c0]
      simp only [go_sem, reduceIte, Nat.reduceEqDiff, Nat.reduceAdd, Nat.reduceLeDiff, Nat.reducePow, Nat.reduceDiv, Nat.reduceMod, decide_true, decide_eq_true c0, ew, k24]
      exact ⟨_, by omega, (hI _ _ _).2 ⟨i + 1, o, by simp [lk_ins, k0], by simp [lk_ins, k1], by simp [lk_ins, k2], by simp [lk_ins, k11], by simp [lk_ins, k12], by simp [lk_ins, k13], by simp [lk_ins, k22], by simp [lk_ins], by rw [tk, List.filter_append]; simpa [q] using oo, X2, ci, rfl⟩⟩
    · have q : Q vs[i] = true := by rw [hQ]; simp [c0]
      have ll := List.length_filter_le Q (vs.take i)
      have lt := List.length_take_le i vs
      obtain ⟨o2, h3, s1, s2, s3⟩ := acc_app (bytes := 168) (h := h2 ++ [some (.arr 17 [R vs[i]] false)]) (ys := [R vs[i]]) oo (Ext.b1 _) X2.1 (by simp; omega)
      rw [← aappend_of (aelems_new h2 17 [R vs[i]] false (some 1) (len := 1) rfl)] at s1
      have eR : R vs[i] = [.int .i64 1, .int .i64 id, .int .i64 vs[i], .int .i64 group, .int .i64 term, .int .i64 l.last, .int .i64 l.lastTerm, .int .i64 0, .int .i64 0, .int .i64 0, .int .i64 0, .int .i64 0, .int .i64 0, .int .i64 0, .bool false, .nils, .nils] := by rw [hR]; rfl
      rw [eR] at s1
      simp only [go_sem, reduceIte, Nat.reduceEqDiff, Nat.reduceAdd, Nat.reduceLeDiff, Nat.reducePow, Nat.reduceDiv, Nat.reduceMod, decide_true, decide_eq_false c0, k0, k1, k2, k11, k12, k13, k22, k24, hp, hv', s1, ew]
      exact ⟨_, by omega, (hI _ _ _).2 ⟨i + 1, o2, by simp [lk_ins, k0], by simp [lk_ins, k1], by simp [lk_ins, k2], by simp [lk_ins, k11], by simp [lk_ins, k12], by simp [lk_ins], by simp [lk_ins, k22], by simp [lk_ins], by rw [tk, List.filter_append, List.map_append]; simpa [q] using s2, (X2.tr (Ext.b1 _)).then s3 (fun m hm hm' => by omega), ci, rfl⟩⟩
  · simp at ci
    obtain rfl : i = vs.length := by omega
    rw [List.take_length] at oo
    simp only [go_sem, reduceIte, Nat.reduceEqDiff, Nat.reduceAdd, Nat.reduceLeDiff, Nat.reducePow, Nat.reduceDiv, Nat.reduceMod, decide_true, k13]
    exact ⟨OwnO.lo oo (by omega), X0.tr X2⟩

end Glb

/-
  Layer 14: its examples.
-/
namespace Glb
open Go
set_option maxRecDepth 10000
set_option maxHeartbeats 16000000

def seven : Log := ⟨5, 2, [⟨2, 0, []⟩, ⟨3, 0, []⟩]⟩
def SevenOk (P : Program) (f : FuncId) : Prop := isFn P f = true ∧ ∀ h, ACalls P f [] h fun r h' => r = .agg seven.v ∧ h' = h
theorem seven_ok {P : Program} {f : FuncId} (hf : Is P f c_glebelaw14_seven) : SevenOk P f := by
  refine ⟨hf.2, fun h => ?_⟩
  have run : ACalls P f [] h fun r h' => ∃ as, r = .agg as ∧ OwnL seven.c (fun m => h.length ≤ m) h' as ∧ Ext nof h h' := by
    refine fun_sound hf.1 (Nat.le_of_ble_eq_true rfl) ?_
    show vc P c_glebelaw14_seven.code ⟨[], [], h⟩ (atEnd c_glebelaw14_seven.res _)
    simp only [c_glebelaw14_seven, go_sem, reduceIte, Nat.reduceEqDiff, Nat.reduceAdd, Nat.reduceLeDiff, Nat.reducePow, Nat.reduceDiv, Nat.reduceMod, decide_true]
    refine ⟨_, rfl, ⟨_, _, rfl, own_i64 _ _ 5, _, _, rfl, own_i64 _ _ 2, _, _, rfl, ?_, rfl⟩, Ext.b2 _ _⟩
    exact own_row (bx21 h _ _) rfl rfl (by omega) ⟨_, _, rfl, ⟨_, _, rfl, own_i64 _ _ 2, _, _, rfl, own_i64 _ _ 0, _, _, rfl, Own.nils 1, rfl⟩, _, _, rfl, ⟨_, _, rfl, own_i64 _ _ 3, _, _, rfl, own_i64 _ _ 0, _, _, rfl, Own.nils 1, rfl⟩, rfl⟩
  exact run.freeze fun _ _ ⟨_, e, ho, hx⟩ => ⟨hx, _, e ▸ Frz.aggD (OwnL.fz seven.c (fun _ x => x) _ ho), rfl⟩
theorem seven_log : LogOk seven := ⟨by decide, by decide, by decide, by simp [seven]⟩

def asked (from_ term index last : Int) : Msg := ⟨1, from_, 1, 0, term, index, last, 0, 0, 0, 0, 0, 0, 0, false, [], []⟩
def AskedOk (P : Program) (f : FuncId) : Prop := isFn P f = true ∧ ∀ h (a b c d : Int), ACalls P f [.int .i64 a, .int .i64 b, .int .i64 c, .int .i64 d] h fun r h' => r = .agg (mrow (asked a b c d)) ∧ h' = h
theorem asked_ok {P : Program} {f : FuncId} (hf : Is P f c_glebelaw14_asked) : AskedOk P f := by
  refine ⟨hf.2, fun h a b c d => obs (by rfl) (fun_sound hf.1 (Nat.le_of_ble_eq_true rfl) ?_)⟩
  show vc P c_glebelaw14_asked.code ⟨[(0, .int .i64 a), (1, .int .i64 b), (2, .int .i64 c), (3, .int .i64 d)], [], h⟩ (atEnd c_glebelaw14_asked.res _)
  simp only [c_glebelaw14_asked, go_sem, reduceIte, Nat.reduceEqDiff, Nat.reduceAdd, Nat.reduceLeDiff, Nat.reducePow, Nat.reduceDiv, Nat.reduceMod, decide_true]
  exact ⟨rfl, Ext.b1 _⟩
theorem rd_asked (F : Nat → Prop) (h : AHeap) (a b c d : Int) : RdL F h (asked a b c d).c (mrow (asked a b c d)) := rd_mrow F h rfl rfl

theorem works14_ok {P : Program} {f ti se as gr sk : FuncId} (hf : Is P f (c_glebelaw14_works ti se as gr sk)) (ht : TimeOk P ti) (hs : SevenOk P se) (ha : AskedOk P as) (hg : GrantsOk P gr) (hk : AsksOk P sk) : YesOk P f := by
  refine ⟨hf.2, fun h => obs rfl (fun_sound hf.1 (Nat.le_of_ble_eq_true rfl) ?_)⟩
  show vc P (c_glebelaw14_works ti se as gr sk).code ⟨[], [], h⟩ (atEnd (c_glebelaw14_works ti se as gr sk).res _)
  have w1 : wait 9 = 19 := rfl
  have w2 : wait (-1) = 19 := rfl
  have g1 : grants 5 0 seven (asked 2 5 7 3) = true := by decide
  have g2 : grants 5 0 seven (asked 2 5 6 3) = false := by decide
  simp only [c_glebelaw14_works, go_sem, reduceIte, Nat.reduceEqDiff, Nat.reduceAdd, Nat.reduceLeDiff, Nat.reducePow, Nat.reduceDiv, Nat.reduceMod, decide_true]
  refine use1 ht.1 (ht.2 h 9) ?_
  simp only [go_sem, reduceIte, Nat.reduceEqDiff, Nat.reduceAdd, Nat.reduceLeDiff, Nat.reducePow, Nat.reduceDiv, Nat.reduceMod, decide_true, w1]
  refine use1 ht.1 (ht.2 h (-1)) ?_
  simp only [go_sem, reduceIte, Nat.reduceEqDiff, Nat.reduceAdd, Nat.reduceLeDiff, Nat.reducePow, Nat.reduceDiv, Nat.reduceMod, decide_true, w2]
  refine use1 hs.1 (hs.2 h) ?_
  simp only [go_sem, reduceIte, Nat.reduceEqDiff, Nat.reduceAdd, Nat.reduceLeDiff, Nat.reducePow, Nat.reduceDiv, Nat.reduceMod, decide_true]
  refine use1 ha.1 (ha.2 h 2 5 7 3) ?_
  simp only [go_sem, reduceIte, Nat.reduceEqDiff, Nat.reduceAdd, Nat.reduceLeDiff, Nat.reducePow, Nat.reduceDiv, Nat.reduceMod, decide_true]
  refine use1 hg.1 (hg.2 nof nof h 5 0 seven (asked 2 5 7 3) _ _ (rd_logv _ _ _) (rd_asked _ _ _ _ _ _) seven_log) ?_
  simp only [go_sem, reduceIte, Nat.reduceEqDiff, Nat.reduceAdd, Nat.reduceLeDiff, Nat.reducePow, Nat.reduceDiv, Nat.reduceMod, decide_true, g1]
  refine use1 hs.1 (hs.2 h) ?_
  simp only [go_sem, reduceIte, Nat.reduceEqDiff, Nat.reduceAdd, Nat.reduceLeDiff, Nat.reducePow, Nat.reduceDiv, Nat.reduceMod, decide_true]
  refine use1 ha.1 (ha.2 h 2 5 6 3) ?_
  simp only [go_sem, reduceIte, Nat.reduceEqDiff, Nat.reduceAdd, Nat.reduceLeDiff, Nat.reducePow, Nat.reduceDiv, Nat.reduceMod, decide_true]
  refine use1 hg.1 (hg.2 nof nof h 5 0 seven (asked 2 5 6 3) _ _ (rd_logv _ _ _) (rd_asked _ _ _ _ _ _) seven_log) ?_
  simp only [go_sem, reduceIte, Nat.reduceEqDiff, Nat.reduceAdd, Nat.reduceLeDiff, Nat.reducePow, Nat.reduceDiv, Nat.reduceMod, decide_true, g2]
  refine use1 hs.1 (hs.2 h) ?_
  simp only [go_sem, reduceIte, Nat.reduceEqDiff, Nat.reduceAdd, Nat.reduceLeDiff, Nat.reducePow, Nat.reduceDiv, Nat.reduceMod, decide_true]
  have n1 : ∀ h, Rd (fun _ => True) h (dInts []) .nils := fun h => by simp only [dInts, Rd]; exact ⟨[], .inl ⟨rfl, rfl⟩, by simp only [List.map_nil, RdLL]⟩
  have rc : RdL (fun _ => True) (h ++ [some (.arr 1 [[.int .i64 1], [.int .i64 2], [.int .i64 3]] false)]) (⟨[1, 2, 3], [], []⟩ : Conf).c [.ref h.length 1 0 3 (some 3), .nils, .nils] :=
    ⟨_, _, rfl, rd_lit (k := .i64) (xs := [1, 2, 3]) (bx10 h _) rfl, _, _, rfl, n1 _, _, _, rfl, n1 _, rfl⟩
  refine wCall_use ⟨hk.1, hk.2 nof (fun _ => True) _ 1 0 5 seven ⟨[1, 2, 3], [], []⟩ _ _ (rd_logv _ _ _) rc seven_log ⟨by simp, by simp, by simp⟩⟩ ?_
  rintro r h1 ⟨oo, X1⟩
  have lr : alen r = some (.int .i64 2) := by
    have e : ((asks 1 0 5 seven ⟨[1, 2, 3], [], []⟩).map mrow).length = 2 := by decide
    have := oo.els.len
    rw [e] at this
    exact this
  simp only [go_sem, reduceIte, Nat.reduceEqDiff, Nat.reduceAdd, Nat.reduceLeDiff, Nat.reducePow, Nat.reduceDiv, Nat.reduceMod, decide_true, lr]
  exact (Ext.b1 _).tr X1

/-! the laws, whatever they are asked -/
theorem CopyLogOk.z {P : Program} {f : FuncId} (hc : CopyLogOk P f) {F : Nat → Prop} {h : AHeap} {x : Log} {a : List AV} (ha : RdL F h x.c a) (hx : SmallEntries x.es) : ACalls P f [.agg a] h fun r h' => r = .agg x.v ∧ h' = h :=
  (hc.2 F h x a ha hx).freeze fun _ _ ⟨_, e, ho, hx⟩ => ⟨hx, _, e ▸ Frz.aggD (OwnL.fz _ (fun _ x => x) _ ho), rfl⟩
def TellsOk (P : Program) (f : FuncId) : Prop := isFn P f = true ∧ ∀ (F F' : Nat → Prop) (h : AHeap) (draw term voted : Int) (l : Log) (m : Msg) (a b : List AV), RdL F h l.c a → RdL F' h m.c b →
  ACalls P f [.int .i64 draw, .int .i64 term, .int .i64 voted, .agg a, .agg b] h fun r h' => r = .bool true ∧ h' = h
theorem tells14_ok {P : Program} {f lo wo cl ti rt gr rg sl : FuncId} (hf : Is P f (c_glebelaw14_VoteTells lo wo cl ti rt gr rg sl)) (hlo : LongOk P lo) (hw : YesOk P wo) (hcl : CopyLogOk P cl) (ht : TimeOk P ti) (hrt : TimeOk P rt) (hg : GrantsOk P gr) (hrg : GrantsOk P rg) (hsl : SameLogOk P sl) : TellsOk P f := by
  refine ⟨hf.2, fun F F' h draw term voted l m a b ha hb => obs rfl (fun_sound hf.1 (Nat.le_of_ble_eq_true rfl) ?_)⟩
  show vc P (c_glebelaw14_VoteTells lo wo cl ti rt gr rg sl).code ⟨[(0, .int .i64 draw), (1, .int .i64 term), (2, .int .i64 voted), (3, .agg a), (4, .agg b)], [], h⟩ (atEnd (c_glebelaw14_VoteTells lo wo cl ti rt gr rg sl).res _)
  have ha0 := RdL.mono (F' := fun _ => True) (fun _ _ => trivial) (Keep.lt _ _) _ _ ha
  have hb0 := RdL.mono (F' := fun _ => True) (fun _ _ => trivial) (Keep.lt _ _) _ _ hb
  obtain ⟨d, rfl, hd⟩ := rd_logL ha
  obtain ⟨e, s, rfl, he, hs⟩ := rd_msgL hb
  simp only [c_glebelaw14_VoteTells, go_sem, reduceIte, Nat.reduceEqDiff, Nat.reduceAdd, Nat.reduceLeDiff, Nat.reducePow, Nat.reduceDiv, Nat.reduceMod, decide_true, Msg.cells, hd.scalar, cells_of hd.scalar, he.scalar, hs.scalar]
  have E := Ext.b2 (h := h) (some (.arr 3 [[.int .i64 l.base, .int .i64 l.bterm, d]] false)) (some (.arr 17 [m.cells e s] false))
  have B0 := bx20 h (some (.arr 3 [[.int .i64 l.base, .int .i64 l.bterm, d]] false)) (some (.arr 17 [m.cells e s] false))
  have B1 := bx21 h (some (.arr 3 [[.int .i64 l.base, .int .i64 l.bterm, d]] false)) (some (.arr 17 [m.cells e s] false))
  simp only [Msg.cells] at E B0 B1 hb0
  have ha0 := ha0.up E
  have hb0 := hb0.up E
  have lH : (h ++ [some (ABlk.arr 3 [[.int .i64 l.base, .int .i64 l.bterm, d]] false)] ++ [some (ABlk.arr 17 [m.cells e s] false)]).length = h.length + 2 := by simp
  simp only [Msg.cells] at lH
  generalize h ++ [some (ABlk.arr 3 [[.int .i64 l.base, .int .i64 l.bterm, d]] false)] ++ [some (ABlk.arr 17 _ false)] = H at *
  refine wCall_use ⟨hlo.1, hlo.2 _ H l _ ha0⟩ ?_
  rintro _ H' ⟨b, rfl, eH, hr⟩
  rw [eH]
  clear eH H'
  cases b with
  | true =>
    simp only [go_sem, reduceIte, Nat.reduceEqDiff, Nat.reduceAdd, Nat.reduceLeDiff, Nat.reducePow, Nat.reduceDiv, Nat.reduceMod, decide_true]
    refine use1 hw.1 (hw.2 H) ?_
    simp only [go_sem, reduceIte, Nat.reduceEqDiff, Nat.reduceAdd, Nat.reduceLeDiff, Nat.reducePow, Nat.reduceDiv, Nat.reduceMod, decide_true]
    exact E
  | false =>
    have hr := hr rfl
    have ok := hr.ok
    simp only [go_sem, reduceIte, Nat.reduceEqDiff, Nat.reduceAdd, Nat.reduceLeDiff, Nat.reducePow, Nat.reduceDiv, Nat.reduceMod, decide_true, B0]
    refine use1 hcl.1 (hcl.z ha0 ok.2.2) ?_
    have e0 : decide (wait draw = wait draw) = true := decide_eq_true rfl
    have Z := Ext.b1 (h := H) (some (.arr 3 [l.v] false))
    have B0 := Z.get B0
    have B1 := Z.get B1
    have B2 := bx10 H (some (.arr 3 [l.v] false))
    have ha1 := ha0.up Z
    have hb1 := hb0.up Z
    have E := E.tr Z
    have l2 : (H ++ [some (ABlk.arr 3 [l.v] false)]).length = H.length + 1 := by simp
    simp only [Log.v_eq] at B0 B1 B2 ha1 hb1 E l2
    simp only [go_sem, reduceIte, Nat.reduceEqDiff, Nat.reduceAdd, Nat.reduceLeDiff, Nat.reducePow, Nat.reduceDiv, Nat.reduceMod, decide_true, Log.v_eq, scalar_aentries, cells_aentries, B0, B1, B2]
    generalize H ++ [some (ABlk.arr 3 [[.int .i64 l.base, .int .i64 l.bterm, aentries l.es]] false)] = H2 at *
    refine use1 ht.1 (ht.2 H2 draw) ?_
    simp only [go_sem, reduceIte, Nat.reduceEqDiff, Nat.reduceAdd, Nat.reduceLeDiff, Nat.reducePow, Nat.reduceDiv, Nat.reduceMod, decide_true, B0, B1, B2]
    refine use1 hrt.1 (hrt.2 H2 draw) ?_
    simp only [go_sem, reduceIte, Nat.reduceEqDiff, Nat.reduceAdd, Nat.reduceLeDiff, Nat.reducePow, Nat.reduceDiv, Nat.reduceMod, decide_true, B0, B1, B2, e0]
    refine use1 hg.1 (hg.2 nof _ H2 term voted l m _ _ (by rw [← Log.v_eq]; exact rd_logv _ _ _) hb1 ok) ?_
    simp only [go_sem, reduceIte, Nat.reduceEqDiff, Nat.reduceAdd, Nat.reduceLeDiff, Nat.reducePow, Nat.reduceDiv, Nat.reduceMod, decide_true, B0, B1, B2, e0]
    refine use1 hrg.1 (hrg.2 _ _ H2 term voted l m _ _ ha1 hb1 ok) ?_
    simp only [go_sem, reduceIte, Nat.reduceEqDiff, Nat.reduceAdd, Nat.reduceLeDiff, Nat.reducePow, Nat.reduceDiv, Nat.reduceMod, decide_true, B0, B1, B2, e0]
    refine use1 hsl.1 (hsl.2 _ H2 l l _ _ (by rw [← Log.v_eq]; exact rd_logv _ _ _) ha1 (by have := ok.2.2.1; omega) ok.2.2.2) ?_
    simp only [go_sem, reduceIte, Nat.reduceEqDiff, Nat.reduceAdd, Nat.reduceLeDiff, Nat.reducePow, Nat.reduceDiv, Nat.reduceMod, decide_true, B0, B1, B2]
    refine use1 hw.1 (hw.2 H2) ?_
    simp only [go_sem, reduceIte, Nat.reduceEqDiff, Nat.reduceAdd, Nat.reduceLeDiff, Nat.reducePow, Nat.reduceDiv, Nat.reduceMod, decide_true]
    exact E

end Glb

/-
  Layer 14: VoteOnce, VoteWhole.
-/
namespace Glb
open Go
set_option maxRecDepth 10000
set_option maxHeartbeats 16000000

theorem grants_true {t v : Int} {l : Log} {m : Msg} (h : grants t v l m = true) : m.kind = 1 ∧ m.term = t ∧ (v = 0 ∨ v = m.from_) ∧ l.newer m.index m.prev = true := by
  simpa [grants] using h
theorem grants_mk {t v : Int} {l : Log} {m : Msg} (h1 : m.kind = 1) (h2 : m.term = t) (h3 : v = 0 ∨ v = m.from_) (h4 : l.newer m.index m.prev = true) : grants t v l m = true := by
  simp [grants, h1, h2, h3, h4]
def OnceOk (P : Program) (f : FuncId) : Prop := isFn P f = true ∧ ∀ (F F' F'' : Nat → Prop) (h : AHeap) (draw term : Int) (l : Log) (a b : Msg) (ra rb rc : List AV), RdL F h l.c ra → RdL F' h a.c rb → RdL F'' h b.c rc → xorv .i64 term 1 ≠ term →
  ACalls P f [.int .i64 draw, .int .i64 term, .agg ra, .agg rb, .agg rc] h fun r h' => r = .bool true ∧ h' = h
theorem once14_ok {P : Program} {f lo wo ti gr : FuncId} (hf : Is P f (c_glebelaw14_VoteOnce lo wo ti gr)) (hlo : LongOk P lo) (hw : YesOk P wo) (ht : TimeOk P ti) (hg : GrantsOk P gr) : OnceOk P f := by
  refine ⟨hf.2, fun F F' F'' h draw term l a b ra rb rc hra hrb hrc hx => obs rfl (fun_sound hf.1 (Nat.le_of_ble_eq_true rfl) ?_)⟩
  show vc P (c_glebelaw14_VoteOnce lo wo ti gr).code ⟨[(0, .int .i64 draw), (1, .int .i64 term), (2, .agg ra), (3, .agg rb), (4, .agg rc)], [], h⟩ (atEnd (c_glebelaw14_VoteOnce lo wo ti gr).res _)
  have ha0 := RdL.mono (F' := fun _ => True) (fun _ _ => trivial) (Keep.lt _ _) _ _ hra
  have hb0 := RdL.mono (F' := fun _ => True) (fun _ _ => trivial) (Keep.lt _ _) _ _ hrb
  have hc0 := RdL.mono (F' := fun _ => True) (fun _ _ => trivial) (Keep.lt _ _) _ _ hrc
  obtain ⟨d, rfl, hd⟩ := rd_logL hra
  obtain ⟨e, s, rfl, he, hs⟩ := rd_msgL hrb
  obtain ⟨e2, s2, rfl, he2, hs2⟩ := rd_msgL hrc
  simp only [c_glebelaw14_VoteOnce, go_sem, reduceIte, Nat.reduceEqDiff, Nat.reduceAdd, Nat.reduceLeDiff, Nat.reducePow, Nat.reduceDiv, Nat.reduceMod, decide_true, Msg.cells, hd.scalar, cells_of hd.scalar, he.scalar, hs.scalar, he2.scalar, hs2.scalar]
  have E := (Ext.b2 (h := h) (some (.arr 3 [[.int .i64 l.base, .int .i64 l.bterm, d]] false)) (some (.arr 17 [a.cells e s] false))).tr (Ext.b1 (some (.arr 17 [b.cells e2 s2] false)))
  have B0 := bx30 h (some (.arr 3 [[.int .i64 l.base, .int .i64 l.bterm, d]] false)) (some (.arr 17 [a.cells e s] false)) (some (.arr 17 [b.cells e2 s2] false))
  have B1 := bx31 h (some (.arr 3 [[.int .i64 l.base, .int .i64 l.bterm, d]] false)) (some (.arr 17 [a.cells e s] false)) (some (.arr 17 [b.cells e2 s2] false))
  have B2 := bx32 h (some (.arr 3 [[.int .i64 l.base, .int .i64 l.bterm, d]] false)) (some (.arr 17 [a.cells e s] false)) (some (.arr 17 [b.cells e2 s2] false))
  simp only [Msg.cells, Nat.add_assoc] at E B0 B1 B2 hb0 hc0
  have ha0 := ha0.up E
  have hb0 := hb0.up E
  have hc0 := hc0.up E
  generalize h ++ [some (ABlk.arr 3 [[.int .i64 l.base, .int .i64 l.bterm, d]] false)] ++ [some (ABlk.arr 17 _ false)] ++ [some (ABlk.arr 17 _ false)] = H at *
  refine wCall_use ⟨hlo.1, hlo.2 _ H l _ ha0⟩ ?_
  rintro _ H' ⟨bb, rfl, eH, hr⟩
  rw [eH]
  clear eH H'
  cases bb with
  | true =>
    simp only [go_sem, reduceIte, Nat.reduceEqDiff, Nat.reduceAdd, Nat.reduceLeDiff, Nat.reducePow, Nat.reduceDiv, Nat.reduceMod, decide_true]
    refine use1 hw.1 (hw.2 H) ?_
    simp only [go_sem, reduceIte, Nat.reduceEqDiff, Nat.reduceAdd, Nat.reduceLeDiff, Nat.reducePow, Nat.reduceDiv, Nat.reduceMod, decide_true]
    exact E
  | false =>
  have ok := (hr rfl).ok
  simp only [go_sem, reduceIte, Nat.reduceEqDiff, Nat.reduceAdd, Nat.reduceLeDiff, Nat.reducePow, Nat.reduceDiv, Nat.reduceMod, decide_true]
  refine use1 ht.1 (ht.2 H draw) ?_
  have w1 : decide (wait draw < 10) = false := decide_eq_false (by simp only [wait]; omega)
  have w2 : decide ((20 : Int) ≤ wait draw) = false := decide_eq_false (by simp only [wait]; omega)
  simp only [go_sem, reduceIte, Nat.reduceEqDiff, Nat.reduceAdd, Nat.reduceLeDiff, Nat.reducePow, Nat.reduceDiv, Nat.reduceMod, decide_true, w1, w2, B0, B1, B2]
  refine use1 hg.1 (hg.2 _ _ H term 0 l a _ _ ha0 hb0 ok) ?_
  cases g : grants term 0 l a with
  | false =>
    simp only [go_sem, reduceIte, Nat.reduceEqDiff, Nat.reduceAdd, Nat.reduceLeDiff, Nat.reducePow, Nat.reduceDiv, Nat.reduceMod, decide_true]
    refine use1 hw.1 (hw.2 H) ?_
    simp only [go_sem, reduceIte, Nat.reduceEqDiff, Nat.reduceAdd, Nat.reduceLeDiff, Nat.reducePow, Nat.reduceDiv, Nat.reduceMod, decide_true]
    exact E
  | true =>
  obtain ⟨g1, g2, g3, g4⟩ := grants_true g
  simp only [go_sem, reduceIte, Nat.reduceEqDiff, Nat.reduceAdd, Nat.reduceLeDiff, Nat.reducePow, Nat.reduceDiv, Nat.reduceMod, decide_true, B0, B1, B2]
  by_cases c0 : a.from_ = 0
  · simp only [go_sem, reduceIte, Nat.reduceEqDiff, Nat.reduceAdd, Nat.reduceLeDiff, Nat.reducePow, Nat.reduceDiv, Nat.reduceMod, decide_true, decide_eq_true c0]
    refine use1 hw.1 (hw.2 H) ?_
    simp only [go_sem, reduceIte, Nat.reduceEqDiff, Nat.reduceAdd, Nat.reduceLeDiff, Nat.reducePow, Nat.reduceDiv, Nat.reduceMod, decide_true]
    exact E
  simp only [go_sem, reduceIte, Nat.reduceEqDiff, Nat.reduceAdd, Nat.reduceLeDiff, Nat.reducePow, Nat.reduceDiv, Nat.reduceMod, decide_true, decide_eq_false c0, B0, B1, B2, decide_eq_true g2]
  refine use1 hg.1 (hg.2 _ _ H term a.from_ l a _ _ ha0 hb0 ok) ?_
  rw [grants_mk g1 g2 (.inr rfl) g4]
  have gx : grants (xorv .i64 term 1) 0 l a = false := by
    cases g' : grants (xorv .i64 term 1) 0 l a with
    | false => rfl
    | true => exact absurd ((grants_true g').2.1.symm.trans g2) hx
  simp only [go_sem, reduceIte, Nat.reduceEqDiff, Nat.reduceAdd, Nat.reduceLeDiff, Nat.reducePow, Nat.reduceDiv, Nat.reduceMod, decide_true, B0, B1, B2]
  by_cases c1 : b.from_ = a.from_
  · simp only [go_sem, reduceIte, Nat.reduceEqDiff, Nat.reduceAdd, Nat.reduceLeDiff, Nat.reducePow, Nat.reduceDiv, Nat.reduceMod, decide_true, decide_eq_true c1, B0, B1, B2]
    refine use1 hg.1 (hg.2 _ _ H (xorv .i64 term 1) 0 l a _ _ ha0 hb0 ok) ?_
    simp only [go_sem, reduceIte, Nat.reduceEqDiff, Nat.reduceAdd, Nat.reduceLeDiff, Nat.reducePow, Nat.reduceDiv, Nat.reduceMod, decide_true, gx]
    refine use1 hw.1 (hw.2 H) ?_
    simp only [go_sem, reduceIte, Nat.reduceEqDiff, Nat.reduceAdd, Nat.reduceLeDiff, Nat.reducePow, Nat.reduceDiv, Nat.reduceMod, decide_true]
    exact E
  · have gb : grants term a.from_ l b = false := by
      cases g' : grants term a.from_ l b with
      | false => rfl
      | true =>
        rcases (grants_true g').2.2.1 with h3 | h3
        · exact absurd h3 c0
        · exact absurd h3.symm c1
    simp only [go_sem, reduceIte, Nat.reduceEqDiff, Nat.reduceAdd, Nat.reduceLeDiff, Nat.reducePow, Nat.reduceDiv, Nat.reduceMod, decide_true, decide_eq_false c1, B0, B1, B2]
    refine use1 hg.1 (hg.2 _ _ H term a.from_ l b _ _ ha0 hc0 ok) ?_
    simp only [go_sem, reduceIte, Nat.reduceEqDiff, Nat.reduceAdd, Nat.reduceLeDiff, Nat.reducePow, Nat.reduceDiv, Nat.reduceMod, decide_true, gb, B0, B1, B2]
    refine use1 hg.1 (hg.2 _ _ H (xorv .i64 term 1) 0 l a _ _ ha0 hb0 ok) ?_
    simp only [go_sem, reduceIte, Nat.reduceEqDiff, Nat.reduceAdd, Nat.reduceLeDiff, Nat.reducePow, Nat.reduceDiv, Nat.reduceMod, decide_true, gx]
    refine use1 hw.1 (hw.2 H) ?_
    simp only [go_sem, reduceIte, Nat.reduceEqDiff, Nat.reduceAdd, Nat.reduceLeDiff, Nat.reducePow, Nat.reduceDiv, Nat.reduceMod, decide_true]
    exact E

end Glb

/-
  Layer 14: VoteWhole.
-/
namespace Glb
open Go
set_option maxRecDepth 10000
set_option maxHeartbeats 16000000

theorem newer_iff {l : Log} {i t : Int} : l.newer i t = true ↔ l.lastTerm < t ∨ (t = l.lastTerm ∧ l.last ≤ i) := by simp [Log.newer]
theorem msg_rd' {m : Msg} {F : Nat → Prop} {h : AHeap} {e s : AV} (he : Rd F h (dEntries m.es) e) (hs : Rd F h (dBytes m.data) s) : RdL F h m.c (m.cells e s) := by
  have e0 : ∀ n : Int, Rd F h (.int .i64 n) (.int .i64 n) := fun n => by simp only [Rd]
  have eb : ∀ b : Bool, Rd F h (.bool b) (.bool b) := fun n => by simp only [Rd]
  exact ⟨_, _, rfl, e0 _, _, _, rfl, e0 _, _, _, rfl, e0 _, _, _, rfl, e0 _, _, _, rfl, e0 _, _, _, rfl, e0 _, _, _, rfl, e0 _, _, _, rfl, e0 _, _, _, rfl, e0 _, _, _, rfl, e0 _, _, _, rfl, e0 _, _, _, rfl, e0 _, _, _, rfl, e0 _, _, _, rfl, e0 _, _, _, rfl, eb _, _, _, rfl, he, _, _, rfl, hs, rfl⟩
def WholeOk (P : Program) (f : FuncId) : Prop := isFn P f = true ∧ ∀ (F F' : Nat → Prop) (h : AHeap) (term voted : Int) (l : Log) (m : Msg) (more later : Int) (ra rb : List AV), RdL F h l.c ra → RdL F' h m.c rb →
  ACalls P f [.int .i64 term, .int .i64 voted, .agg ra, .agg rb, .int .i64 more, .int .i64 later] h fun r h' => r = .bool true ∧ h' = h
theorem whole14_ok {P : Program} {f lo wo gr : FuncId} (hf : Is P f (c_glebelaw14_VoteWhole lo wo gr)) (hlo : LongOk P lo) (hw : YesOk P wo) (hg : GrantsOk P gr) : WholeOk P f := by
  refine ⟨hf.2, fun F F' h term voted l m more later ra rb hra hrb => obs rfl (fun_sound hf.1 (Nat.le_of_ble_eq_true rfl) ?_)⟩
  show vc P (c_glebelaw14_VoteWhole lo wo gr).code ⟨[(0, .int .i64 term), (1, .int .i64 voted), (2, .agg ra), (3, .agg rb), (4, .int .i64 more), (5, .int .i64 later)], [], h⟩ (atEnd (c_glebelaw14_VoteWhole lo wo gr).res _)
  have ha0 := RdL.mono (F' := fun _ => True) (fun _ _ => trivial) (Keep.lt _ _) _ _ hra
  have hb0 := RdL.mono (F' := fun _ => True) (fun _ _ => trivial) (Keep.lt _ _) _ _ hrb
  obtain ⟨d, rfl, hd⟩ := rd_logL hra
  obtain ⟨e, s, rfl, he, hs⟩ := rd_msgL hrb
  have hd := Rd.mono (F' := fun _ => True) (fun _ _ => trivial) (Keep.lt _ _) _ _ hd
  have he := Rd.mono (F' := fun _ => True) (fun _ _ => trivial) (Keep.lt _ _) _ _ he
  have hs := Rd.mono (F' := fun _ => True) (fun _ _ => trivial) (Keep.lt _ _) _ _ hs
  simp only [c_glebelaw14_VoteWhole, go_sem, reduceIte, Nat.reduceEqDiff, Nat.reduceAdd, Nat.reduceLeDiff, Nat.reducePow, Nat.reduceDiv, Nat.reduceMod, decide_true, Msg.cells, hd.scalar, cells_of hd.scalar, he.scalar, hs.scalar]
  have E := Ext.b2 (h := h) (some (.arr 3 [[.int .i64 l.base, .int .i64 l.bterm, d]] false)) (some (.arr 17 [m.cells e s] false))
  have B0 := bx20 h (some (.arr 3 [[.int .i64 l.base, .int .i64 l.bterm, d]] false)) (some (.arr 17 [m.cells e s] false))
  have B1 := bx21 h (some (.arr 3 [[.int .i64 l.base, .int .i64 l.bterm, d]] false)) (some (.arr 17 [m.cells e s] false))
  simp only [Msg.cells] at E B0 B1 hb0
  have ha0 := ha0.up E
  have hb0 := hb0.up E
  have hd := hd.up E
  have he1 := he.up E
  have hs1 := hs.up E
  generalize h ++ [some (ABlk.arr 3 [[.int .i64 l.base, .int .i64 l.bterm, d]] false)] ++ [some (ABlk.arr 17 _ false)] = H at *
  refine wCall_use ⟨hlo.1, hlo.2 _ H l _ ha0⟩ ?_
  rintro _ H' ⟨bb, rfl, eH, hr⟩
  rw [eH]
  clear eH H'
  cases bb with
  | true =>
    simp only [go_sem, reduceIte, Nat.reduceEqDiff, Nat.reduceAdd, Nat.reduceLeDiff, Nat.reducePow, Nat.reduceDiv, Nat.reduceMod, decide_true]
    refine use1 hw.1 (hw.2 H) ?_
    simp only [go_sem, reduceIte, Nat.reduceEqDiff, Nat.reduceAdd, Nat.reduceLeDiff, Nat.reducePow, Nat.reduceDiv, Nat.reduceMod, decide_true]
    exact E
  | false =>
  have ok := (hr rfl).ok
  have ok' := ok
  obtain ⟨o1, o2, o3, o4⟩ := ok'
  simp only [go_sem, reduceIte, Nat.reduceEqDiff, Nat.reduceAdd, Nat.reduceLeDiff, Nat.reducePow, Nat.reduceDiv, Nat.reduceMod, decide_true, B0, B1]
  refine use1 hg.1 (hg.2 _ _ H term voted l m _ _ ha0 hb0 ok) ?_
  cases g : grants term voted l m with
  | false =>
    simp only [go_sem, reduceIte, Nat.reduceEqDiff, Nat.reduceAdd, Nat.reduceLeDiff, Nat.reducePow, Nat.reduceDiv, Nat.reduceMod, decide_true]
    refine use1 hw.1 (hw.2 H) ?_
    simp only [go_sem, reduceIte, Nat.reduceEqDiff, Nat.reduceAdd, Nat.reduceLeDiff, Nat.reducePow, Nat.reduceDiv, Nat.reduceMod, decide_true]
    exact E
  | true =>
  obtain ⟨g1, g2, g3, g4⟩ := grants_true g
  have ll : alen d = some (.int .i64 l.es.length) := by simpa using hd.len
  have g4' := newer_iff.1 g4
  have lt1 := (List.getElem?_eq_some_iff.1 B1).1
  have C0 := fun z => (Ext.b1 (h := H) z).get B0
  have C1 := fun z => (Ext.b1 (h := H) z).get B1
  have D0 := fun z y => ((Ext.b1 (h := H) z).tr (Ext.b1 y)).get B0
  have D1 := fun z y => ((Ext.b1 (h := H) z).tr (Ext.b1 y)).get B1
  have XX := fun z y => (Ext.b1 (h := H) z).tr (Ext.b1 y)
  have gx : grants term voted l { m with index := max m.index more } = true := grants_mk g1 g2 g3 (newer_iff.2 (by simp only; omega))
  simp only [go_sem, reduceIte, Nat.reduceEqDiff, Nat.reduceAdd, Nat.reduceLeDiff, Nat.reducePow, Nat.reduceDiv, Nat.reduceMod, decide_true, B0, B1, ll]
  by_cases c0 : l.es = []
  · have e1 : l.last = l.base := by simp [Log.last, c0]
    have e2 : l.lastTerm = l.bterm := by simp [Log.lastTerm, c0]
    have z : ¬ (0 : Int) < l.es.length := by simp [c0]
    have n1 : ¬ m.prev < l.bterm := by omega
    simp only [go_sem, reduceIte, Nat.reduceEqDiff, Nat.reduceAdd, Nat.reduceLeDiff, Nat.reducePow, Nat.reduceDiv, Nat.reduceMod, decide_true, decide_eq_false z]
    simp only [go_sem, reduceIte, Nat.reduceEqDiff, Nat.reduceAdd, Nat.reduceLeDiff, Nat.reducePow, Nat.reduceDiv, Nat.reduceMod, decide_true, B0, B1, ll, decide_eq_false n1]
    by_cases c2 : m.prev = l.bterm
    · have n3 : ¬ m.index < l.base := by omega
      simp only [go_sem, reduceIte, Nat.reduceEqDiff, Nat.reduceAdd, Nat.reduceLeDiff, Nat.reducePow, Nat.reduceDiv, Nat.reduceMod, decide_true, decide_eq_true c2, decide_eq_false n3, B0, B1]
      simp only [go_sem, reduceIte, Nat.reduceEqDiff, Nat.reduceAdd, Nat.reduceLeDiff, Nat.reducePow, Nat.reduceDiv, Nat.reduceMod, decide_true, B0, B1, C0, C1, rev_mnmx, mnmx_max, he.scalar, hs.scalar]
      simp only [go_sem, reduceIte, Nat.reduceEqDiff, Nat.reduceAdd, Nat.reduceLeDiff, Nat.reducePow, Nat.reduceDiv, Nat.reduceMod, decide_true, D0, D1, rev_mnmx, mnmx_max, he.scalar, hs.scalar]
      refine use1 hg.1 (hg.2 _ _ _ term voted l { m with index := max m.index more } _ _ (ha0.up (XX _ _)) (msg_rd' (m := { m with index := max m.index more }) (he1.up (XX _ _)) (hs1.up (XX _ _))) ok) ?_
      by_cases c3 : later ≤ m.prev
      · have e3 : max m.prev later = m.prev := by omega
        simp only [go_sem, reduceIte, Nat.reduceEqDiff, Nat.reduceAdd, Nat.reduceLeDiff, Nat.reducePow, Nat.reduceDiv, Nat.reduceMod, decide_true, D0, D1, gx, decide_eq_true e3]
        refine use1 hw.1 (hw.2 _) ?_
        simp only [go_sem, reduceIte, Nat.reduceEqDiff, Nat.reduceAdd, Nat.reduceLeDiff, Nat.reducePow, Nat.reduceDiv, Nat.reduceMod, decide_true]
        exact E.tr (XX _ _)
      · have e3 : ¬ max m.prev later = m.prev := by omega
        have gy : grants term voted l { m with prev := max m.prev later } = true := grants_mk g1 g2 g3 (newer_iff.2 (by simp only; omega))
        simp only [go_sem, reduceIte, Nat.reduceEqDiff, Nat.reduceAdd, Nat.reduceLeDiff, Nat.reducePow, Nat.reduceDiv, Nat.reduceMod, decide_true, D0, D1, gx, decide_eq_false e3]
        refine use1 hg.1 (hg.2 _ _ _ term voted l { m with prev := max m.prev later } _ _ (ha0.up (XX _ _)) (msg_rd' (m := { m with prev := max m.prev later }) (he1.up (XX _ _)) (hs1.up (XX _ _))) ok) ?_
        simp only [go_sem, reduceIte, Nat.reduceEqDiff, Nat.reduceAdd, Nat.reduceLeDiff, Nat.reducePow, Nat.reduceDiv, Nat.reduceMod, decide_true, gy]
        refine use1 hw.1 (hw.2 _) ?_
        simp only [go_sem, reduceIte, Nat.reduceEqDiff, Nat.reduceAdd, Nat.reduceLeDiff, Nat.reducePow, Nat.reduceDiv, Nat.reduceMod, decide_true]
        exact E.tr (XX _ _)
    · simp only [go_sem, reduceIte, Nat.reduceEqDiff, Nat.reduceAdd, Nat.reduceLeDiff, Nat.reducePow, Nat.reduceDiv, Nat.reduceMod, decide_true, decide_eq_false c2, B0, B1]
      simp only [go_sem, reduceIte, Nat.reduceEqDiff, Nat.reduceAdd, Nat.reduceLeDiff, Nat.reducePow, Nat.reduceDiv, Nat.reduceMod, decide_true, B0, B1, C0, C1, rev_mnmx, mnmx_max, he.scalar, hs.scalar]
      simp only [go_sem, reduceIte, Nat.reduceEqDiff, Nat.reduceAdd, Nat.reduceLeDiff, Nat.reducePow, Nat.reduceDiv, Nat.reduceMod, decide_true, D0, D1, rev_mnmx, mnmx_max, he.scalar, hs.scalar]
      refine use1 hg.1 (hg.2 _ _ _ term voted l { m with index := max m.index more } _ _ (ha0.up (XX _ _)) (msg_rd' (m := { m with index := max m.index more }) (he1.up (XX _ _)) (hs1.up (XX _ _))) ok) ?_
      by_cases c3 : later ≤ m.prev
      · have e3 : max m.prev later = m.prev := by omega
        simp only [go_sem, reduceIte, Nat.reduceEqDiff, Nat.reduceAdd, Nat.reduceLeDiff, Nat.reducePow, Nat.reduceDiv, Nat.reduceMod, decide_true, D0, D1, gx, decide_eq_true e3]
        refine use1 hw.1 (hw.2 _) ?_
        simp only [go_sem, reduceIte, Nat.reduceEqDiff, Nat.reduceAdd, Nat.reduceLeDiff, Nat.reducePow, Nat.reduceDiv, Nat.reduceMod, decide_true]
        exact E.tr (XX _ _)
      · have e3 : ¬ max m.prev later = m.prev := by omega
        have gy : grants term voted l { m with prev := max m.prev later } = true := grants_mk g1 g2 g3 (newer_iff.2 (by simp only; omega))
        simp only [go_sem, reduceIte, Nat.reduceEqDiff, Nat.reduceAdd, Nat.reduceLeDiff, Nat.reducePow, Nat.reduceDiv, Nat.reduceMod, decide_true, D0, D1, gx, decide_eq_false e3]
        refine use1 hg.1 (hg.2 _ _ _ term voted l { m with prev := max m.prev later } _ _ (ha0.up (XX _ _)) (msg_rd' (m := { m with prev := max m.prev later }) (he1.up (XX _ _)) (hs1.up (XX _ _))) ok) ?_
        simp only [go_sem, reduceIte, Nat.reduceEqDiff, Nat.reduceAdd, Nat.reduceLeDiff, Nat.reducePow, Nat.reduceDiv, Nat.reduceMod, decide_true, gy]
        refine use1 hw.1 (hw.2 _) ?_
        simp only [go_sem, reduceIte, Nat.reduceEqDiff, Nat.reduceAdd, Nat.reduceLeDiff, Nat.reducePow, Nat.reduceDiv, Nat.reduceMod, decide_true]
        exact E.tr (XX _ _)
  · have hp0 := List.length_pos_iff.2 c0
    have z : (0 : Int) < l.es.length := by omega
    have e1 : IntKind.i64.wrap (l.base + ↑l.es.length) = l.last := by rw [wrap_i64 (by omega)]; rfl
    have e2 : IntKind.i64.wrap ((l.es.length : Int) - 1) = (l.es.length : Int) - 1 := wrap_i64 (by omega)
    have hlt : l.es.length - 1 < l.es.length := by omega
    have ht : ((l.es.length : Int) - 1).toNat = l.es.length - 1 := by omega
    obtain ⟨p, cs, hp, hpc, hcs⟩ := hd.index .i64 (i := (l.es.length : Int) - 1) (d := (l.es[l.es.length - 1]).c) (by omega) (by rw [ht]; simp [hlt])
    simp only [Entry.c, RdL, Rd] at hcs
    obtain ⟨_, _, rfl, rfl, _, _, rfl, rfl, d', _, rfl, _, rfl⟩ := hcs
    have elt : l.es[l.es.length - 1].term = l.lastTerm := by simp [Log.lastTerm, hlt]
    have n1 : ¬ m.prev < l.lastTerm := by omega
    simp only [go_sem, reduceIte, Nat.reduceEqDiff, Nat.reduceAdd, Nat.reduceLeDiff, Nat.reducePow, Nat.reduceDiv, Nat.reduceMod, decide_true, decide_eq_true z, B0, B1, ll, e1, e2, hp, afield_p hpc, aload_off hpc, elt]
    simp only [go_sem, reduceIte, Nat.reduceEqDiff, Nat.reduceAdd, Nat.reduceLeDiff, Nat.reducePow, Nat.reduceDiv, Nat.reduceMod, decide_true, B0, B1, ll, decide_eq_false n1]
    by_cases c2 : m.prev = l.lastTerm
    · have n3 : ¬ m.index < l.last := by omega
      simp only [go_sem, reduceIte, Nat.reduceEqDiff, Nat.reduceAdd, Nat.reduceLeDiff, Nat.reducePow, Nat.reduceDiv, Nat.reduceMod, decide_true, decide_eq_true c2, decide_eq_false n3, B0, B1]
      simp only [go_sem, reduceIte, Nat.reduceEqDiff, Nat.reduceAdd, Nat.reduceLeDiff, Nat.reducePow, Nat.reduceDiv, Nat.reduceMod, decide_true, B0, B1, C0, C1, rev_mnmx, mnmx_max, he.scalar, hs.scalar]
      simp only [go_sem, reduceIte, Nat.reduceEqDiff, Nat.reduceAdd, Nat.reduceLeDiff, Nat.reducePow, Nat.reduceDiv, Nat.reduceMod, decide_true, D0, D1, rev_mnmx, mnmx_max, he.scalar, hs.scalar]
      refine use1 hg.1 (hg.2 _ _ _ term voted l { m with index := max m.index more } _ _ (ha0.up (XX _ _)) (msg_rd' (m := { m with index := max m.index more }) (he1.up (XX _ _)) (hs1.up (XX _ _))) ok) ?_
      by_cases c3 : later ≤ m.prev
      · have e3 : max m.prev later = m.prev := by omega
        simp only [go_sem, reduceIte, Nat.reduceEqDiff, Nat.reduceAdd, Nat.reduceLeDiff, Nat.reducePow, Nat.reduceDiv, Nat.reduceMod, decide_true, D0, D1, gx, decide_eq_true e3]
        refine use1 hw.1 (hw.2 _) ?_
        simp only [go_sem, reduceIte, Nat.reduceEqDiff, Nat.reduceAdd, Nat.reduceLeDiff, Nat.reducePow, Nat.reduceDiv, Nat.reduceMod, decide_true]
        exact E.tr (XX _ _)
      · have e3 : ¬ max m.prev later = m.prev := by omega
        have gy : grants term voted l { m with prev := max m.prev later } = true := grants_mk g1 g2 g3 (newer_iff.2 (by simp only; omega))
        simp only [go_sem, reduceIte, Nat.reduceEqDiff, Nat.reduceAdd, Nat.reduceLeDiff, Nat.reducePow, Nat.reduceDiv, Nat.reduceMod, decide_true, D0, D1, gx, decide_eq_false e3]
        refine use1 hg.1 (hg.2 _ _ _ term voted l { m with prev := max m.prev later } _ _ (ha0.up (XX _ _)) (msg_rd' (m := { m with prev := max m.prev later }) (he1.up (XX _ _)) (hs1.up (XX _ _))) ok) ?_
        simp only [go_sem, reduceIte, Nat.reduceEqDiff, Nat.reduceAdd, Nat.reduceLeDiff, Nat.reducePow, Nat.reduceDiv, Nat.reduceMod, decide_true, gy]
        refine use1 hw.1 (hw.2 _) ?_
        simp only [go_sem, reduceIte, Nat.reduceEqDiff, Nat.reduceAdd, Nat.reduceLeDiff, Nat.reducePow, Nat.reduceDiv, Nat.reduceMod, decide_true]
        exact E.tr (XX _ _)
    · simp only [go_sem, reduceIte, Nat.reduceEqDiff, Nat.reduceAdd, Nat.reduceLeDiff, Nat.reducePow, Nat.reduceDiv, Nat.reduceMod, decide_true, decide_eq_false c2, B0, B1]
      simp only [go_sem, reduceIte, Nat.reduceEqDiff, Nat.reduceAdd, Nat.reduceLeDiff, Nat.reducePow, Nat.reduceDiv, Nat.reduceMod, decide_true, B0, B1, C0, C1, rev_mnmx, mnmx_max, he.scalar, hs.scalar]
      simp only [go_sem, reduceIte, Nat.reduceEqDiff, Nat.reduceAdd, Nat.reduceLeDiff, Nat.reducePow, Nat.reduceDiv, Nat.reduceMod, decide_true, D0, D1, rev_mnmx, mnmx_max, he.scalar, hs.scalar]
      refine use1 hg.1 (hg.2 _ _ _ term voted l { m with index := max m.index more } _ _ (ha0.up (XX _ _)) (msg_rd' (m := { m with index := max m.index more }) (he1.up (XX _ _)) (hs1.up (XX _ _))) ok) ?_
      by_cases c3 : later ≤ m.prev
      · have e3 : max m.prev later = m.prev := by omega
        simp only [go_sem, reduceIte, Nat.reduceEqDiff, Nat.reduceAdd, Nat.reduceLeDiff, Nat.reducePow, Nat.reduceDiv, Nat.reduceMod, decide_true, D0, D1, gx, decide_eq_true e3]
        refine use1 hw.1 (hw.2 _) ?_
        simp only [go_sem, reduceIte, Nat.reduceEqDiff, Nat.reduceAdd, Nat.reduceLeDiff, Nat.reducePow, Nat.reduceDiv, Nat.reduceMod, decide_true]
        exact E.tr (XX _ _)
      · have e3 : ¬ max m.prev later = m.prev := by omega
        have gy : grants term voted l { m with prev := max m.prev later } = true := grants_mk g1 g2 g3 (newer_iff.2 (by simp only; omega))
        simp only [go_sem, reduceIte, Nat.reduceEqDiff, Nat.reduceAdd, Nat.reduceLeDiff, Nat.reducePow, Nat.reduceDiv, Nat.reduceMod, decide_true, D0, D1, gx, decide_eq_false e3]
        refine use1 hg.1 (hg.2 _ _ _ term voted l { m with prev := max m.prev later } _ _ (ha0.up (XX _ _)) (msg_rd' (m := { m with prev := max m.prev later }) (he1.up (XX _ _)) (hs1.up (XX _ _))) ok) ?_
        simp only [go_sem, reduceIte, Nat.reduceEqDiff, Nat.reduceAdd, Nat.reduceLeDiff, Nat.reducePow, Nat.reduceDiv, Nat.reduceMod, decide_true, gy]
        refine use1 hw.1 (hw.2 _) ?_
        simp only [go_sem, reduceIte, Nat.reduceEqDiff, Nat.reduceAdd, Nat.reduceLeDiff, Nat.reducePow, Nat.reduceDiv, Nat.reduceMod, decide_true]
        exact E.tr (XX _ _)

end Glb

/-
  Layer 14: VoteAsks.
-/
namespace Glb
open Go
set_option maxRecDepth 10000
set_option maxHeartbeats 16000000

theorem CopyConfOk.z {P : Program} {f : FuncId} (hc : CopyConfOk P f) {F : Nat → Prop} {h : AHeap} {x : Conf} {a : List AV} (ha : RdL F h x.c a) (hx : x.few (2^40)) : ACalls P f [.agg a] h fun r h' => r = .agg x.v ∧ h' = h :=
  (hc.2 F h x a ha hx.1 hx.2.1 hx.2.2).freeze fun _ _ ⟨_, _, _, e, h1, h2, h3, hx⟩ => ⟨hx, _, e ▸ Frz.aggD (OwnL.fz x.c (fun _ x => x) _ (own_conf h1 h2 h3)), rfl⟩
/-- what an own list of messages reads as -/
theorem OwnO.msgs {lo : Nat} {h : AHeap} {a : AV} {l : List Msg} (ho : OwnO lo h 17 a (l.map mrow)) (hl : ∀ m ∈ l, m.es = [] ∧ m.data = []) : Rd (fun _ => True) h (dMsgs l) a := by
  simp only [dMsgs, Rd]
  exact ⟨_, Els.mono (F' := fun _ => True) (fun _ _ => trivial) (fun _ _ _ hy => hy) ho.els, rd_mrows _ _ hl⟩
def AskLawOk (P : Program) (f : FuncId) : Prop := isFn P f = true ∧ ∀ (F F' : Nat → Prop) (h : AHeap) (id group term : Int) (l : Log) (c : Conf) (ra rb : List AV), RdL F h l.c ra → RdL F' h c.c rb →
  ACalls P f [.int .i64 id, .int .i64 group, .int .i64 term, .agg ra, .agg rb] h fun r h' => r = .bool true ∧ h' = h
theorem askLaw_ok {P : Program} {f lo bc wo cl cc va ra' sm sl sc : FuncId} (hf : Is P f (c_glebelaw14_VoteAsks lo bc wo cl cc va ra' sm sl sc)) (hlo : LongOk P lo) (hbc : BigConfOk P bc) (hw : YesOk P wo) (hcl : CopyLogOk P cl) (hcc : CopyConfOk P cc) (hva : AsksOk P va) (hra : AsksOk P ra') (hsm : SameMsgsOk P sm) (hsl : SameLogOk P sl) (hsc : SameConfOk P sc) : AskLawOk P f := by
  refine ⟨hf.2, fun F F' h id group term l c ra rb ha hb => obs rfl (fun_sound hf.1 (Nat.le_of_ble_eq_true rfl) ?_)⟩
  show vc P (c_glebelaw14_VoteAsks lo bc wo cl cc va ra' sm sl sc).code ⟨[(0, .int .i64 id), (1, .int .i64 group), (2, .int .i64 term), (3, .agg ra), (4, .agg rb)], [], h⟩ (atEnd (c_glebelaw14_VoteAsks lo bc wo cl cc va ra' sm sl sc).res _)
  have ha0 := RdL.mono (F' := fun m => m < h.length) (fun _ hm => hm.2) (Keep.lt _ _) _ _ (RdL.lt _ _ ha)
  have hb0 := RdL.mono (F' := fun m => m < h.length) (fun _ hm => hm.2) (Keep.lt _ _) _ _ (RdL.lt _ _ hb)
  obtain ⟨d, rfl, hd⟩ := rd_logL ha
  obtain ⟨o, n, e, rfl, ho, hn, he⟩ := rd_conf hb
  simp only [c_glebelaw14_VoteAsks, go_sem, reduceIte, Nat.reduceEqDiff, Nat.reduceAdd, Nat.reduceLeDiff, Nat.reducePow, Nat.reduceDiv, Nat.reduceMod, decide_true, hd.scalar, cells_of hd.scalar, ho.scalar, hn.scalar, he.scalar, cells_of ho.scalar]
  have E := Ext.b2 (h := h) (some (.arr 3 [[.int .i64 l.base, .int .i64 l.bterm, d]] false)) (some (.arr 3 [[o, n, e]] false))
  have B0 := bx20 h (some (.arr 3 [[.int .i64 l.base, .int .i64 l.bterm, d]] false)) (some (.arr 3 [[o, n, e]] false))
  have B1 := bx21 h (some (.arr 3 [[.int .i64 l.base, .int .i64 l.bterm, d]] false)) (some (.arr 3 [[o, n, e]] false))
  have ha0 := ha0.up E
  have hb0 := hb0.up E
  have l1 : (h ++ [some (ABlk.arr 3 [[.int .i64 l.base, .int .i64 l.bterm, d]] false)] ++ [some (ABlk.arr 3 [[o, n, e]] false)]).length = h.length + 2 := by simp
  generalize h ++ [some (ABlk.arr 3 [[.int .i64 l.base, .int .i64 l.bterm, d]] false)] ++ [some (ABlk.arr 3 [[o, n, e]] false)] = H at *
  have yes : ∀ {H : AHeap} {K : AV → AHeap → Prop}, K (.bool true) H → wCall P wo [] H K := fun hK => wCall_use ⟨hw.1, hw.2 _⟩ (by rintro _ _ ⟨rfl, rfl⟩; exact hK)
  refine wCall_use ⟨hlo.1, hlo.2 _ H l _ ha0⟩ ?_
  rintro _ H' ⟨bb, rfl, eH, hr⟩
  rw [eH]
  clear eH H'
  cases bb with
  | true =>
    simp only [go_sem, reduceIte, Nat.reduceEqDiff, Nat.reduceAdd, Nat.reduceLeDiff, Nat.reducePow, Nat.reduceDiv, Nat.reduceMod, decide_true]
    refine yes ?_
    simp only [go_sem, reduceIte, Nat.reduceEqDiff, Nat.reduceAdd, Nat.reduceLeDiff, Nat.reducePow, Nat.reduceDiv, Nat.reduceMod, decide_true]
    exact E
  | false =>
  have ok := (hr rfl).ok
  simp only [go_sem, reduceIte, Nat.reduceEqDiff, Nat.reduceAdd, Nat.reduceLeDiff, Nat.reducePow, Nat.reduceDiv, Nat.reduceMod, decide_true, B0, B1]
  refine wCall_use ⟨hbc.1, hbc.2 _ H c _ 300 hb0⟩ ?_
  rintro _ H' ⟨bb, rfl, eH, hr2⟩
  rw [eH]
  clear eH H'
  cases bb with
  | true =>
    simp only [go_sem, reduceIte, Nat.reduceEqDiff, Nat.reduceAdd, Nat.reduceLeDiff, Nat.reducePow, Nat.reduceDiv, Nat.reduceMod, decide_true]
    refine yes ?_
    simp only [go_sem, reduceIte, Nat.reduceEqDiff, Nat.reduceAdd, Nat.reduceLeDiff, Nat.reducePow, Nat.reduceDiv, Nat.reduceMod, decide_true]
    exact E
  | false =>
  have few : c.few (2^30) := ⟨by have := (hr2 rfl).1; omega, by have := (hr2 rfl).2.1; omega, by have := (hr2 rfl).2.2; omega⟩
  have few40 : c.few (2^40) := ⟨by have := few.1; omega, by have := few.2.1; omega, by have := few.2.2; omega⟩
  simp only [go_sem, reduceIte, Nat.reduceEqDiff, Nat.reduceAdd, Nat.reduceLeDiff, Nat.reducePow, Nat.reduceDiv, Nat.reduceMod, decide_true, B0, B1]
  refine use1 hcl.1 (hcl.z ha0 ok.2.2) ?_
  simp only [go_sem, reduceIte, Nat.reduceEqDiff, Nat.reduceAdd, Nat.reduceLeDiff, Nat.reducePow, Nat.reduceDiv, Nat.reduceMod, decide_true, Log.v_eq, scalar_aentries, cells_aentries]
  have Z := Ext.b1 (h := H) (some (.arr 3 [[.int .i64 l.base, .int .i64 l.bterm, aentries l.es]] false))
  have B0 := Z.get B0
  have B1 := Z.get B1
  have B2 := bx10 H (some (.arr 3 [[.int .i64 l.base, .int .i64 l.bterm, aentries l.es]] false))
  have ha0 := ha0.up Z
  have hb0 := hb0.up Z
  have E := E.tr Z
  have l2 : (H ++ [some (ABlk.arr 3 [[.int .i64 l.base, .int .i64 l.bterm, aentries l.es]] false)]).length = H.length + 1 := by simp
  clear Z
  simp only [B1]
  generalize H ++ [some (ABlk.arr 3 [[.int .i64 l.base, .int .i64 l.bterm, aentries l.es]] false)] = H2 at *
  simp only [go_sem, reduceIte, Nat.reduceEqDiff, Nat.reduceAdd, Nat.reduceLeDiff, Nat.reducePow, Nat.reduceDiv, Nat.reduceMod, decide_true]
  refine use1 hcc.1 (hcc.z hb0 few40) ?_
  simp only [go_sem, reduceIte, Nat.reduceEqDiff, Nat.reduceAdd, Nat.reduceLeDiff, Nat.reducePow, Nat.reduceDiv, Nat.reduceMod, decide_true, Conf.v_eq, scalar_aints, cells_aints]
  have Z := Ext.b1 (h := H2) (some (.arr 3 [[aints c.old, aints c.new, aints c.learners]] false))
  have B0 := Z.get B0
  have B1 := Z.get B1
  have B2 := Z.get B2
  have B3 := bx10 H2 (some (.arr 3 [[aints c.old, aints c.new, aints c.learners]] false))
  have ha0 := ha0.up Z
  have hb0 := hb0.up Z
  have E := E.tr Z
  have l3 : (H2 ++ [some (ABlk.arr 3 [[aints c.old, aints c.new, aints c.learners]] false)]).length = H2.length + 1 := by simp
  clear Z
  have rL : ∀ h, RdL nof h l.c [.int .i64 l.base, .int .i64 l.bterm, aentries l.es] := fun h => by rw [← Log.v_eq]; exact rd_logv _ _ _
  have rC : ∀ h, RdL nof h c.c [aints c.old, aints c.new, aints c.learners] := fun h => by rw [← Conf.v_eq]; exact rd_confv _ _ _
  simp only [B2]
  generalize H2 ++ [some (ABlk.arr 3 [[aints c.old, aints c.new, aints c.learners]] false)] = H3 at *
  simp only [go_sem, reduceIte, Nat.reduceEqDiff, Nat.reduceAdd, Nat.reduceLeDiff, Nat.reducePow, Nat.reduceDiv, Nat.reduceMod, decide_true, B2, B3]
  refine wCall_use ⟨hva.1, hva.2 nof nof H3 id group term l c _ _ (rL _) (rC _) ok few⟩ ?_
  rintro one H4 ⟨oo, X4⟩
  have l4 := X4.1
  have B0 := X4.get B0
  have B1 := X4.get B1
  have B2 := X4.get B2
  have B3 := X4.get B3
  simp only [go_sem, reduceIte, Nat.reduceEqDiff, Nat.reduceAdd, Nat.reduceLeDiff, Nat.reducePow, Nat.reduceDiv, Nat.reduceMod, decide_true, B2, B3]
  refine wCall_use ⟨hva.1, hva.2 nof nof H4 id group term l c _ _ (rL _) (rC _) ok few⟩ ?_
  rintro two H5 ⟨ot, X5⟩
  have l5 := X5.1
  have B0 := X5.get B0
  have B1 := X5.get B1
  have B2 := X5.get B2
  have B3 := X5.get B3
  simp only [go_sem, reduceIte, Nat.reduceEqDiff, Nat.reduceAdd, Nat.reduceLeDiff, Nat.reducePow, Nat.reduceDiv, Nat.reduceMod, decide_true, B0, B1]
  have ha0 := (ha0.up X4).up X5
  have hb0 := (hb0.up X4).up X5
  refine wCall_use ⟨hra.1, hra.2 _ _ H5 id group term l c _ _ ha0 hb0 ok few⟩ ?_
  rintro want H6 ⟨ow, X6⟩
  have l6 := X6.1
  have B0 := X6.get B0
  have B1 := X6.get B1
  have B2 := X6.get B2
  have B3 := X6.get B3
  have ha0 := ha0.up X6
  have hb0 := hb0.up X6
  have E := ((E.tr X4).tr X5).tr X6
  have no := @asks_no id group term l c
  have vl : (asks id group term l c).length ≤ 2^31 := by have u := uni_length (c.old ++ c.new); simp only [List.length_append] at u; have := few.1; have := few.2.1; have := asks_len id group term l c; simp only [Conf.voters] at this; omega
  generalize asks id group term l c = ms at *
  have small : ∀ x ∈ ms, SmallEntries x.es ∧ x.data.length ≤ 2^40 := fun x hx => by rw [(no x hx).1, (no x hx).2]; exact ⟨⟨by simp, fun e he => by simp at he⟩, by simp⟩
  have rO : Rd (fun _ => True) H6 (dMsgs ms) one := OwnO.msgs ((oo.kp (h' := H5) (fun m hm hm' => X5.2 m hm' (by simp [nof]))).kp (h' := H6) (fun m hm hm' => X6.2 m hm' (by simp [nof]))) no
  have lone : alen one = some (.int .i64 ms.length) := by have := oo.els.len; simpa using this
  have ot := ot.kp (h' := H6) (fun m hm hm' => X6.2 m hm' (by simp [nof]))
  simp only [go_sem, reduceIte, Nat.reduceEqDiff, Nat.reduceAdd, Nat.reduceLeDiff, Nat.reducePow, Nat.reduceDiv, Nat.reduceMod, decide_true]
  refine use1 hsm.1 (hsm.2 _ _ H6 ms ms one want rO (OwnO.msgs ow no) (by omega) small) ?_
  have e0 : decide (ms = ms) = true := decide_eq_true rfl
  simp only [go_sem, reduceIte, Nat.reduceEqDiff, Nat.reduceAdd, Nat.reduceLeDiff, Nat.reducePow, Nat.reduceDiv, Nat.reduceMod, decide_true, e0]
  obtain ⟨n, off, cap, g, sh, hn0⟩ : ∃ n off cap g, (ms.length = 0 ∨ (one = .ref n 17 off ms.length cap ∧ ∃ row, H6[n]? = some (some (.arr 17 row g)) ∧ ∀ j, j < ms.length → ∃ cs : List AV, row[off + j]? = some cs ∧ cs.length = 17)) ∧ H3.length ≤ n ∧ (ms.length = 0 ∨ n < H4.length) := by
    rcases oo with ⟨rfl, z⟩ | ⟨n, off, cap, row, g, h1, h2, h3, h4, h5, h6, h7, h8⟩
    · have z : ms.length = 0 := by simpa using congrArg List.length z
      exact ⟨H3.length, 0, none, false, .inl z, Nat.le_refl _, .inl z⟩
    · have nl := (List.getElem?_eq_some_iff.1 h3).1
      refine ⟨n, off, cap, g, .inr ⟨by simpa using h1, row, ?_, fun j hj => ?_⟩, h2, .inr nl⟩
      · exact ((X6.2 n (by omega) (by simp [nof])).trans ((X5.2 n nl (by simp [nof])).trans h3))
      · have hj' : j < (ms.map mrow).length := by simpa using hj
        have q : ((row.drop off).take (ms.map mrow).length)[j]? = some ((ms.map mrow)[j]) := by rw [h8]; simp [hj]
        rw [List.getElem?_take, if_pos hj', List.getElem?_drop] at q
        exact ⟨_, q, by simp [mrow, Msg.cells]⟩
  obtain ⟨G, hG⟩ : ∃ G : AHeap → Prop, ∀ h', G h' ↔ (h'.length = H6.length ∧ (∀ m, (m ≠ n ∨ ms.length = 0) → h'[m]? = H6[m]?) ∧ (ms.length = 0 ∨ ∃ row, h'[n]? = some (some (.arr 17 row g)) ∧ ∀ j, j < ms.length → ∃ cs : List AV, row[off + j]? = some cs ∧ cs.length = 17)) := ⟨_, fun _ => Iff.rfl⟩
  obtain ⟨I, hI⟩ : ∃ I : Nat → Env → AHeap → Prop, ∀ m L h', I m L h' ↔ ∃ i : Nat, lk 8 L = .ptr h.length 3 0 0 ∧ lk 9 L = .ptr (h.length + 1) 3 0 0 ∧ lk 11 L = .ptr H.length 3 0 0 ∧ lk 12 L = .ptr H2.length 3 0 0 ∧ lk 13 L = one ∧ lk 14 L = two ∧ lk 15 L = want ∧ lk 16 L = .int .i64 i ∧ G h' ∧ i ≤ ms.length ∧ m = ms.length - i := ⟨_, fun _ _ _ => Iff.rfl⟩
  refine vc_loop I ms.length ((hI _ _ _).2 ⟨0, by simp [lk_ins, lk_cons], by simp [lk_ins, lk_cons], by simp [lk_ins, lk_cons], by simp [lk_ins, lk_cons], by simp [lk_ins, lk_cons], by simp [lk_ins, lk_cons], by simp [lk_ins, lk_cons], by simp [lk_ins], (hG _).2 ⟨rfl, fun _ _ => rfl, ?_⟩, by omega, by omega⟩) ?_
  · rcases sh with z | ⟨-, row, q1, q2⟩
    · exact .inl z
    · exact .inr ⟨row, q1, q2⟩
  intro m L H7 hh
  obtain ⟨i, k8, k9, k11, k12, k13, k14, k15, k16, hg7, hi, rfl⟩ := (hI _ _ _).1 hh
  obtain ⟨l7, f7, r7⟩ := (hG _).1 hg7
  simp only [c_glebelaw14_VoteAsks_l0, go_sem, reduceIte, Nat.reduceEqDiff, Nat.reduceAdd, Nat.reduceLeDiff, Nat.reducePow, Nat.reduceDiv, Nat.reduceMod, decide_true, k13, k16, lone]
  refine wCond_split (fun ci => ?_) (fun ci => ?_)
  · simp at ci
    rcases sh with z | ⟨eone, -⟩
    · omega
    rcases r7 with z | ⟨row, q1, q2⟩
    · omega
    obtain ⟨cs, q3, q4⟩ := q2 i ci
    have ix : aindex 17 one (.int .i64 i) = some (.ptr n 17 (off + i) 0) := by
      rw [eone]; simp only [aindex]; rw [if_pos ⟨trivial, by omega, by omega⟩]; simp
    have st := astore_elem (x := .agg [.int .i64 0, .int .i64 0, .int .i64 0, .int .i64 0, .int .i64 0, .int .i64 0, .int .i64 0, .int .i64 0, .int .i64 0, .int .i64 0, .int .i64 0, .int .i64 0, .int .i64 0, .int .i64 0, .bool false, .nils, .nils]) q1 q3 rfl (by rw [q4]; rfl) rfl rfl
    have ew : IntKind.i64.wrap (↑i + 1) = (i : Int) + 1 := wrap_i64 (by omega)
    have rl := (List.getElem?_eq_some_iff.1 q3).1
    simp only [go_sem, reduceIte, Nat.reduceEqDiff, Nat.reduceAdd, Nat.reduceLeDiff, Nat.reducePow, Nat.reduceDiv, Nat.reduceMod, decide_true, k13, k16, ix, st, ew]
    refine ⟨_, by omega, (hI _ _ _).2 ⟨i + 1, by simp [lk_ins, k8], by simp [lk_ins, k9], by simp [lk_ins, k11], by simp [lk_ins, k12], by simp [lk_ins, k13], by simp [lk_ins, k14], by simp [lk_ins, k15], by simp [lk_ins], (hG _).2 ⟨by rw [List.length_set]; exact l7, fun m hm => by rw [List.getElem?_set_ne (by omega)]; exact f7 m hm, .inr ⟨_, List.getElem?_set_self (List.getElem?_eq_some_iff.1 q1).1, fun j hj => ?_⟩⟩, ci, rfl⟩⟩
    by_cases e : off + i = off + j
    · rw [← e, List.getElem?_set_self rl]; exact ⟨_, rfl, rfl⟩
    · rw [List.getElem?_set_ne e]; exact q2 j hj
  · have low : ∀ m, m < H3.length → H7[m]? = H6[m]? := fun m hm => f7 m (by omega)
    have up : ∀ m, H4.length ≤ m → H7[m]? = H6[m]? := fun m hm => f7 m (by omega)
    have C0 := (low h.length (by omega)).trans B0
    have C1 := (low (h.length + 1) (by omega)).trans B1
    have C2 := (low H.length (by omega)).trans B2
    have C3 := (low H2.length (by omega)).trans B3
    have rT : Rd (fun _ => True) H7 (dMsgs ms) two ∧ Rd (fun _ => True) H7 (dMsgs ms) want := ⟨OwnO.msgs (ot.kp (fun m hm hm' => up m hm)) no, OwnO.msgs (ow.kp (fun m hm hm' => up m (by omega))) no⟩
    have ha7 := RdL.mono (F' := fun m => m < h.length) (fun _ x => x) (fun m hm y hy => by rw [low m (by omega)]; exact hy) _ _ ha0
    have hb7 := RdL.mono (F' := fun m => m < h.length) (fun _ x => x) (fun m hm y hy => by rw [low m (by omega)]; exact hy) _ _ hb0
    have E7 : Ext nof h H7 := ⟨by have := E.1; omega, fun m hm hm' => (low m (by omega)).trans (E.2 m hm hm')⟩
    simp only [go_sem, reduceIte, Nat.reduceEqDiff, Nat.reduceAdd, Nat.reduceLeDiff, Nat.reducePow, Nat.reduceDiv, Nat.reduceMod, decide_true, k14, k15]
    refine use1 hsm.1 (hsm.2 _ _ H7 ms ms two want rT.1 rT.2 (by omega) small) ?_
    simp only [go_sem, reduceIte, Nat.reduceEqDiff, Nat.reduceAdd, Nat.reduceLeDiff, Nat.reducePow, Nat.reduceDiv, Nat.reduceMod, decide_true, e0, k8, k9, k11, k12, C0, C1, C2, C3]
    refine use1 hsl.1 (hsl.2 (fun m => m < h.length) H7 l l _ _ (RdL.mono (fun _ x => x.elim) (Keep.lt _ _) _ _ (rL H7)) ha7 (by have := ok.2.2.1; omega) ok.2.2.2) ?_
    simp only [go_sem, reduceIte, Nat.reduceEqDiff, Nat.reduceAdd, Nat.reduceLeDiff, Nat.reducePow, Nat.reduceDiv, Nat.reduceMod, decide_true, k8, k9, k11, k12, C0, C1, C2, C3]
    refine use1 hsc.1 (hsc.2 _ _ H7 c c _ _ (rC H7) hb7 few40) ?_
    simp only [go_sem, reduceIte, Nat.reduceEqDiff, Nat.reduceAdd, Nat.reduceLeDiff, Nat.reducePow, Nat.reduceDiv, Nat.reduceMod, decide_true]
    refine yes ?_
    simp only [go_sem, reduceIte, Nat.reduceEqDiff, Nat.reduceAdd, Nat.reduceLeDiff, Nat.reducePow, Nat.reduceDiv, Nat.reduceMod, decide_true]
    exact E7

end Glb

/-
  Layer 14: the law VoteKnown.
-/
namespace Glb
open Go
set_option maxRecDepth 10000
set_option maxHeartbeats 32000000

def ns14 : List Int := [-9223372036854775808, -1, 0, 1, 2, 3, 4, 5, 6, 7, 8, 9, 10, 9223372036854775807]
theorem ns_xorA : ∀ x ∈ ns14, xorv .i64 x 1 ≠ x := by decide
theorem ns_xor (i : Nat) (hi : i < 14) : xorv .i64 (ns14[i]'hi) 1 ≠ ns14[i]'hi := ns_xorA _ (List.getElem_mem _)
def logs3 : List (List AV) := [[.int .i64 5, .int .i64 2, aentries seven.es], [.int .i64 0, .int .i64 0, .nils], [.int .i64 7, .int .i64 3, .nils]]
theorem logs3_at (j : Nat) (hj : j < 3) : ∃ (lg : Log) (b t : Int) (e : AV), logs3[j]? = some [.int .i64 b, .int .i64 t, e] ∧ ∀ h, RdL nof h lg.c [.int .i64 b, .int .i64 t, e] := by
  have e0 : ∀ (h : AHeap) (n : Int), Rd nof h (.int .i64 n) (.int .i64 n) := fun h n => by simp only [Rd]
  have n1 : ∀ h, Rd nof h (dEntries []) .nils := fun h => by simp only [dEntries, Rd]; exact ⟨[], .inl ⟨rfl, rfl⟩, by simp only [List.map_nil, RdLL]⟩
  match j, hj with
  | 0, _ => exact ⟨seven, _, _, _, rfl, fun h => by have := rd_logv nof h seven; rwa [Log.v_eq] at this⟩
  | 1, _ => exact ⟨⟨0, 0, []⟩, _, _, _, rfl, fun h => ⟨_, _, rfl, e0 _ _, _, _, rfl, e0 _ _, _, _, rfl, n1 h, rfl⟩⟩
  | 2, _ => exact ⟨⟨7, 3, []⟩, _, _, _, rfl, fun h => ⟨_, _, rfl, e0 _ _, _, _, rfl, e0 _ _, _, _, rfl, n1 h, rfl⟩⟩

theorem ix_any (sz n len i : Nat) (cap : Option Nat) (k : IntKind) (hi : i < len) : aindex sz (.ref n sz 0 len cap) (.int k i) = some (.ptr n sz i 0) := by
  simp only [aindex]; rw [if_pos ⟨trivial, by omega, by omega⟩]; simp
theorem ld_agg {H : AHeap} {n i sz : Nat} {rows : List (List AV)} {g : Bool} {c : List AV} (hb : H[n]? = some (some (.arr sz rows g))) (hi : rows[i]? = some c) (hc : c.length = sz) : aload H true sz (.ptr n sz i 0) = some (.agg c) := by
  rw [aload_p (cs := c) (by simp [pcells, hb, hi]), take_agg, if_pos (by omega), List.take_of_length_le (by omega)]

theorem voteKnown_ok {P : Program} {f se as te on wh sk gr pi wo : FuncId} (hf : Is P f (c_glebelaw14_VoteKnown se as te on wh sk gr pi wo)) (hs : SevenOk P se) (ha : AskedOk P as) (ht : TellsOk P te) (ho : OnceOk P on) (hwh : WholeOk P wh) (hk : AskLawOk P sk) (hg : GrantsOk P gr) (hp : PickOk P pi) (hw : YesOk P wo) (h : AHeap) :
    ACalls P f [] h fun r _ => r = .bool true := by
  refine fun_sound hf.1 (Nat.le_of_ble_eq_true rfl) ?_
  show vc P (c_glebelaw14_VoteKnown se as te on wh sk gr pi wo).code ⟨[], [], h⟩ (atEnd (c_glebelaw14_VoteKnown se as te on wh sk gr pi wo).res _)
  simp only [c_glebelaw14_VoteKnown, go_sem, reduceIte, Nat.reduceEqDiff, Nat.reduceAdd, Nat.reduceLeDiff, Nat.reducePow, Nat.reduceDiv, Nat.reduceMod, decide_true]
  have B1 := bx10 h (some (.arr 1 (ns14.map fun n => [AV.int .i64 n]) false))
  have eN : ns14.map (fun n => [AV.int .i64 n]) = [[.int .i64 (-9223372036854775808)], [.int .i64 (-1)], [.int .i64 0], [.int .i64 1], [.int .i64 2], [.int .i64 3], [.int .i64 4], [.int .i64 5], [.int .i64 6], [.int .i64 7], [.int .i64 8], [.int .i64 9], [.int .i64 10], [.int .i64 9223372036854775807]] := rfl
  rw [← eN]
  have l1 : (h ++ [some (ABlk.arr 1 (ns14.map fun n => [AV.int .i64 n]) false)]).length = h.length + 1 := by simp
  generalize h ++ [some (ABlk.arr 1 (ns14.map fun n => [AV.int .i64 n]) false)] = H at *
  clear eN
  refine use1 hs.1 (hs.2 H) ?_
  have sv : seven.v = [.int .i64 5, .int .i64 2, aentries seven.es] := Log.v_eq _
  simp only [go_sem, reduceIte, Nat.reduceEqDiff, Nat.reduceAdd, Nat.reduceLeDiff, Nat.reducePow, Nat.reduceDiv, Nat.reduceMod, decide_true, sv, scalar_aentries, cells_aentries]
  have B1 := (Ext.b1 (h := H) (some (.arr 3 logs3 false))).get B1
  have B2 := bx10 H (some (.arr 3 logs3 false))
  obtain ⟨n1, hn1⟩ : ∃ n, h.length = n := ⟨_, rfl⟩
  obtain ⟨n2, hn2⟩ : ∃ n, H.length = n := ⟨_, rfl⟩
  rw [hn1] at B1 ⊢
  rw [hn2] at B2 ⊢
  change vc P _ ⟨_, _, H ++ [some (.arr 3 logs3 false)]⟩ _
  have l2 : (H ++ [some (ABlk.arr 3 logs3 false)]).length = n2 + 1 := by simp [hn2]
  generalize H ++ [some (ABlk.arr 3 logs3 false)] = H2 at *
  obtain ⟨I, hI⟩ : ∃ I : Nat → Env → AHeap → Prop, ∀ m L h', I m L h' ↔ ∃ i : Nat, lk 1 L = .ref n1 1 0 14 (some 14) ∧ lk 2 L = .ref n2 3 0 3 (some 3) ∧ lk 3 L = .int .i64 i ∧ h'[n1]? = some (some (.arr 1 (ns14.map fun n => [AV.int .i64 n]) false)) ∧ h'[n2]? = some (some (.arr 3 logs3 false)) ∧ i ≤ 14 ∧ m = 14 - i := ⟨_, fun _ _ _ => Iff.rfl⟩
  refine vc_loop I 14 ((hI _ _ _).2 ⟨0, by simp [lk_ins, lk_cons], by simp [lk_ins, lk_cons], by simp [lk_ins], B1, B2, by omega, by omega⟩) ?_
  clear B1 B2 l1 l2 sv
  intro m L H3 hh
  obtain ⟨i, k1, k2, k3, B1, B2, hi, rfl⟩ := (hI _ _ _).1 hh
  have la14 : ∀ n, alen (.ref n 1 0 14 (some 14)) = some (.int .i64 14) := fun _ => rfl
  have la3 : ∀ n, alen (.ref n 3 0 3 (some 3)) = some (.int .i64 3) := fun _ => rfl
  simp only [c_glebelaw14_VoteKnown_l2, go_sem, reduceIte, Nat.reduceEqDiff, Nat.reduceAdd, Nat.reduceLeDiff, Nat.reducePow, Nat.reduceDiv, Nat.reduceMod, decide_true, k1, k2, k3, la14]
  refine wCond_split (fun ci => ?_) (fun ci => ?_)
  · simp at ci
    have ci : i < 14 := by omega
    have xi := ix_lit n1 14 i (some 14) .i64 ci
    have vi : aload H3 false 1 (.ptr n1 1 i 0) = some (.int .i64 (ns14[i]'ci)) := ld_lit B1 ci
    simp only [go_sem, reduceIte, Nat.reduceEqDiff, Nat.reduceAdd, Nat.reduceLeDiff, Nat.reducePow, Nat.reduceDiv, Nat.reduceMod, decide_true]
    obtain ⟨J, hJ⟩ : ∃ J : Nat → Env → AHeap → Prop, ∀ m L h', J m L h' ↔ ∃ k : Nat, lk 1 L = .ref n1 1 0 14 (some 14) ∧ lk 2 L = .ref n2 3 0 3 (some 3) ∧ lk 3 L = .int .i64 i ∧ lk 4 L = .int .i64 k ∧ h' = H3 ∧ k ≤ 14 ∧ m = 14 - k := ⟨_, fun _ _ _ => Iff.rfl⟩
    refine vc_loop J 14 ((hJ _ _ _).2 ⟨0, by simp [lk_ins, k1], by simp [lk_ins, k2], by simp [lk_ins, k3], by simp [lk_ins], rfl, by omega, by omega⟩) ?_
    clear k1 k2 k3
    intro m L H4 hh
    obtain ⟨k, k1, k2, k3, k4, rfl, hk', rfl⟩ := (hJ _ _ _).1 hh
    simp only [c_glebelaw14_VoteKnown_l1, go_sem, reduceIte, Nat.reduceEqDiff, Nat.reduceAdd, Nat.reduceLeDiff, Nat.reducePow, Nat.reduceDiv, Nat.reduceMod, decide_true, k1, k2, k3, k4, la14]
    refine wCond_split (fun ck => ?_) (fun ck => ?_)
    · simp at ck
      have ck : k < 14 := by omega
      have xk := ix_lit n1 14 k (some 14) .i64 ck
      have vk : aload H4 false 1 (.ptr n1 1 k 0) = some (.int .i64 (ns14[k]'ck)) := ld_lit B1 ck
      simp only [go_sem, reduceIte, Nat.reduceEqDiff, Nat.reduceAdd, Nat.reduceLeDiff, Nat.reducePow, Nat.reduceDiv, Nat.reduceMod, decide_true]
      obtain ⟨Q, hQ⟩ : ∃ Q : Nat → Env → AHeap → Prop, ∀ m L h', Q m L h' ↔ ∃ j : Nat, lk 1 L = .ref n1 1 0 14 (some 14) ∧ lk 2 L = .ref n2 3 0 3 (some 3) ∧ lk 3 L = .int .i64 i ∧ lk 4 L = .int .i64 k ∧ lk 5 L = .int .i64 j ∧ h' = H4 ∧ j ≤ 3 ∧ m = 3 - j := ⟨_, fun _ _ _ => Iff.rfl⟩
      refine vc_loop Q 3 ((hQ _ _ _).2 ⟨0, by simp [lk_ins, k1], by simp [lk_ins, k2], by simp [lk_ins, k3], by simp [lk_ins, k4], by simp [lk_ins], rfl, by omega, by omega⟩) ?_
      clear k1 k2 k3 k4
      intro m L H5 hh
      obtain ⟨j, k1, k2, k3, k4, k5, rfl, hj, rfl⟩ := (hQ _ _ _).1 hh
      simp only [c_glebelaw14_VoteKnown_l0, go_sem, reduceIte, Nat.reduceEqDiff, Nat.reduceAdd, Nat.reduceLeDiff, Nat.reducePow, Nat.reduceDiv, Nat.reduceMod, decide_true, k1, k2, k3, k4, k5, la3]
      refine wCond_split (fun cj => ?_) (fun cj => ?_)
      · simp at cj
        have cj : j < 3 := by omega
        have xj := ix_any 3 n2 3 j (some 3) .i64 cj
        obtain ⟨lg, b, t, e, rj, rl⟩ := logs3_at j cj
        have vj : aload H5 true 3 (.ptr n2 3 j 0) = some (.agg [.int .i64 b, .int .i64 t, e]) := ld_agg B2 rj rfl
        have hx := ns_xor i ci
        generalize ns14[i]'ci = a at *
        generalize ns14[k]'ck = c at *
        have ew : IntKind.i64.wrap (↑j + 1) = (j : Int) + 1 := wrap_i64 (by omega)
        simp only [go_sem, reduceIte, Nat.reduceEqDiff, Nat.reduceAdd, Nat.reduceLeDiff, Nat.reducePow, Nat.reduceDiv, Nat.reduceMod, decide_true, k1, k2, k3, k4, k5, xi, xk, xj, vi, vk, vj]
        refine use1 ha.1 (ha.2 H5 2 5 a c) ?_
        simp only [go_sem, reduceIte, Nat.reduceEqDiff, Nat.reduceAdd, Nat.reduceLeDiff, Nat.reducePow, Nat.reduceDiv, Nat.reduceMod, decide_true, k1, k2, k3, k4, k5, xi, xk, xj, vi, vk, vj]
        refine use1 ht.1 (ht.2 nof nof H5 a 5 c lg (asked 2 5 a c) _ _ (rl _) (rd_asked _ _ _ _ _ _)) ?_
        simp only [go_sem, reduceIte, Nat.reduceEqDiff, Nat.reduceAdd, Nat.reduceLeDiff, Nat.reducePow, Nat.reduceDiv, Nat.reduceMod, decide_true, k1, k2, k3, k4, k5, xi, xk, xj, vi, vk, vj]
        refine use1 ha.1 (ha.2 H5 c 5 7 3) ?_
        simp only [go_sem, reduceIte, Nat.reduceEqDiff, Nat.reduceAdd, Nat.reduceLeDiff, Nat.reducePow, Nat.reduceDiv, Nat.reduceMod, decide_true, k1, k2, k3, k4, k5, xi, xk, xj, vi, vk, vj]
        refine use1 ht.1 (ht.2 nof nof H5 a a 0 lg (asked c 5 7 3) _ _ (rl _) (rd_asked _ _ _ _ _ _)) ?_
        simp only [go_sem, reduceIte, Nat.reduceEqDiff, Nat.reduceAdd, Nat.reduceLeDiff, Nat.reducePow, Nat.reduceDiv, Nat.reduceMod, decide_true, k1, k2, k3, k4, k5, xi, xk, xj, vi, vk, vj]
        refine use1 ha.1 (ha.2 H5 2 a c 3) ?_
        simp only [go_sem, reduceIte, Nat.reduceEqDiff, Nat.reduceAdd, Nat.reduceLeDiff, Nat.reducePow, Nat.reduceDiv, Nat.reduceMod, decide_true, k1, k2, k3, k4, k5, xi, xk, xj, vi, vk, vj]
        refine use1 ha.1 (ha.2 H5 c a 9 9) ?_
        simp only [go_sem, reduceIte, Nat.reduceEqDiff, Nat.reduceAdd, Nat.reduceLeDiff, Nat.reducePow, Nat.reduceDiv, Nat.reduceMod, decide_true, k1, k2, k3, k4, k5, xi, xk, xj, vi, vk, vj]
        refine use1 ho.1 (ho.2 nof nof nof H5 c a lg (asked 2 a c 3) (asked c a 9 9) _ _ _ (rl _) (rd_asked _ _ _ _ _ _) (rd_asked _ _ _ _ _ _) hx) ?_
        simp only [go_sem, reduceIte, Nat.reduceEqDiff, Nat.reduceAdd, Nat.reduceLeDiff, Nat.reducePow, Nat.reduceDiv, Nat.reduceMod, decide_true, k1, k2, k3, k4, k5, xi, xk, xj, vi, vk, vj]
        refine use1 ha.1 (ha.2 H5 2 5 a c) ?_
        simp only [go_sem, reduceIte, Nat.reduceEqDiff, Nat.reduceAdd, Nat.reduceLeDiff, Nat.reducePow, Nat.reduceDiv, Nat.reduceMod, decide_true, k1, k2, k3, k4, k5, xi, xk, xj, vi, vk, vj]
        refine use1 hwh.1 (hwh.2 nof nof H5 5 2 lg (asked 2 5 a c) c a _ _ (rl _) (rd_asked _ _ _ _ _ _)) ?_
        simp only [go_sem, reduceIte, Nat.reduceEqDiff, Nat.reduceAdd, Nat.reduceLeDiff, Nat.reducePow, Nat.reduceDiv, Nat.reduceMod, decide_true, k1, k2, k3, k4, k5, xi, xk, xj, vi, vk, vj, ew]
        exact ⟨_, by omega, (hQ _ _ _).2 ⟨j + 1, by simp [lk_ins, k1], by simp [lk_ins, k2], by simp [lk_ins, k3], by simp [lk_ins, k4], by simp [lk_ins], rfl, cj, rfl⟩⟩
      · have ew : IntKind.i64.wrap (↑k + 1) = (k : Int) + 1 := wrap_i64 (by omega)
        simp only [go_sem, reduceIte, Nat.reduceEqDiff, Nat.reduceAdd, Nat.reduceLeDiff, Nat.reducePow, Nat.reduceDiv, Nat.reduceMod, decide_true, k1, k2, k3, k4, k5, ew]
        exact ⟨_, by omega, (hJ _ _ _).2 ⟨k + 1, by simp [lk_ins, k1], by simp [lk_ins, k2], by simp [lk_ins, k3], by simp [lk_ins], rfl, ck, rfl⟩⟩
    · have ltn := (List.getElem?_eq_some_iff.1 B1).1
      have X3 : ∀ a b c, Ext nof H4 (H4 ++ [a] ++ [b] ++ [c]) := fun a b c => ((Ext.b1 (h := H4) a).tr (Ext.b1 b)).tr (Ext.b1 c)
      have vi3 : ∀ a b c, aload (H4 ++ [a] ++ [b] ++ [c]) false 1 (.ptr n1 1 i 0) = some (.int .i64 (ns14[i]'ci)) := fun a b c => ld_lit ((X3 a b c).get B1) ci
      have nr3 : notRes H4.length 3 (.ptr n1 1 i 0) = true := notRes_lt ltn
      have ew : IntKind.i64.wrap (↑i + 1) = (i : Int) + 1 := wrap_i64 (by omega)
      generalize ns14[i]'ci = a at *
      simp only [go_sem, reduceIte, Nat.reduceEqDiff, Nat.reduceAdd, Nat.reduceLeDiff, Nat.reducePow, Nat.reduceDiv, Nat.reduceMod, decide_true, k1, k2, k3, k4, xi, vi3, nr3, loose_cons]
      refine use1 hs.1 (hs.2 _) ?_
      simp only [go_sem, reduceIte, Nat.reduceEqDiff, Nat.reduceAdd, Nat.reduceLeDiff, Nat.reducePow, Nat.reduceDiv, Nat.reduceMod, decide_true, k1, k2, k3, k4, xi, vi3, nr3, loose_cons]
      refine ⟨by simp, ?_⟩
      have rc : RdL (fun _ => True) (H4 ++ [some (.arr 1 [[.int .i64 1], [.int .i64 2], [.int .i64 3]] false)] ++ [some (.arr 1 [[.int .i64 3], [.int .i64 5]] false)] ++ [some (.arr 1 [[.int .i64 7]] false)]) (⟨[1, 2, 3], [3, 5], [7]⟩ : Conf).c [.ref H4.length 1 0 3 (some 3), .ref (H4.length + 1) 1 0 2 (some 2), .ref (H4.length + 2) 1 0 1 (some 1)] :=
        ⟨_, _, rfl, rd_lit (k := .i64) (xs := [1, 2, 3]) (bx30 H4 _ _ _) rfl, _, _, rfl, rd_lit (k := .i64) (xs := [3, 5]) (bx31 H4 _ _ _) rfl, _, _, rfl, rd_lit (k := .i64) (xs := [7]) (bx32 H4 _ _ _) rfl, rfl⟩
      refine use1 hk.1 (hk.2 nof (fun _ => True) _ a a a seven ⟨[1, 2, 3], [3, 5], [7]⟩ _ _ (rd_logv _ _ _) rc) ?_
      simp only [go_sem, reduceIte, Nat.reduceEqDiff, Nat.reduceAdd, Nat.reduceLeDiff, Nat.reducePow, Nat.reduceDiv, Nat.reduceMod, decide_true, k1, k2, k3, k4, xi, vi3, nr3, loose_cons]
      have n1' : ∀ h, Rd nof h (dInts []) .nils := fun h => by simp only [dInts, Rd]; exact ⟨[], .inl ⟨rfl, rfl⟩, by simp only [List.map_nil, RdLL]⟩
      have n3' : ∀ h, Rd nof h (dEntries []) .nils := fun h => by simp only [dEntries, Rd]; exact ⟨[], .inl ⟨rfl, rfl⟩, by simp only [List.map_nil, RdLL]⟩
      have e0 : ∀ (h : AHeap) (n : Int), Rd nof h (.int .i64 n) (.int .i64 n) := fun h n => by simp only [Rd]
      refine ⟨by simp [isFree], ?_⟩
      refine use1 hk.1 (hk.2 nof nof _ a 0 0 ⟨0, 0, []⟩ ⟨[], [], []⟩ _ _ ⟨_, _, rfl, e0 _ _, _, _, rfl, e0 _ _, _, _, rfl, n3' _, rfl⟩ ⟨_, _, rfl, n1' _, _, _, rfl, n1' _, _, _, rfl, n1' _, rfl⟩) ?_
      simp only [go_sem, reduceIte, Nat.reduceEqDiff, Nat.reduceAdd, Nat.reduceLeDiff, Nat.reducePow, Nat.reduceDiv, Nat.reduceMod, decide_true, k1, k2, k3, k4, xi, vi3, nr3, loose_cons, ew]
      refine ⟨by simp [isFree], ?_⟩
      exact ⟨_, by omega, (hI _ _ _).2 ⟨i + 1, by simp [lk_ins, k1], by simp [lk_ins, k2], by simp [lk_ins], (X3 _ _ _).get B1, (X3 _ _ _).get B2, ci, rfl⟩⟩
  · have em : mrow (asked 2 5 7 3) = [.int .i64 1, .int .i64 2, .int .i64 1, .int .i64 0, .int .i64 5, .int .i64 7, .int .i64 3, .int .i64 0, .int .i64 0, .int .i64 0, .int .i64 0, .int .i64 0, .int .i64 0, .int .i64 0, .bool false, .nils, .nils] := rfl
    have em2 : mrow ⟨2, 2, 1, 0, 5, 7, 3, 0, 0, 0, 0, 0, 0, 0, false, [], []⟩ = [.int .i64 2, .int .i64 2, .int .i64 1, .int .i64 0, .int .i64 5, .int .i64 7, .int .i64 3, .int .i64 0, .int .i64 0, .int .i64 0, .int .i64 0, .int .i64 0, .int .i64 0, .int .i64 0, .bool false, .nils, .nils] := rfl
    simp only [go_sem, reduceIte, Nat.reduceEqDiff, Nat.reduceAdd, Nat.reduceLeDiff, Nat.reducePow, Nat.reduceDiv, Nat.reduceMod, decide_true, k1, k2, k3]
    refine use1 ha.1 (ha.2 H3 2 5 7 3) ?_
    simp only [go_sem, reduceIte, Nat.reduceEqDiff, Nat.reduceAdd, Nat.reduceLeDiff, Nat.reducePow, Nat.reduceDiv, Nat.reduceMod, decide_true, em]
    rw [← em2]
    have rm : ∀ h, RdL nof h (⟨2, 2, 1, 0, 5, 7, 3, 0, 0, 0, 0, 0, 0, 0, false, [], []⟩ : Msg).c (mrow ⟨2, 2, 1, 0, 5, 7, 3, 0, 0, 0, 0, 0, 0, 0, false, [], []⟩) := fun h => rd_mrow nof h rfl rfl
    have g1 : grants 5 0 seven ⟨2, 2, 1, 0, 5, 7, 3, 0, 0, 0, 0, 0, 0, 0, false, [], []⟩ = false := by decide
    have g2 : grants 5 2 seven (asked 2 5 7 3) = true := by decide
    have g3 : grants 5 1 seven (asked 2 5 7 3) = false := by decide
    have g4 : grants 5 0 seven (asked 2 5 1 4) = true := by decide
    have g5 : grants 5 0 seven (asked 2 5 9 2) = false := by decide
    have p0 : pick 0 1 = 0 := by decide
    have B6 := bx10 H3 (some (.arr 17 [mrow ⟨2, 2, 1, 0, 5, 7, 3, 0, 0, 0, 0, 0, 0, 0, false, [], []⟩] false))
    generalize H3 ++ [some (ABlk.arr 17 [mrow ⟨2, 2, 1, 0, 5, 7, 3, 0, 0, 0, 0, 0, 0, 0, false, [], []⟩] false)] = H6 at *
    have lm : (mrow ⟨2, 2, 1, 0, 5, 7, 3, 0, 0, 0, 0, 0, 0, 0, false, [], []⟩).length = 17 := rfl
    have tk : List.take 17 (mrow ⟨2, 2, 1, 0, 5, 7, 3, 0, 0, 0, 0, 0, 0, 0, false, [], []⟩) = (mrow ⟨2, 2, 1, 0, 5, 7, 3, 0, 0, 0, 0, 0, 0, 0, false, [], []⟩) := rfl
    refine use1 hs.1 (hs.2 H6) ?_
    simp only [go_sem, reduceIte, Nat.reduceEqDiff, Nat.reduceAdd, Nat.reduceLeDiff, Nat.reducePow, Nat.reduceDiv, Nat.reduceMod, decide_true, B6, lm, tk]
    refine use1 hg.1 (hg.2 nof nof H6 5 0 seven ⟨2, 2, 1, 0, 5, 7, 3, 0, 0, 0, 0, 0, 0, 0, false, [], []⟩ _ _ (rd_logv _ _ _) (rm _) seven_log) ?_
    simp only [go_sem, reduceIte, Nat.reduceEqDiff, Nat.reduceAdd, Nat.reduceLeDiff, Nat.reducePow, Nat.reduceDiv, Nat.reduceMod, decide_true, g1, B6, lm, tk]
    refine use1 hs.1 (hs.2 H6) ?_
    simp only [go_sem, reduceIte, Nat.reduceEqDiff, Nat.reduceAdd, Nat.reduceLeDiff, Nat.reducePow, Nat.reduceDiv, Nat.reduceMod, decide_true]
    refine use1 ha.1 (ha.2 H6 2 5 7 3) ?_
    simp only [go_sem, reduceIte, Nat.reduceEqDiff, Nat.reduceAdd, Nat.reduceLeDiff, Nat.reducePow, Nat.reduceDiv, Nat.reduceMod, decide_true]
    refine use1 hg.1 (hg.2 nof nof H6 5 2 seven (asked 2 5 7 3) _ _ (rd_logv _ _ _) (rd_asked _ _ _ _ _ _) seven_log) ?_
    simp only [go_sem, reduceIte, Nat.reduceEqDiff, Nat.reduceAdd, Nat.reduceLeDiff, Nat.reducePow, Nat.reduceDiv, Nat.reduceMod, decide_true, g2]
    refine use1 hs.1 (hs.2 H6) ?_
    simp only [go_sem, reduceIte, Nat.reduceEqDiff, Nat.reduceAdd, Nat.reduceLeDiff, Nat.reducePow, Nat.reduceDiv, Nat.reduceMod, decide_true]
    refine use1 ha.1 (ha.2 H6 2 5 7 3) ?_
    simp only [go_sem, reduceIte, Nat.reduceEqDiff, Nat.reduceAdd, Nat.reduceLeDiff, Nat.reducePow, Nat.reduceDiv, Nat.reduceMod, decide_true]
    refine use1 hg.1 (hg.2 nof nof H6 5 1 seven (asked 2 5 7 3) _ _ (rd_logv _ _ _) (rd_asked _ _ _ _ _ _) seven_log) ?_
    simp only [go_sem, reduceIte, Nat.reduceEqDiff, Nat.reduceAdd, Nat.reduceLeDiff, Nat.reducePow, Nat.reduceDiv, Nat.reduceMod, decide_true, g3]
    refine use1 hs.1 (hs.2 H6) ?_
    simp only [go_sem, reduceIte, Nat.reduceEqDiff, Nat.reduceAdd, Nat.reduceLeDiff, Nat.reducePow, Nat.reduceDiv, Nat.reduceMod, decide_true]
    refine use1 ha.1 (ha.2 H6 2 5 1 4) ?_
    simp only [go_sem, reduceIte, Nat.reduceEqDiff, Nat.reduceAdd, Nat.reduceLeDiff, Nat.reducePow, Nat.reduceDiv, Nat.reduceMod, decide_true]
    refine use1 hg.1 (hg.2 nof nof H6 5 0 seven (asked 2 5 1 4) _ _ (rd_logv _ _ _) (rd_asked _ _ _ _ _ _) seven_log) ?_
    simp only [go_sem, reduceIte, Nat.reduceEqDiff, Nat.reduceAdd, Nat.reduceLeDiff, Nat.reducePow, Nat.reduceDiv, Nat.reduceMod, decide_true, g4]
    refine use1 hs.1 (hs.2 H6) ?_
    simp only [go_sem, reduceIte, Nat.reduceEqDiff, Nat.reduceAdd, Nat.reduceLeDiff, Nat.reducePow, Nat.reduceDiv, Nat.reduceMod, decide_true]
    refine use1 ha.1 (ha.2 H6 2 5 9 2) ?_
    simp only [go_sem, reduceIte, Nat.reduceEqDiff, Nat.reduceAdd, Nat.reduceLeDiff, Nat.reducePow, Nat.reduceDiv, Nat.reduceMod, decide_true]
    refine use1 hg.1 (hg.2 nof nof H6 5 0 seven (asked 2 5 9 2) _ _ (rd_logv _ _ _) (rd_asked _ _ _ _ _ _) seven_log) ?_
    simp only [go_sem, reduceIte, Nat.reduceEqDiff, Nat.reduceAdd, Nat.reduceLeDiff, Nat.reducePow, Nat.reduceDiv, Nat.reduceMod, decide_true, g5]
    refine (hp.2 0 1 (by decide)).use hp.1 ?_
    simp only [go_sem, reduceIte, Nat.reduceEqDiff, Nat.reduceAdd, Nat.reduceLeDiff, Nat.reducePow, Nat.reduceDiv, Nat.reduceMod, decide_true, p0]
    refine use1 hw.1 (hw.2 H6) ?_
    simp only [go_sem, reduceIte, Nat.reduceEqDiff, Nat.reduceAdd, Nat.reduceLeDiff, Nat.reducePow, Nat.reduceDiv, Nat.reduceMod, decide_true]

end Glb
