/-
  A library of its own: its parts, one behind the other.
-/
import Derived.Test.YtcegihlhpmdbnaaGreatGlbLibD
import Derived.Test.YtcegihlhpmdbnaaGreatGlbKitA
import Derived.Test.YtcegihlhpmdbnaaGreatGlbLibB
import Derived.Test.YtcegihlhpmdbnaaGreatGlbLibE
set_option linter.unusedSimpArgs false
set_option linter.unusedVariables false
/-
  A list of one's own that is appended to, whatever else is one's own.
-/
namespace Glb
open Go

end Glb

/-
  Numbers, bytes and lists as bytes.
-/
namespace Glb
open Go
set_option maxRecDepth 10000
set_option maxHeartbeats 4000000

/-- a byte of a number, from above -/
def byteOf (v : Int) (k : Nat) : Int := IntKind.u8.wrap ((IntKind.u64.wrap v).fdiv (2 ^ (8 * (7 - k))))
/-- a number as bytes -/
def num (v : Int) : List Int := [byteOf v 0, byteOf v 1, byteOf v 2, byteOf v 3, byteOf v 4, byteOf v 5, byteOf v 6, byteOf v 7]

theorem num_length (v : Int) : (num v).length = 8 := rfl
/-- a new row of so many -/
def amks (h : AHeap) (sz bytes : Nat) (zero : List AV) : AV → AV → Option (AV × AHeap)
  | .int _ l, .int _ c => if 0 ≤ l ∧ l ≤ c ∧ c * bytes ≤ 2 ^ 46 then some (.ref h.length sz 0 l.toNat (some c.toNat), h ++ [some (.arr sz (List.replicate c.toNat zero) false)]) else none
  | _, _ => none
theorem hev_mks (g : Opd → AV) (h : AHeap) (sz bytes : Nat) (zero : List AV) (l c : Opd) : hev g h (.mks sz bytes zero l c) = amks h sz bytes zero (g l) (g c) := by
  simp only [hev, lightOf, amks]
  generalize g l = x
  generalize g c = y
  cases x <;> cases y <;> simp only
  rename_i k l k' c
  by_cases q : 0 ≤ l ∧ l ≤ c ∧ c * (bytes : Int) ≤ 2 ^ 46
  · rw [if_pos q, if_pos q]
  · rw [if_neg q, if_neg q]
theorem amks_int {h : AHeap} {sz bytes : Nat} {zero : List AV} {k k' : IntKind} {l c : Int} (h0 : 0 ≤ l) (h1 : l ≤ c) (h2 : c * bytes ≤ 2 ^ 46) :
    amks h sz bytes zero (.int k l) (.int k' c) = some (.ref h.length sz 0 l.toNat (some c.toNat), h ++ [some (.arr sz (List.replicate c.toNat zero) false)]) := by
  simp only [amks]; rw [if_pos ⟨h0, h1, h2⟩]

theorem own_ints1 {n : IntKind} {F G : Nat → Prop} {h h' : AHeap} : ∀ {l : List Int} {ys : List (List AV)}, RdLL F h (l.map fun x => [.int n x]) ys → OwnLL (l.map fun x => [.int n x]) G h' ys := by
  intro l
  induction l with
  | nil => intro ys hh; simpa [RdLL, OwnLL] using hh
  | cons x l ih =>
    intro ys hh
    simp only [List.map_cons, RdLL] at hh
    obtain ⟨e, r, rfl, h1, h2⟩ := hh
    simp only [RdL, Rd] at h1
    obtain ⟨_, _, rfl, rfl, rfl⟩ := h1
    simp only [List.map_cons, OwnLL]
    exact ⟨_, _, rfl, ⟨_, _, rfl, by simp only [Own], rfl⟩, ih h2⟩

/-- numbers as bytes -/
def nums : List Int → List Int
  | [] => []
  | x :: r => num x ++ nums r
theorem nums_length : ∀ (a : List Int), (nums a).length = 8 * a.length
  | [] => rfl
  | x :: r => by simp only [nums, List.length_append, num_length, nums_length r, List.length_cons]; omega

end Glb

/-
  Numbers, bytes and lists as bytes: the document's answer.
-/
namespace Glb
open Go
set_option maxRecDepth 10000
set_option maxHeartbeats 4000000

theorem wrap_u8 (x : Int) : IntKind.u8.wrap x = x % 256 := by
  simp [IntKind.wrap, IntKind.bits, IntKind.signed]
theorem wrap_u64 (x : Int) : IntKind.u64.wrap x = x % 18446744073709551616 := by
  simp [IntKind.wrap, IntKind.bits, IntKind.signed]

/-- from below -/
theorem byteOf_low (v : Int) (k : Nat) (hk : k ≤ 7) : byteOf v (7 - k) = (IntKind.u64.wrap v / 256 ^ k) % 256 := by
  rw [byteOf, wrap_u8, Int.fdiv_eq_ediv_of_nonneg _ (Int.le_of_lt (Int.pow_pos (by decide))), show 7 - (7 - k) = k by omega, Int.pow_mul]
  rfl

structure Conf where
  old : List Int
  new : List Int
  learners : List Int
  deriving DecidableEq

def Conf.c (x : Conf) : List D := [dInts x.old, dInts x.new, dInts x.learners]
/-- members as bytes -/
def Conf.bytes (x : Conf) : List Int := num x.old.length ++ nums x.old ++ (num x.new.length ++ nums x.new) ++ (num x.learners.length ++ nums x.learners)

end Glb

/-
  Members, and what a member of a group must not forget: big, copied.
-/
namespace Glb
open Go
set_option maxRecDepth 10000
set_option maxHeartbeats 4000000

theorem rd_conf {x : Conf} {F : Nat → Prop} {h : AHeap} {a : List AV} (hh : RdL F h x.c a) : ∃ o n e, a = [o, n, e] ∧ Rd F h (dInts x.old) o ∧ Rd F h (dInts x.new) n ∧ Rd F h (dInts x.learners) e := by
  simp only [Conf.c, RdL] at hh
  obtain ⟨o, _, rfl, ho, n, _, rfl, hn, e, _, rfl, he, rfl⟩ := hh
  exact ⟨o, n, e, rfl, ho, hn, he⟩

def BigConfOk (P : Program) (f : FuncId) : Prop :=
  isFn P f = true ∧ ∀ (F : Nat → Prop) (h : AHeap) (x : Conf) (a : List AV) (items : Int), RdL F h x.c a →
    ACalls P f [.agg a, .int .i64 items] h fun r h' => ∃ b, r = .bool b ∧ h' = h ∧ (b = false → (x.old.length : Int) ≤ items ∧ (x.new.length : Int) ≤ items ∧ (x.learners.length : Int) ≤ items)

theorem BigConf_ok {P : Program} {f : FuncId} (hf : Is P f c_glebekit_BigConf) : BigConfOk P f := by
  refine ⟨hf.2, fun F h x a items ha => (ACalls.trunc (K := fun r h' => Ext nof h h' ∧ ∃ b, r = .bool b ∧ (b = false → (x.old.length : Int) ≤ items ∧ (x.new.length : Int) ≤ items ∧ (x.learners.length : Int) ≤ items))
    (K' := fun r => ∃ b, r = .bool b ∧ (b = false → (x.old.length : Int) ≤ items ∧ (x.new.length : Int) ≤ items ∧ (x.learners.length : Int) ≤ items)) (fun_sound hf.1 (Nat.le_of_ble_eq_true rfl) ?_)
    (fun r h' hk => ⟨hk.1, by obtain ⟨b, rfl, _⟩ := hk.2; exact upto_bool _ _, hk.2⟩)).mono fun r h' hk => let ⟨b, h1, h2⟩ := hk.2; ⟨b, h1, hk.1, h2⟩⟩
  show vc P c_glebekit_BigConf.code ⟨[(0, .agg a), (1, .int .i64 items)], [], h⟩ (atEnd c_glebekit_BigConf.res _)
  obtain ⟨o, n, e, rfl, ho, hn, he⟩ := rd_conf ha
  have lo := ho.len
  have ln := hn.len
  have le := he.len
  simp only [List.length_map] at lo ln le
  simp only [c_glebekit_BigConf, go_sem, reduceIte, Nat.reduceEqDiff, Nat.reduceAdd, Nat.reduceLeDiff, Nat.reducePow, Nat.reduceDiv, Nat.reduceMod, decide_true, ho.scalar, hn.scalar, he.scalar, lo]
  by_cases c1 : items < (x.old.length : Int)
  · simp only [go_sem, reduceIte, Nat.reduceEqDiff, Nat.reduceAdd, Nat.reduceLeDiff, Nat.reducePow, Nat.reduceDiv, Nat.reduceMod, decide_true, decide_eq_true c1]
    exact ⟨Ext.b1 _, _, rfl, fun e => by cases e⟩
  · simp only [go_sem, reduceIte, Nat.reduceEqDiff, Nat.reduceAdd, Nat.reduceLeDiff, Nat.reducePow, Nat.reduceDiv, Nat.reduceMod, decide_true, decide_eq_false c1, ln]
    by_cases c2 : items < (x.new.length : Int)
    · simp only [go_sem, reduceIte, Nat.reduceEqDiff, Nat.reduceAdd, Nat.reduceLeDiff, Nat.reducePow, Nat.reduceDiv, Nat.reduceMod, decide_true, decide_eq_true c2]
      exact ⟨Ext.b1 _, _, rfl, fun e => by cases e⟩
    · simp only [go_sem, reduceIte, Nat.reduceEqDiff, Nat.reduceAdd, Nat.reduceLeDiff, Nat.reducePow, Nat.reduceDiv, Nat.reduceMod, decide_true, decide_eq_false c2, le]
      exact ⟨Ext.b1 _, _, rfl, fun e => ⟨by omega, by omega, by simpa using e⟩⟩

def CopyConfOk (P : Program) (f : FuncId) : Prop :=
  isFn P f = true ∧ ∀ (F : Nat → Prop) (h : AHeap) (x : Conf) (a : List AV), RdL F h x.c a → x.old.length ≤ 2^40 → x.new.length ≤ 2^40 → x.learners.length ≤ 2^40 →
    ACalls P f [.agg a] h fun r h' => ∃ o n e, r = .agg [o, n, e] ∧ Own (dInts x.old) (fun k => h.length ≤ k) h' o ∧ Own (dInts x.new) (fun k => h.length ≤ k) h' n ∧ Own (dInts x.learners) (fun k => h.length ≤ k) h' e ∧ Ext nof h h'

theorem CopyConf_ok {P : Program} {f g : FuncId} (hf : Is P f (c_glebekit_CopyConf g)) (hg : CopyOk P g .i64) : CopyConfOk P f := by
  refine ⟨hf.2, fun F h x a ha l1 l2 l3 => fun_sound hf.1 (Nat.le_of_ble_eq_true rfl) ?_⟩
  show vc P (c_glebekit_CopyConf g).code ⟨[(0, .agg a)], [], h⟩ (atEnd (c_glebekit_CopyConf g).res _)
  obtain ⟨o, n, e, rfl, ho, hn, he⟩ := rd_conf ha
  simp only [c_glebekit_CopyConf, go_sem, reduceIte, Nat.reduceEqDiff, Nat.reduceAdd, Nat.reduceLeDiff, Nat.reducePow, Nat.reduceDiv, Nat.reduceMod, decide_true, ho.scalar, hn.scalar, he.scalar]
  have A0 := bx20 h (some (.arr 3 [[o, n, e]] false)) (some (.arr 3 [[.nils, .nils, .nils]] false))
  have B0 := bx21 h (some (.arr 3 [[o, n, e]] false)) (some (.arr 3 [[.nils, .nils, .nils]] false))
  have x0 := Ext.b2 (h := h) (some (.arr 3 [[o, n, e]] false)) (some (.arr 3 [[.nils, .nils, .nils]] false))
  have ho0 := ho.up x0
  have hn0 := hn.up x0
  have he0 := he.up x0
  refine wCall_use ⟨hg.1, hg.2 F _ x.old o ho0 l1⟩ ?_
  rintro o' g1 ⟨o1, _, x1⟩
  have A1 := x1.get A0
  have B1 := x1.get B0
  simp only [go_sem, reduceIte, Nat.reduceEqDiff, Nat.reduceAdd, Nat.reduceLeDiff, Nat.reducePow, Nat.reduceDiv, Nat.reduceMod, decide_true, A1]
  refine wCall_use ⟨hg.1, hg.2 F _ x.new n (hn0.up x1) l2⟩ ?_
  rintro n' g2 ⟨n2, _, x2⟩
  have A2 := x2.get A1
  have B2 := x2.get B1
  simp only [go_sem, reduceIte, Nat.reduceEqDiff, Nat.reduceAdd, Nat.reduceLeDiff, Nat.reducePow, Nat.reduceDiv, Nat.reduceMod, decide_true, A1, A2]
  refine wCall_use ⟨hg.1, hg.2 F _ x.learners e ((he0.up x1).up x2) l3⟩ ?_
  rintro e' g3 ⟨e3, _, x3⟩
  have A3 := x3.get A2
  have B3 := x3.get B2
  have lB := (List.getElem?_eq_some_iff.1 B3).1
  simp only [go_sem, reduceIte, Nat.reduceEqDiff, Nat.reduceAdd, Nat.reduceLeDiff, Nat.reducePow, Nat.reduceDiv, Nat.reduceMod, decide_true, A2, A3, B3, o1.scalar, n2.scalar, e3.scalar, cells_of o1.scalar, cells_of n2.scalar, cells_of e3.scalar, lB]
  have q0 := x0.1
  have q1 := x1.1
  have q2 := x2.1
  simp only [List.length_append, List.length_cons, List.length_nil] at q0 q1
  have st : ∀ {d : D} {G : Nat → Prop} {av : AV}, Own d G g3 av → (∀ m, G m → h.length + 2 ≤ m) → Own d (fun k => h.length ≤ k) (g3.set (h.length + 1) (some (.arr 3 [[o', n', e']] false))) av := fun hh hG =>
    Own.mono _ (fun m hm => by have := hG m hm; omega) (fun m hm y hy => by have := hG m hm; rw [List.getElem?_set_ne (by omega)]; exact hy) _ hh
  refine ⟨o', n', e', rfl, st ((o1.up x2).up x3) (fun m hm => ?_), st (n2.up x3) (fun m hm => ?_), st e3 (fun m hm => ?_), (((x0.tr x1).tr x2).tr x3).setNew (by omega) _⟩
  · simp only [List.length_append, List.length_cons, List.length_nil] at hm; omega
  · omega
  · omega

structure Hard where
  group : Int
  term : Int
  vote : Int
  log : Log
  conf : Conf
  snap : List Int
  deriving DecidableEq

def Hard.c (x : Hard) : List D := [.int .i64 x.group, .int .i64 x.term, .int .i64 x.vote, .int .i64 x.log.base, .int .i64 x.log.bterm, dEntries x.log.es, dInts x.conf.old, dInts x.conf.new, dInts x.conf.learners, dBytes x.snap]
def Hard.cells (x : Hard) (e o n l s : AV) : List AV := [.int .i64 x.group, .int .i64 x.term, .int .i64 x.vote, .int .i64 x.log.base, .int .i64 x.log.bterm, e, o, n, l, s]

theorem rd_hard {x : Hard} {F : Nat → Prop} {h : AHeap} {a : List AV} (hh : RdL F h x.c a) : ∃ e o n l s, a = x.cells e o n l s ∧ Rd F h (dEntries x.log.es) e ∧ Rd F h (dInts x.conf.old) o ∧ Rd F h (dInts x.conf.new) n ∧ Rd F h (dInts x.conf.learners) l ∧ Rd F h (dBytes x.snap) s := by
  simp only [Hard.c, rdL_int] at hh
  obtain ⟨_, rfl, _, rfl, _, rfl, _, rfl, _, rfl, hh⟩ := hh
  simp only [RdL] at hh
  obtain ⟨e, _, rfl, he, o, _, rfl, ho, n, _, rfl, hn, l, _, rfl, hl, s, _, rfl, hs, rfl⟩ := hh
  exact ⟨e, o, n, l, s, rfl, he, ho, hn, hl, hs⟩

theorem conf_rd {x : Conf} {F : Nat → Prop} {h : AHeap} {o n l : AV} (ho : Rd F h (dInts x.old) o) (hn : Rd F h (dInts x.new) n) (hl : Rd F h (dInts x.learners) l) : RdL F h x.c [o, n, l] := by
  simp only [Conf.c, RdL]
  exact ⟨o, _, rfl, ho, n, _, rfl, hn, l, _, rfl, hl, rfl⟩

def Hard.small (x : Hard) (items bytes : Int) : Prop := (x.log.es.length ≤ items.toNat ∧ ∀ e ∈ x.log.es, e.data.length ≤ bytes.toNat) ∧ ((x.conf.old.length : Int) ≤ items ∧ (x.conf.new.length : Int) ≤ items ∧ (x.conf.learners.length : Int) ≤ items) ∧ (x.snap.length : Int) ≤ bytes

def BigHardOk (P : Program) (f : FuncId) : Prop :=
  isFn P f = true ∧ ∀ (F : Nat → Prop) (h : AHeap) (x : Hard) (a : List AV) (items bytes : Int), RdL F h x.c a → 0 ≤ items ∧ items ≤ 2^40 → 0 ≤ bytes ∧ bytes ≤ 2^40 →
    ACalls P f [.agg a, .int .i64 items, .int .i64 bytes] h fun r h' => ∃ b, r = .bool b ∧ h' = h ∧ (b = false → x.small items bytes)

theorem BigHard_ok {P : Program} {f g k : FuncId} (hf : Is P f (c_glebekit_BigHard g k)) (hg : BigEntriesOk P g) (hk : BigConfOk P k) : BigHardOk P f := by
  refine ⟨hf.2, fun F h x a items bytes ha hi hb => (ACalls.trunc (K := fun r h' => Ext nof h h' ∧ ∃ b, r = .bool b ∧ (b = false → x.small items bytes)) (K' := fun r => ∃ b, r = .bool b ∧ (b = false → x.small items bytes)) (fun_sound hf.1 (Nat.le_of_ble_eq_true rfl) ?_)
    (fun r h' hk => ⟨hk.1, by obtain ⟨b, rfl, _⟩ := hk.2; exact upto_bool _ _, hk.2⟩)).mono fun r h' hk => let ⟨b, h1, h2⟩ := hk.2; ⟨b, h1, hk.1, h2⟩⟩
  show vc P (c_glebekit_BigHard g k).code ⟨[(0, .agg a), (1, .int .i64 items), (2, .int .i64 bytes)], [], h⟩ (atEnd (c_glebekit_BigHard g k).res _)
  obtain ⟨e, o, n, l, s, rfl, he, ho, hn, hl, hs⟩ := rd_hard ha
  have ls := hs.len
  simp only [List.length_map] at ls
  simp only [c_glebekit_BigHard, Hard.cells, go_sem, reduceIte, Nat.reduceEqDiff, Nat.reduceAdd, Nat.reduceLeDiff, Nat.reducePow, Nat.reduceDiv, Nat.reduceMod, decide_true, he.scalar, ho.scalar, hn.scalar, hl.scalar, hs.scalar]
  refine wCall_use ⟨hg.1, hg.2 F _ x.log.es _ items bytes (he.up (Ext.b1 _)) hi hb⟩ ?_
  rintro _ _ ⟨b1, rfl, rfl, hb1⟩
  cases b1
  · simp only [go_sem, reduceIte, Nat.reduceEqDiff, Nat.reduceAdd, Nat.reduceLeDiff, Nat.reducePow, Nat.reduceDiv, Nat.reduceMod, decide_true]
    refine wCall_use ⟨hk.1, hk.2 F _ x.conf _ items ((conf_rd ho hn hl).up (Ext.b1 _))⟩ ?_
    rintro _ _ ⟨b2, rfl, rfl, hb2⟩
    cases b2
    · simp only [go_sem, reduceIte, Nat.reduceEqDiff, Nat.reduceAdd, Nat.reduceLeDiff, Nat.reducePow, Nat.reduceDiv, Nat.reduceMod, decide_true, ls]
      exact ⟨Ext.b1 _, _, rfl, fun e => ⟨hb1 rfl, hb2 rfl, by simpa using e⟩⟩
    · simp only [go_sem, reduceIte, Nat.reduceEqDiff, Nat.reduceAdd, Nat.reduceLeDiff, Nat.reducePow, Nat.reduceDiv, Nat.reduceMod, decide_true]
      exact ⟨Ext.b1 _, _, rfl, fun e => by cases e⟩
  · simp only [go_sem, reduceIte, Nat.reduceEqDiff, Nat.reduceAdd, Nat.reduceLeDiff, Nat.reducePow, Nat.reduceDiv, Nat.reduceMod, decide_true]
    exact ⟨Ext.b1 _, _, rfl, fun e => by cases e⟩

end Glb

/-
  Calls whose answers are plain data: bytes, numbers, entries, logs, members, what a member must not forget, messages.
-/
namespace Glb
open Go
set_option maxRecDepth 10000
set_option maxHeartbeats 4000000

mutual
theorem upto_av (k : Nat) : ∀ d : D, d.av.upto k = true
  | .int i n => by simp only [D.av, AV.upto]
  | .bool b => by simp only [D.av, AV.upto]
  | .str s => by simp only [D.av, AV.upto]
  | .sl sz es => by simp only [D.av, AV.upto, uptoLL_av k es, Nat.zero_le, decide_true, Bool.or_true, Bool.and_self]
theorem uptoL_av (k : Nat) : ∀ l : List D, AV.uptoL k (D.avL l) = true
  | [] => by simp only [D.avL, AV.uptoL]
  | d :: r => by simp only [D.avL, AV.uptoL, upto_av k d, uptoL_av k r, Bool.and_self]
theorem uptoLL_av (k : Nat) : ∀ l : List (List D), AV.uptoLL k (D.avLL l) = true
  | [] => by simp only [D.avLL, AV.uptoLL]
  | d :: r => by simp only [D.avLL, AV.uptoLL, uptoL_av k d, uptoLL_av k r, Bool.and_self]
end
theorem upto_aggD (k : Nat) (l : List D) : (AV.agg (D.avL l)).upto k = true := by simp only [AV.upto, uptoL_av]

def abytes (l : List Int) : AV := (dBytes l).av
def aints (l : List Int) : AV := (dInts l).av
def aentries (l : List Entry) : AV := (dEntries l).av

theorem scalar_abytes (l : List Int) : (abytes l).scalar = true := av_scalar _
theorem scalar_aints (l : List Int) : (aints l).scalar = true := av_scalar _
theorem scalar_aentries (l : List Entry) : (aentries l).scalar = true := av_scalar _
theorem cells_abytes (l : List Int) : (abytes l).cells? = some [abytes l] := cells_of (av_scalar _)
theorem cells_aints (l : List Int) : (aints l).cells? = some [aints l] := cells_of (av_scalar _)
theorem cells_aentries (l : List Entry) : (aentries l).cells? = some [aentries l] := cells_of (av_scalar _)
theorem rd_abytes (F : Nat → Prop) (h : AHeap) (l : List Int) : Rd F h (dBytes l) (abytes l) := rd_av _ _ _
theorem rd_aints (F : Nat → Prop) (h : AHeap) (l : List Int) : Rd F h (dInts l) (aints l) := rd_av _ _ _
theorem rd_aentries (F : Nat → Prop) (h : AHeap) (l : List Entry) : Rd F h (dEntries l) (aentries l) := rd_av _ _ _
theorem len_abytes (l : List Int) : alen (abytes l) = some (.int .i64 l.length) := by simpa using (rd_abytes nof [] l).len
theorem len_aints (l : List Int) : alen (aints l) = some (.int .i64 l.length) := by simpa using (rd_aints nof [] l).len
theorem len_aentries (l : List Entry) : alen (aentries l) = some (.int .i64 l.length) := by simpa using (rd_aentries nof [] l).len
theorem aints_eq (l : List Int) : aints l = .vals 0 false 1 (l.map fun n => [.int .i64 n]) := by
  simp only [aints, dInts, D.av, avLL_map, List.map_map]
  congr 1

attribute [go_sem] scalar_abytes scalar_aints scalar_aentries cells_abytes cells_aints cells_aentries len_abytes len_aints len_aentries

def Log.v (l : Log) : List AV := D.avL l.c
def Conf.v (x : Conf) : List AV := D.avL x.c
def Hard.v (x : Hard) : List AV := D.avL x.c
theorem Log.v_eq (l : Log) : l.v = [.int .i64 l.base, .int .i64 l.bterm, aentries l.es] := by simp only [Log.v, Log.c, D.avL, D.av]; rfl
theorem Conf.v_eq (x : Conf) : x.v = [aints x.old, aints x.new, aints x.learners] := by simp only [Conf.v, Conf.c, D.avL]; rfl
theorem Hard.v_eq (x : Hard) : x.v = [.int .i64 x.group, .int .i64 x.term, .int .i64 x.vote, .int .i64 x.log.base, .int .i64 x.log.bterm, aentries x.log.es, aints x.conf.old, aints x.conf.new, aints x.conf.learners, abytes x.snap] := by
  simp only [Hard.v, Hard.c, D.avL, D.av]; rfl
theorem rd_confv (F : Nat → Prop) (h : AHeap) (x : Conf) : RdL F h x.c x.v := rdL_av _ _ _
theorem rd_hardv (F : Nat → Prop) (h : AHeap) (x : Hard) : RdL F h x.c x.v := rdL_av _ _ _
theorem use1 {P : Program} {f : FuncId} {avs : List AV} {r : AV} {h : AHeap} {K : AV → AHeap → Prop} (hi : isFn P f = true) (hc : ACalls P f avs h fun r' h' => r' = r ∧ h' = h) (hk : K r h) : wCall P f avs h K :=
  wCall_use ⟨hi, hc⟩ fun _ _ ⟨e1, e2⟩ => by subst e1; subst e2; exact hk

/-- a call that answers plain data and leaves all as it was -/
def Pure (P : Program) (f : FuncId) (avs : List AV) (r : AV) : Prop := ∀ h, ACalls P f avs h fun r' h' => r' = r ∧ h' = h

theorem Pure.use {P : Program} {f : FuncId} {avs : List AV} {r : AV} {h : AHeap} {K : AV → AHeap → Prop} (hi : isFn P f = true) (hc : Pure P f avs r) (hk : K r h) : wCall P f avs h K :=
  wCall_use ⟨hi, hc h⟩ fun _ _ ⟨e1, e2⟩ => by subst e1; subst e2; exact hk

theorem pure_d {P : Program} {f : FuncId} {avs : List AV} {d : D} (hc : ∀ h, ACalls P f avs h fun r h' => Own d (fun m => h.length ≤ m) h' r ∧ Ext nof h h') : Pure P f avs d.av :=
  fun h => (hc h).freeze fun _ _ hk => ⟨hk.2, _, Frz.d (Own.fz d (fun _ x => x) _ hk.1), rfl⟩
theorem pure_ag {P : Program} {f : FuncId} {avs : List AV} {ds : List D} (hc : ∀ h, ACalls P f avs h fun r h' => ∃ l, r = .agg l ∧ OwnL ds (fun m => h.length ≤ m) h' l ∧ Ext nof h h') : Pure P f avs (.agg (D.avL ds)) :=
  fun h => (hc h).freeze fun _ _ ⟨_, e, ho, hx⟩ => ⟨hx, _, e ▸ Frz.aggD (OwnL.fz ds (fun _ x => x) _ ho), rfl⟩

def Conf.few (x : Conf) (n : Nat) : Prop := x.old.length ≤ n ∧ x.new.length ≤ n ∧ x.learners.length ≤ n
def CopyConfP (P : Program) (f : FuncId) : Prop := isFn P f = true ∧ ∀ x : Conf, x.few (2^40) → Pure P f [.agg x.v] (.agg x.v)
def Hard.few (x : Hard) : Prop := SmallEntries x.log.es ∧ x.conf.few (2^40) ∧ x.snap.length ≤ 2^40
theorem CopyConfOk.p {P : Program} {f : FuncId} (hc : CopyConfOk P f) : CopyConfP P f := ⟨hc.1, fun x hl => pure_ag (ds := x.c) fun h => (hc.2 nof h x _ (rd_confv _ _ x) hl.1 hl.2.1 hl.2.2).mono fun _ _ ⟨o, n, e, h1, h2, h3, h4, h5⟩ =>
  ⟨_, h1, by simp only [Conf.c, OwnL]; exact ⟨o, _, rfl, h2, n, _, rfl, h3, e, _, rfl, h4, rfl⟩, h5⟩⟩
end Glb

/-
  Members, what a member must not forget, messages: held against one another; messages written over.
-/
namespace Glb
open Go
set_option maxRecDepth 10000
set_option maxHeartbeats 4000000

theorem Conf.dec (x y : Conf) : decide (x = y) = (decide (x.old = y.old) && (decide (x.new = y.new) && decide (x.learners = y.learners))) := by
  cases x; cases y; simp [Bool.decide_and]
theorem Hard.dec (x y : Hard) : decide (x = y) = (decide (x.group = y.group) && (decide (x.term = y.term) && (decide (x.vote = y.vote) && (decide (x.log = y.log) && (decide (x.conf = y.conf) && decide (x.snap = y.snap)))))) := by
  cases x; cases y; simp [Bool.decide_and]
def SameConfOk (P : Program) (f : FuncId) : Prop :=
  isFn P f = true ∧ ∀ (F F' : Nat → Prop) (h : AHeap) (x y : Conf) (a b : List AV), RdL F h x.c a → RdL F' h y.c b → x.few (2^40) →
    ACalls P f [.agg a, .agg b] h fun r h' => r = .bool (decide (x = y)) ∧ h' = h

theorem SameConf_ok {P : Program} {f g : FuncId} (hf : Is P f (c_glebekit_SameConf g)) (hg : SameOk P g .i64) : SameConfOk P f := by
  refine ⟨hf.2, fun F F' h x y a b hx hy hl => obs rfl (fun_sound hf.1 (Nat.le_of_ble_eq_true rfl) ?_)⟩
  show vc P (c_glebekit_SameConf g).code ⟨[(0, .agg a), (1, .agg b)], [], h⟩ (atEnd (c_glebekit_SameConf g).res _)
  obtain ⟨o, n, e, rfl, ho, hn, he⟩ := rd_conf (RdL.mono (F' := fun _ => True) (fun _ _ => trivial) (Keep.lt _ _) _ _ hx)
  obtain ⟨o', n', e', rfl, ho', hn', he'⟩ := rd_conf (RdL.mono (F' := fun _ => True) (fun _ _ => trivial) (Keep.lt _ _) _ _ hy)
  simp only [c_glebekit_SameConf, go_sem, reduceIte, Nat.reduceEqDiff, Nat.reduceAdd, Nat.reduceLeDiff, Nat.reducePow, Nat.reduceDiv, Nat.reduceMod, decide_true, ho.scalar, hn.scalar, he.scalar, ho'.scalar, hn'.scalar, he'.scalar]
  repeat' (first
    | refine wGuardT (fun _ => ?_) (fun _ => ?_)
    | (refine wCall_use ⟨hg.1, hg.2 (fun _ => True) _ x.old y.old _ _ (ho.up (Ext.b2 _ _)) (ho'.up (Ext.b2 _ _)) hl.1⟩ ?_; rintro _ _ ⟨rfl, rfl⟩)
    | (refine wCall_use ⟨hg.1, hg.2 (fun _ => True) _ x.new y.new _ _ (hn.up (Ext.b2 _ _)) (hn'.up (Ext.b2 _ _)) hl.2.1⟩ ?_; rintro _ _ ⟨rfl, rfl⟩)
    | (refine wCall_use ⟨hg.1, hg.2 (fun _ => True) _ x.learners y.learners _ _ (he.up (Ext.b2 _ _)) (he'.up (Ext.b2 _ _)) hl.2.2⟩ ?_; rintro _ _ ⟨rfl, rfl⟩)
    | simp only [go_sem, reduceIte, Nat.reduceEqDiff, Nat.reduceAdd, Nat.reduceLeDiff, Nat.reducePow, Nat.reduceDiv, Nat.reduceMod, decide_true, *])
  all_goals exact ⟨by simp [Conf.dec, *], Ext.b2 _ _⟩

def SameHardOk (P : Program) (f : FuncId) : Prop :=
  isFn P f = true ∧ ∀ (F F' : Nat → Prop) (h : AHeap) (x y : Hard) (a b : List AV), RdL F h x.c a → RdL F' h y.c b → x.few →
    ACalls P f [.agg a, .agg b] h fun r h' => r = .bool (decide (x = y)) ∧ h' = h

theorem log_rd {x : Log} {F : Nat → Prop} {h : AHeap} {e : AV} (he : Rd F h (dEntries x.es) e) : RdL F h x.c [.int .i64 x.base, .int .i64 x.bterm, e] := by
  simp only [Log.c, rdL_int]
  refine ⟨_, rfl, _, rfl, ?_⟩
  simp only [RdL]
  exact ⟨e, _, rfl, he, rfl⟩

theorem SameHard_ok {P : Program} {f g k b : FuncId} (hf : Is P f (c_glebekit_SameHard g k b)) (hg : SameLogOk P g) (hk : SameConfOk P k) (hb : SameOk P b .u8) : SameHardOk P f := by
  refine ⟨hf.2, fun F F' h x y a c hx hy hl => obs rfl (fun_sound hf.1 (Nat.le_of_ble_eq_true rfl) ?_)⟩
  show vc P (c_glebekit_SameHard g k b).code ⟨[(0, .agg a), (1, .agg c)], [], h⟩ (atEnd (c_glebekit_SameHard g k b).res _)
  obtain ⟨e1, o1, n1, l1, s1, rfl, he1, ho1, hn1, hl1, hs1⟩ := rd_hard (RdL.mono (F' := fun _ => True) (fun _ _ => trivial) (Keep.lt _ _) _ _ hx)
  obtain ⟨e2, o2, n2, l2, s2, rfl, he2, ho2, hn2, hl2, hs2⟩ := rd_hard (RdL.mono (F' := fun _ => True) (fun _ _ => trivial) (Keep.lt _ _) _ _ hy)
  simp only [c_glebekit_SameHard, Hard.cells, go_sem, reduceIte, Nat.reduceEqDiff, Nat.reduceAdd, Nat.reduceLeDiff, Nat.reducePow, Nat.reduceDiv, Nat.reduceMod, decide_true, he1.scalar, ho1.scalar, hn1.scalar, hl1.scalar, hs1.scalar, he2.scalar, ho2.scalar, hn2.scalar, hl2.scalar, hs2.scalar]
  repeat' (first
    | refine wGuardT (fun _ => ?_) (fun _ => ?_)
    | (refine wCall_use ⟨hg.1, hg.2 (fun _ => True) _ x.log y.log _ _ ((log_rd he1).up (Ext.b2 _ _)) ((log_rd he2).up (Ext.b2 _ _)) (by have := hl.1.1; omega) (fun e he => by have := hl.1.2 e he; omega)⟩ ?_; rintro _ _ ⟨rfl, rfl⟩)
    | (refine wCall_use ⟨hk.1, hk.2 (fun _ => True) (fun _ => True) _ x.conf y.conf _ _ ((conf_rd ho1 hn1 hl1).up (Ext.b2 _ _)) ((conf_rd ho2 hn2 hl2).up (Ext.b2 _ _)) hl.2.1⟩ ?_; rintro _ _ ⟨rfl, rfl⟩)
    | (refine wCall_use ⟨hb.1, hb.2 (fun _ => True) _ x.snap y.snap _ _ (hs1.up (Ext.b2 _ _)) (hs2.up (Ext.b2 _ _)) hl.2.2⟩ ?_; rintro _ _ ⟨rfl, rfl⟩)
    | simp only [go_sem, reduceIte, Nat.reduceEqDiff, Nat.reduceAdd, Nat.reduceLeDiff, Nat.reducePow, Nat.reduceDiv, Nat.reduceMod, decide_true, *])
  all_goals exact ⟨by simp [Hard.dec, *], Ext.b2 _ _⟩

end Glb
