/-
  A library of its own: its parts, one behind the other.
-/
import Derived.Test.YtgjgniadldlmiaaGlbJouA
import Derived.Test.YtgjgniadldlmiaaGlbChkB
import Derived.Test.YtgjgniadldlmiaaGlbCstore
import Derived.Test.YtgjgniadldlmiaaGlbJouB
import Derived.Test.YtgjgniadldlmiaaGlbCglebelaw09
set_option linter.unusedSimpArgs false
set_option linter.unusedVariables false
/-
  Layer 9: a store, in plain lists.
-/
namespace Glb
open Go
set_option maxRecDepth 10000
set_option maxHeartbeats 4000000

theorem crash_quiet {d : Dk} (ok : d.ok) (hc : d.cache = []) (how : List Int) (j : Int) : (d.crash how).last j = d.last j := crash_last d how ok.lasts.1 (by rw [hc]; rfl)

/-- a Save touches its slots alone -/
theorem Dk.save_far {d : Dk} (ok : d.ok) (ho : d.off = false) (hc : d.cache = []) {at' n x : Int} {p : List Int} (hm : d.may at' n) (hp : (many p : Int) ≤ n) (j : Int) (hj : at' + 2 * n ≤ j) :
    ((d.save at' n x p).2 = 0 → (d.save at' n x p).1.last j = d.last j) ∧ ∀ how, ((d.save at' n x p).1.crash how).last j = d.last j := by
  unfold Dk.save
  split
  · exact ⟨fun _ => rfl, fun how => crash_quiet ok hc how j⟩
  · rename_i h1
    rw [if_neg (by omega)]
    obtain ⟨m1, m2, m3⟩ := hm
    have s2 : x % 2 = 0 ∨ x % 2 = 1 := by omega
    have hi : at' ≤ at' + x % 2 * n ∧ at' + x % 2 * n + n ≤ at' + 2 * n := by rcases s2 with e | e <;> rw [e] <;> omega
    have hok := Dk.save_ok ok p at' n x
    unfold Dk.save at hok
    rw [if_neg h1, if_neg (by omega)] at hok
    rcases Dk.lay_cases ok ho hc (i := at' + x % 2 * n) (e := x) (p := p) (by omega) with ⟨d', t1, t2, t3, t4, t5, t6, t7⟩ | ⟨d', t1, t2, t3, t4, t5⟩
    · rw [t1] at hok ⊢
      have e := t7 j (by omega)
      exact ⟨fun _ => e, fun how => (crash_quiet hok t4 how j).trans e⟩
    · rw [t1]
      refine ⟨fun x => by simp at x, fun how => ?_⟩
      rcases t5 how with a | ⟨-, a, -⟩
      · exact a j (by omega)
      · exact a j (by omega)

/-- an Append touches what is ahead of its place not -/
theorem Dk.japp_far {d : Dk} (ok : d.ok) (ho : d.off = false) (hc : d.cache = []) {j : Jn} {p : List Int} (h0 : 0 ≤ j.at') (hf : j.fin ≤ d.n) (x : Int) (hx : x < j.at') :
    ((d.japp j p).2.2 = 0 → (d.japp j p).1.last x = d.last x) ∧ ∀ how, ((d.japp j p).1.crash how).last x = d.last x := by
  unfold Dk.japp
  split
  · exact ⟨fun _ => rfl, fun how => crash_quiet ok hc how x⟩
  · split
    · exact ⟨fun _ => rfl, fun how => crash_quiet ok hc how x⟩
    · rename_i h1 h2
      have hr0 : rises d.cache := by rw [hc]; exact .nil
      have hrl := ok.lasts.1
      have c0 : ∀ x, sfind d.cache x = none := fun x => by rw [hc]; rfl
      have hok := Dk.jdone_ok ok j p
      unfold Dk.jdone at hok ⊢
      rcases Dk.jrest_cases (p := p) (j := j) (many p) 0 (d := d) ho hr0 (by omega) (by omega) with ⟨d1, r1, r2, r3, r4, r5, r6, r7, r8⟩ | ⟨d1, r1, r2, r3, r4, r5, r6, r7, r8⟩
      · rw [r1, if_pos rfl] at hok ⊢
        have out1 : sfind d1.cache x = none := by rw [r8 x (by omega), c0]
        rcases Dk.flush_cases r3 with ⟨d2, f1, f2, f3, f4, f5, f6⟩ | ⟨d2, f1, f2, f3, f4, f5, f6⟩
        · rw [f1] at hok ⊢
          have e : d2.last x = d.last x := by
            show sfind d2.lasts x = _
            rw [f4, sfind_fold r5 (by rw [r4]; exact hrl), out1, r4]
          exact ⟨fun _ => e, fun how => (crash_quiet hok f5 how x).trans e⟩
        · rw [f1] at hok ⊢
          refine ⟨fun y => by simp at y, fun how => ?_⟩
          rw [crash_last d2 how (by rw [f4, r4]; exact hrl) (by rw [f5]; exact out1)]
          show sfind d2.lasts x = _
          rw [f4, r4]
      · rw [r1, if_neg (by simp)] at hok ⊢
        refine ⟨fun y => by simp at y, fun how => ?_⟩
        rw [crash_last d1 how (by rw [r5]; exact hrl) (by rw [r8 x (by omega), c0])]
        show sfind d1.lasts x = _
        rw [r5]

theorem Ckd.congr {d d' : Dk} {at' n E : Int} (h : Ckd d at' n E) (ok : d'.ok) (ho : d'.off = false) (hc : d'.cache = []) (hn : d'.n = d.n) (hl : ∀ j, at' ≤ j → j < at' + 2 * n → d'.last j = d.last j) : Ckd d' at' n E ∧ ∀ s, s = 0 ∨ s = 1 → d'.wh at' n s = d.wh at' n s := by
  obtain ⟨m1, m2, m3⟩ := h.may
  have key : ∀ s, s = 0 ∨ s = 1 → ∀ k : Nat, (k : Int) < n → d'.slot (at' + s * n) k = d.slot (at' + s * n) k := fun s hs k hk => by
    have : at' ≤ at' + s * n ∧ at' + s * n + n ≤ at' + 2 * n := by rcases hs with rfl | rfl <;> omega
    exact slot_same h.cache hc hn (by omega) (hl _ (by omega) (by omega))
  refine ⟨⟨ok, ho, hc, ⟨m1, m2, by omega⟩, fun s hs e l q h1 h2 => ?_⟩, fun s hs => whole_congr (fun k hk => key s hs k (by omega)) (by omega)⟩
  rw [key s hs 0 (by omega)] at h1
  exact h.fst s hs e l q h1 h2

/-- a disk of which all lasts: the checkpoint of the epoch E, and the records behind it -/
structure SD (d : Dk) (slot E : Int) (p : List Int) (R : List (List Int)) : Prop where
  bts : d.bts
  sl : 1 ≤ slot ∧ 2 * slot + 1 ≤ d.n
  ck : Ckd d 0 slot E
  ep : 0 ≤ E ∧ E < maxNo
  chk : 1 ≤ E → d.wh 0 slot (E % 2) = (p, E)
  recs : 1 ≤ E → d.scan (2 * slot) (d.n - 2 * slot) E = (R, 0)
  zero : E = 0 → p = [] ∧ R = []
  eld : ∀ x, 2 * slot ≤ x → x < d.n → eld (E + 1) (d.last x)

theorem SD.load {d slot E p R} (h : SD d slot E p R) : d.load 0 slot = if E = 0 then ([], 0, 6) else (p, E, 0) := by
  split
  · rename_i e
    subst e
    exact h.ck.none
  · have := h.ep
    exact h.ck.load (by omega) (h.chk (by omega))

theorem SD.new {slot n : Int} (hn : 1 ≤ n ∧ n ≤ 16384) (hs : 1 ≤ slot ∧ 2 * slot + 1 ≤ n) : SD (Dk.new n) slot 0 [] [] :=
  ⟨Dk.new_bts _, hs, Ckd.new hs.1 (by omega) hn (by omega), ⟨by omega, by unfold maxNo; omega⟩, fun x => by omega, fun x => by omega, fun _ => ⟨rfl, rfl⟩, fun x _ _ => eld_none _⟩

/-- a disk whose sectors are as those of another one -/
theorem SD.congr {d d' : Dk} {slot E p R} (h : SD d slot E p R) (ok : d'.ok) (bts : d'.bts) (ho : d'.off = false) (hc : d'.cache = []) (hn : d'.n = d.n) (hl : ∀ j, d'.last j = d.last j) : SD d' slot E p R := by
  have ⟨k1, k2⟩ := h.ck.congr ok ho hc hn fun j _ _ => hl j
  have hs := h.sl
  refine ⟨bts, by omega, k1, h.ep, fun e => by rw [k2 _ (by omega)]; exact h.chk e, fun e => ?_, h.zero, fun x h1 h2 => by rw [hl]; exact h.eld x h1 (by omega)⟩
  have hr := h.recs e
  have j1 : d.jright (2 * slot) (d.n - 2 * slot) E := ⟨by omega, by omega, by omega, e, by have := h.ep; omega⟩
  have j2 : d'.jright (2 * slot) (d.n - 2 * slot) E := ⟨by omega, by omega, by omega, e, by have := h.ep; omega⟩
  rw [hn, Dk.scan_last hc j2, ← hr, Dk.scan_last h.ck.cache j1]
  rw [scanJ_congr _ _ _ _ _ fun x c _ _ => by rw [hl]]
theorem SD.arm {d slot E p R} (h : SD d slot E p R) {k : Int} (hk : k ≤ 9223372036854775807) : SD (d.arm k) slot E p R :=
  h.congr (Dk.arm_ok h.ck.ok hk) h.bts h.ck.off h.ck.cache rfl fun j => rfl

/-- a new checkpoint -/
theorem SD.save {d slot E p R} (h : SD d slot E p R) {q : List Int} (hq : (many q : Int) ≤ slot) (hl : q.length ≤ 1099511627776) (hb : bytesOk q) (hE : E + 1 < maxNo) :
    (∃ d', d.save 0 slot (E + 1) q = (d', 0) ∧ SD d' slot (E + 1) q [] ∧ JS d' (2 * slot) (d.n - 2 * slot) (E + 1) [] (2 * slot) ∧ d'.n = d.n ∧ (d.left < 0 → d'.left < 0)) ∨
    (∃ d', d.save 0 slot (E + 1) q = (d', 10) ∧ d'.ok ∧ d'.bts ∧ d'.off = true ∧ d'.n = d.n ∧ 0 ≤ d.left ∧ ∀ how, SD (d'.crash how) slot E p R ∨ SD (d'.crash how) slot (E + 1) q []) := by
  have hs := h.sl
  have he := h.ep
  have hbt := Dk.save_bts h.bts hb 0 slot (E + 1)
  have hfar := fun j => Dk.save_far h.ck.ok h.ck.off h.ck.cache (at' := 0) (n := slot) (x := E + 1) (p := q) h.ck.may hq j
  rcases h.ck.save (x := E + 1) (E' := E + 1) (p := q) ⟨by omega, by omega⟩ (by omega) (by omega) hq hl with ⟨d', s1, s2, s3, s4, s5, s6⟩ | ⟨d', s1, s2, s3, s4, s5, s6⟩
  · rw [s1] at hbt
    have far : ∀ x, 2 * slot ≤ x → d'.last x = d.last x := fun x hx => by have := (hfar x (by omega)).1; rw [s1] at this; exact this rfl
    have el : ∀ x, 2 * slot ≤ x → x < 2 * slot + (d.n - 2 * slot) → Glb.eld (E + 1) (d'.last x) := fun x h1 h2 => by rw [far x h1]; exact h.eld x h1 (by omega)
    have js : JS d' (2 * slot) (d.n - 2 * slot) (E + 1) [] (2 * slot) := JS.begin s2.ok hbt s2.cache (by omega) ⟨by omega, by omega⟩ el
    refine .inl ⟨d', s1, ⟨hbt, by omega, s2, by omega, fun _ => s5, fun _ => ?_, fun e => by omega, fun x h1 h2 => (el x h1 (by omega)).up (by omega)⟩, js, s3, s4⟩
    rw [s3]; exact js.scan
  · rw [s1] at hbt
    refine .inr ⟨d', s1, s2, hbt, s4, s5, s3, fun how => ?_⟩
    obtain ⟨t1, t2⟩ := s6 how
    have cbt := Dk.crash_bts hbt how
    have far : ∀ x, 2 * slot ≤ x → (d'.crash how).last x = d.last x := fun x hx => by have := (hfar x (by omega)).2 how; rw [s1] at this; exact this
    have el : ∀ x, 2 * slot ≤ x → x < d'.n → Glb.eld (E + 1) ((d'.crash how).last x) := fun x h1 h2 => by rw [far x h1]; exact h.eld x h1 (by omega)
    have sc : ∀ e : Int, 1 ≤ e → e ≤ maxNo → (d'.crash how).scan (2 * slot) ((d'.crash how).n - 2 * slot) e = d.scan (2 * slot) (d.n - 2 * slot) e := fun e e1 e2 => by
      have n1 : (d'.crash how).n = d.n := s5
      have j1 : d.jright (2 * slot) (d.n - 2 * slot) e := ⟨by omega, by omega, by omega, e1, e2⟩
      have j2 : (d'.crash how).jright (2 * slot) (d.n - 2 * slot) e := ⟨by omega, by omega, by omega, e1, e2⟩
      rw [n1, Dk.scan_last rfl j2, Dk.scan_last h.ck.cache j1]
      rw [scanJ_congr _ _ _ _ _ fun x c hx _ => by rw [far x hx]]
    rcases t2 with t2 | ⟨t2, t3⟩
    · refine .inl ⟨cbt, ⟨hs.1, by show _ ≤ d'.n; omega⟩, t2, he, fun e => by rw [t1 _ (by omega) (by omega)]; exact h.chk e, fun e => by rw [sc E e (by omega)]; exact h.recs e, h.zero, el⟩
    · refine .inr ⟨cbt, ⟨hs.1, by show _ ≤ d'.n; omega⟩, t2, by omega, fun _ => t3, fun _ => ?_, fun e => by omega, fun x h1 h2 => (el x h1 h2).up (by omega)⟩
      have n1 : (d'.crash how).n = d.n := s5
      have j2 : (d'.crash how).jright (2 * slot) ((d'.crash how).n - 2 * slot) (E + 1) := ⟨by omega, by omega, by omega, by omega, by omega⟩
      exact scan_elds rfl j2 (el _ (by omega) (by omega))

/-- a record more -/
theorem SD.append {d slot E p R i} (h : SD d slot E p R) (js : JS d (2 * slot) (d.n - 2 * slot) E R i) {q : List Int} (hq : q.length ≤ 32768) (hb : bytesOk q) :
    (d.n - i < many q ∧ d.japp (jof (2 * slot) (d.n - 2 * slot) E R i) q = (d, jof (2 * slot) (d.n - 2 * slot) E R i, 8)) ∨
    (many q ≤ d.n - i ∧ ∃ d', d.japp (jof (2 * slot) (d.n - 2 * slot) E R i) q = (d', jof (2 * slot) (d.n - 2 * slot) E (R ++ [q]) (i + many q), 0) ∧ SD d' slot E p (R ++ [q]) ∧ JS d' (2 * slot) (d.n - 2 * slot) E (R ++ [q]) (i + many q) ∧ d'.n = d.n ∧ (d.left < 0 → d'.left < 0)) ∨
    (many q ≤ d.n - i ∧ ∃ d', d.japp (jof (2 * slot) (d.n - 2 * slot) E R i) q = (d', jof (2 * slot) (d.n - 2 * slot) E R i, 10) ∧ d'.ok ∧ d'.bts ∧ d'.off = true ∧ d'.n = d.n ∧ 0 ≤ d.left ∧ ∀ how, SD (d'.crash how) slot E p R ∨ SD (d'.crash how) slot E p (R ++ [q])) := by
  have hs := h.sl
  have he := h.ep
  have jep := js.ep
  have hfar := fun x (hx : x < 2 * slot) => Dk.japp_far h.ck.ok h.ck.off h.ck.cache (j := jof (2 * slot) (d.n - 2 * slot) E R i) (p := q) (by simp only [jof]; have := js.len; omega) (by simp only [jof]; omega) x (by simp only [jof]; have := js.len; omega)
  have hn1 : 2 * slot + (d.n - 2 * slot) - i = d.n - i := by omega
  rcases js.append h.ck.off hq hb with ⟨h1, h2⟩ | ⟨h1, d', h2, h3, h4, h5, h6⟩ | ⟨h1, d', h2, h3, h4, h5, h6, h7, h8⟩
  · exact .inl ⟨by omega, h2⟩
  · refine .inr (.inl ⟨by omega, d', h2, ?_, h3, h5, h6⟩)
    have ⟨k1, k2⟩ := h.ck.congr h3.ok h4 h3.cache h5 fun j _ hj => by have := (hfar j (by omega)).1; rw [h2] at this; exact this rfl
    exact ⟨h3.bts, by omega, k1, he, fun e => by rw [k2 _ (by omega)]; exact h.chk e, fun _ => by rw [h5]; exact h3.scan, fun e => by omega, fun x x1 x2 => h3.elds x x1 (by omega)⟩
  · refine .inr (.inr ⟨by omega, d', h2, h3, h4, h5, h6, h7, fun how => ?_⟩)
    obtain ⟨t1, t2⟩ := h8 how
    have n1 : (d'.crash how).n = d.n := h6
    have ⟨k1, k2⟩ := h.ck.congr (Dk.crash_ok h3 how) rfl rfl h6 fun j _ hj => by have := (hfar j (by omega)).2 how; rw [h2] at this; exact this
    have mk : ∀ R', (d'.crash how).scan (2 * slot) (d.n - 2 * slot) E = (R', 0) → SD (d'.crash how) slot E p R' := fun R' hr =>
      ⟨Dk.crash_bts h4 how, by omega, k1, he, fun e => by rw [k2 _ (by omega)]; exact h.chk e, fun _ => by rw [n1]; exact hr, fun e => by omega, fun x x1 x2 => t2 x x1 (by omega)⟩
    exact t1.imp (mk _) (mk _)

end Glb

/-
  Layer 9: the program's store: Epoch, Count, place, died, Open, Renew, Append.
-/
namespace Glb
open Go
set_option maxRecDepth 10000
set_option maxHeartbeats 8000000

structure St9 where
  slot : Int
  epoch : Int
  j : Option Jn
  dead : Bool
def jpV (q : Nat) : Option Jn → AV
  | none => .raw (.pointer none)
  | some _ => .ptr q 5 0 0
def srowV (p q : Nat) (s : St9) : List AV := [jpV q s.j, .ptr p 6 0 0, .int .i64 s.slot, .int .i64 s.epoch, .bool s.dead]
/-- a store at s, its disk's at p, its journal's at q -/
structure StAt (F : Nat → Prop) (h : AHeap) (s q p : Nat) (x : St9) (n : Int) : Prop where
  row : h[s]? = some (some (.arr 5 [srowV p q x] false))
  jn : ∀ j, x.j = some j → JAt h q p j ∧ j.ok n ∧ ¬ F q ∧ q ≠ s
  nf : ¬ F s
theorem StAt.up {F h h' s q p x n} (a : StAt F h s q p x n) (hx : Ext nof h h') : StAt F h' s q p x n := ⟨hx.get a.row, fun j e => ⟨hx.get (a.jn j e).1, (a.jn j e).2⟩, a.nf⟩

def SOpenOk (P : Program) (f : FuncId) : Prop := isFn P f = true ∧ ∀ (F : Nat → Prop) (h : AHeap) (p : Nat) (d : Dk) (slot : Int), DiskAt F h p d → d.bts →
  ACalls P f [.ptr p 6 0 0, .int .i64 slot] h fun r h' => Ext nof h h' ∧
    (if slot < 1 ∨ d.n < 2 * slot + 1 then r = .tup [.raw (.pointer none), .nils, .nils, .int .i64 3] else if d.off then r = .tup [.raw (.pointer none), .nils, .nils, .int .i64 10] else
      h'[h.length]? = some (some (.arr 5 [srowV p 0 ⟨slot, if (d.load 0 slot).2.2 = 0 then (d.load 0 slot).2.1 else 0, none, false⟩] false)) ∧
      if (d.load 0 slot).2.2 = 0 then r = .tup [.ptr h.length 5 0 0, abytes (d.load 0 slot).1, arows (d.scan (2 * slot) (d.n - 2 * slot) (d.load 0 slot).2.1).1, .int .i64 0] else r = .tup [.ptr h.length 5 0 0, .nils, .nils, .int .i64 0])
def SEpochOk (P : Program) (f : FuncId) : Prop := isFn P f = true ∧ ∀ (F : Nat → Prop) (h : AHeap) (s q p : Nat) (x : St9) (n : Int), StAt F h s q p x n → ACalls P f [.ptr s 5 0 0] h fun r h' => r = .int .i64 x.epoch ∧ h' = h
def SCountOk (P : Program) (f : FuncId) : Prop := isFn P f = true ∧ ∀ (F : Nat → Prop) (h : AHeap) (s q p : Nat) (x : St9) (n : Int), StAt F h s q p x n → ACalls P f [.ptr s 5 0 0] h fun r h' => r = .int .i64 (match x.j with | none => 0 | some j => j.count) ∧ h' = h
def SPlaceOk (P : Program) (f : FuncId) : Prop := isFn P f = true ∧ ∀ (F : Nat → Prop) (h : AHeap) (s q p : Nat) (x : St9) (d : Dk), h[s]? = some (some (.arr 5 [srowV p q x] false)) → DiskAt F h p d → 1 ≤ x.slot ∧ 2 * x.slot + 1 ≤ d.n →
  ACalls P f [.ptr s 5 0 0] h fun r h' => r = .tup [.int .i64 (2 * x.slot), .int .i64 (d.n - 2 * x.slot)] ∧ h' = h
def SDiedOk (P : Program) (f : FuncId) : Prop := isFn P f = true ∧ ∀ (F : Nat → Prop) (h : AHeap) (s q p : Nat) (x : St9) (n e : Int), StAt F h s q p x n →
  ACalls P f [.ptr s 5 0 0, .int .i64 e] h fun r h' => r = .int .i64 e ∧ StAt F h' s q p { x with dead := x.dead || decide (e = 10) } n ∧ Ext (fun m => m = s) h h'
/-- what an Append comes to -/
def Dk.sapp (d : Dk) (x : St9) (l : List Int) : Dk × St9 × Int :=
  if x.dead then (d, x, 10) else match x.j with
    | none => (d, x, 12)
    | some j => ((d.japp j l).1, { x with j := some (d.japp j l).2.1, dead := decide ((d.japp j l).2.2 = 10) }, (d.japp j l).2.2)
/-- what a Renew comes to -/
def Dk.sren (d : Dk) (x : St9) (l : List Int) : Dk × St9 × Int :=
  if x.dead then (d, x, 10) else
    if (d.save 0 x.slot (x.epoch + 1) (eff l)).2 = 0 then ((d.save 0 x.slot (x.epoch + 1) (eff l)).1, { x with epoch := x.epoch + 1, j := some (jnew (2 * x.slot) (d.n - 2 * x.slot) (x.epoch + 1)) }, 0)
    else ((d.save 0 x.slot (x.epoch + 1) (eff l)).1, { x with dead := decide ((d.save 0 x.slot (x.epoch + 1) (eff l)).2 = 10) }, (d.save 0 x.slot (x.epoch + 1) (eff l)).2)
def SAppOk (P : Program) (f : FuncId) : Prop := isFn P f = true ∧ ∀ (F G : Nat → Prop) (h : AHeap) (s q p : Nat) (d : Dk) (x : St9) (l : List Int) (a : AV), DiskAt F h p d → StAt F h s q p x d.n → (∀ m, F m → m < h.length) → Rd G h (dBytes l) a → (∀ m, G m → ¬ F m ∧ m ≠ q ∧ m ≠ s) →
  ACalls P f [.ptr s 5 0 0, a] h fun r h' => r = .int .i64 (d.sapp x l).2.2 ∧ DiskAt F h' p (d.sapp x l).1 ∧ StAt F h' s q p (d.sapp x l).2.1 d.n ∧ Ext (fun m => F m ∨ m = q ∨ m = s) h h'
def SRenOk (P : Program) (f : FuncId) : Prop := isFn P f = true ∧ ∀ (F G : Nat → Prop) (h : AHeap) (s q p : Nat) (d : Dk) (x : St9) (l : List Int) (a : AV), DiskAt F h p d → StAt F h s q p x d.n → (∀ m, F m → m < h.length) → Rd G h (dBytes l) a → (∀ m, G m → ¬ F m ∧ m ≠ s) →
  1 ≤ x.slot ∧ 2 * x.slot + 1 ≤ d.n → 0 ≤ x.epoch ∧ x.epoch < maxNo →
  ACalls P f [.ptr s 5 0 0, a] h fun r h' => r = .int .i64 (d.sren x l).2.2 ∧ DiskAt F h' p (d.sren x l).1 ∧ (∃ q', StAt F h' s q' p (d.sren x l).2.1 d.n ∧ (q' = q ∨ h.length ≤ q')) ∧ Ext (fun m => F m ∨ m = s) h h'

theorem sepoch_ok {P : Program} {f : FuncId} (hf : Is P f c_store_Store_Epoch) : SEpochOk P f := by
  refine ⟨hf.2, fun F h s q p x n hs => fun_sound hf.1 (Nat.le_of_ble_eq_true rfl) ?_⟩
  show vc P c_store_Store_Epoch.code ⟨[(0, .ptr s 5 0 0)], [], h⟩ (atEnd c_store_Store_Epoch.res _)
  have hr := hs.row
  simp only [c_store_Store_Epoch, go_sem, reduceIte, Nat.reduceEqDiff, Nat.reduceAdd, Nat.reduceLeDiff, Nat.reducePow, Nat.reduceDiv, Nat.reduceMod, decide_true, hr, srowV]
theorem scount_ok {P : Program} {f g : FuncId} (hf : Is P f (c_store_Store_Count g)) (hg : JCountOk P g) : SCountOk P f := by
  refine ⟨hf.2, fun F h s q p x n hs => fun_sound hf.1 (Nat.le_of_ble_eq_true rfl) ?_⟩
  show vc P (c_store_Store_Count g).code ⟨[(0, .ptr s 5 0 0)], [], h⟩ (atEnd (c_store_Store_Count g).res _)
  have hr := hs.row
  have hj := hs.jn
  cases e : x.j with
  | none => simp only [c_store_Store_Count, go_sem, reduceIte, Nat.reduceEqDiff, Nat.reduceAdd, Nat.reduceLeDiff, Nat.reducePow, Nat.reduceDiv, Nat.reduceMod, decide_true, hr, srowV, e, jpV, Bool.not_false, Bool.not_true]
  | some j =>
    simp only [c_store_Store_Count, go_sem, reduceIte, Nat.reduceEqDiff, Nat.reduceAdd, Nat.reduceLeDiff, Nat.reducePow, Nat.reduceDiv, Nat.reduceMod, decide_true, hr, srowV, e, jpV, Bool.not_false, Bool.not_true]
    refine use1 hg.1 (hg.2 h q p j (hj j e).1) ?_
    simp only [go_sem, reduceIte, Nat.reduceEqDiff, Nat.reduceAdd, Nat.reduceLeDiff, Nat.reducePow, Nat.reduceDiv, Nat.reduceMod, decide_true]
theorem splace_ok {P : Program} {f g : FuncId} (hf : Is P f (c_store_Store_place g)) (hg : DLenOk P g) : SPlaceOk P f := by
  refine ⟨hf.2, fun F h s q p x d hr hd hs => fun_sound hf.1 (Nat.le_of_ble_eq_true rfl) ?_⟩
  show vc P (c_store_Store_place g).code ⟨[(0, .ptr s 5 0 0)], [], h⟩ (atEnd (c_store_Store_place g).res _)
  have hn := hd.ok.n
  have e1 : IntKind.i64.wrap (2 * x.slot) = 2 * x.slot := wrap_i64 (by omega)
  have e2 : IntKind.i64.wrap (d.n - 2 * x.slot) = d.n - 2 * x.slot := wrap_i64 (by omega)
  simp only [c_store_Store_place, go_sem, reduceIte, Nat.reduceEqDiff, Nat.reduceAdd, Nat.reduceLeDiff, Nat.reducePow, Nat.reduceDiv, Nat.reduceMod, decide_true, hr, srowV, e1]
  refine use1 hg.1 (hg.2 F h p d hd) ?_
  rw [kDB_mk0]
  simp only [go_sem, reduceIte, Nat.reduceEqDiff, Nat.reduceAdd, Nat.reduceLeDiff, Nat.reducePow, Nat.reduceDiv, Nat.reduceMod, decide_true, hr, srowV, e1, e2]
theorem sdied_ok {P : Program} {f : FuncId} (hf : Is P f c_store_Store_died) : SDiedOk P f := by
  refine ⟨hf.2, fun F h s q p x n e hs => fun_sound hf.1 (Nat.le_of_ble_eq_true rfl) ?_⟩
  show vc P c_store_Store_died.code ⟨[(0, .ptr s 5 0 0), (1, .int .i64 e)], [], h⟩ (atEnd c_store_Store_died.res _)
  have hr := hs.row
  have ls := (List.getElem?_eq_some_iff.1 hr).1
  by_cases c : e = 10
  · simp only [c_store_Store_died, go_sem, reduceIte, Nat.reduceEqDiff, Nat.reduceAdd, Nat.reduceLeDiff, Nat.reducePow, Nat.reduceDiv, Nat.reduceMod, decide_true, decide_eq_true c, hr, srowV, Bool.or_true]
    have wq : Ext (fun m => m = s) h (h.set s (some (.arr 5 [srowV p q { x with dead := true }] false))) := Ext.set _ (fun _ => rfl)
    refine ⟨⟨List.getElem?_set_self ls, fun j hj => ?_, hs.nf⟩, wq⟩
    obtain ⟨h1, h2⟩ := hs.jn j hj
    refine ⟨?_, h2⟩
    unfold JAt
    rw [List.getElem?_set_ne (by have := h2.2.2; omega)]
    exact h1
  · simp only [c_store_Store_died, go_sem, reduceIte, Nat.reduceEqDiff, Nat.reduceAdd, Nat.reduceLeDiff, Nat.reducePow, Nat.reduceDiv, Nat.reduceMod, decide_true, decide_eq_false c, Bool.or_false]
    exact ⟨hs, Ext.refl _ _⟩
theorem sopen_ok {P : Program} {f g1 g2 g3 g4 g5 : FuncId} (hf : Is P f (c_store_Open g1 g2 g3 g4 g5)) (h1 : DLenOk P g1) (h2 : DownOk P g2) (h3 : LoadP P g3) (h4 : SPlaceOk P g4) (h5 : ScanOk P g5) : SOpenOk P f := by
  refine ⟨hf.2, fun F h p d slot hd hb => fun_sound hf.1 (Nat.le_of_ble_eq_true rfl) ?_⟩
  show vc P (c_store_Open g1 g2 g3 g4 g5).code ⟨[(0, .ptr p 6 0 0), (1, .int .i64 slot)], [], h⟩ (atEnd (c_store_Open g1 g2 g3 g4 g5).res _)
  have hn := hd.ok.n
  by_cases c1 : slot < 1
  · simp only [c_store_Open, go_sem, reduceIte, Nat.reduceEqDiff, Nat.reduceAdd, Nat.reduceLeDiff, Nat.reducePow, Nat.reduceDiv, Nat.reduceMod, decide_true, decide_eq_true c1]
    exact ⟨Ext.refl _ _, by rw [if_pos (.inl c1)]; trivial⟩
  · have e1 : IntKind.i64.wrap (d.n - 1) = d.n - 1 := wrap_i64 (by omega)
    have e2 : IntKind.i64.wrap ((d.n - 1).tdiv 2) = (d.n - 1) / 2 := by rw [Int.tdiv_eq_ediv_of_nonneg (by omega), wrap_i64 (by omega)]
    simp only [c_store_Open, go_sem, reduceIte, Nat.reduceEqDiff, Nat.reduceAdd, Nat.reduceLeDiff, Nat.reducePow, Nat.reduceDiv, Nat.reduceMod, decide_true, decide_eq_false c1]
    refine use1 h1.1 (h1.2 F h p d hd) ?_
    simp only [go_sem, reduceIte, Nat.reduceEqDiff, Nat.reduceAdd, Nat.reduceLeDiff, Nat.reducePow, Nat.reduceDiv, Nat.reduceMod, decide_true, e1, quo64]
    rw [if_neg (by omega)]
    by_cases c2 : (d.n - 1) / 2 < slot
    · simp only [go_sem, reduceIte, Nat.reduceEqDiff, Nat.reduceAdd, Nat.reduceLeDiff, Nat.reducePow, Nat.reduceDiv, Nat.reduceMod, decide_true, e2, decide_eq_true c2]
      exact ⟨Ext.refl _ _, by rw [if_pos (by omega)]; trivial⟩
    · have hif : ∀ X Y : Prop, (if slot < 1 ∨ d.n < 2 * slot + 1 then X else Y) = Y := fun _ _ => if_neg (by omega)
      simp only [go_sem, reduceIte, Nat.reduceEqDiff, Nat.reduceAdd, Nat.reduceLeDiff, Nat.reducePow, Nat.reduceDiv, Nat.reduceMod, decide_true, e2, decide_eq_false c2, hif]
      refine use1 h2.1 (h2.2 F h p d hd) ?_
      cases c3 : d.off with
      | true =>
        simp only [go_sem, reduceIte, Nat.reduceEqDiff, Nat.reduceAdd, Nat.reduceLeDiff, Nat.reducePow, Nat.reduceDiv, Nat.reduceMod, decide_true]
        exact Ext.refl _ _
      | false =>
        have sr : (AV.raw (Value.pointer none)).scalar = true := rfl
        have cr := cells_of sr
        simp only [go_sem, reduceIte, Nat.reduceEqDiff, Nat.reduceAdd, Nat.reduceLeDiff, Nat.reducePow, Nat.reduceDiv, Nat.reduceMod, decide_true, sr, cr]
        have X1 : Ext nof h (h ++ [some (.arr 5 [[.raw (.pointer none), .ptr p 6 0 0, .int .i64 slot, .int .i64 0, .bool false]] false)]) := Ext.b1 _
        refine use1 h3.1 (h3.2 F _ p d 0 slot (hd.up X1) hb) ?_
        by_cases c4 : (d.load 0 slot).2.2 = 0
        · simp only [go_sem, reduceIte, Nat.reduceEqDiff, Nat.reduceAdd, Nat.reduceLeDiff, Nat.reducePow, Nat.reduceDiv, Nat.reduceMod, decide_true, c4, decide_eq_true (Eq.refl (0 : Int)), Bool.not_true]
          have R2 : (h ++ [some (ABlk.arr 5 [[.raw (.pointer none), .ptr p 6 0 0, .int .i64 slot, .int .i64 (d.load 0 slot).2.1, .bool false]] false)])[h.length]? = some (some (.arr 5 [srowV p 0 ⟨slot, (d.load 0 slot).2.1, none, false⟩] false)) := bx10 _ _
          have X2 : Ext nof h (h ++ [some (ABlk.arr 5 [[.raw (.pointer none), .ptr p 6 0 0, .int .i64 slot, .int .i64 (d.load 0 slot).2.1, .bool false]] false)]) := Ext.b1 _
          generalize h ++ [some (ABlk.arr 5 [[.raw (.pointer none), .ptr p 6 0 0, .int .i64 slot, .int .i64 (d.load 0 slot).2.1, .bool false]] false)] = H2 at *
          refine use1 h4.1 (h4.2 F H2 h.length 0 p ⟨slot, (d.load 0 slot).2.1, none, false⟩ d R2 (hd.up X2) (by simp only; omega)) ?_
          simp only [go_sem, reduceIte, Nat.reduceEqDiff, Nat.reduceAdd, Nat.reduceLeDiff, Nat.reducePow, Nat.reduceDiv, Nat.reduceMod, decide_true]
          refine use1 h5.1 (h5.2 F H2 p d _ _ _ (hd.up X2) hb) ?_
          simp only [go_sem, reduceIte, Nat.reduceEqDiff, Nat.reduceAdd, Nat.reduceLeDiff, Nat.reducePow, Nat.reduceDiv, Nat.reduceMod, decide_true]
          exact ⟨X2, R2⟩
        · simp only [go_sem, reduceIte, Nat.reduceEqDiff, Nat.reduceAdd, Nat.reduceLeDiff, Nat.reducePow, Nat.reduceDiv, Nat.reduceMod, decide_true, decide_eq_false c4, Bool.not_false]
          refine ⟨X1, ?_⟩
          rw [if_neg c4, if_neg c4]
          exact ⟨rfl, trivial⟩

theorem Dk.rest_n {p : List Int} (i e : Int) : ∀ (m k : Nat) (d : Dk), (d.rest i e p m k).1.n = d.n
  | 0, _, _ => rfl
  | m + 1, k, d => by
    have hw : (d.wr i e p k).1.n = d.n := Dk.write_n d _ _
    simp only [Dk.rest]
    split
    · rw [Dk.rest_n i e m (k + 1), hw]
    · exact hw
theorem Dk.save_n (d : Dk) (p : List Int) (at' n e : Int) : (d.save at' n e p).1.n = d.n := by
  unfold Dk.save
  split
  · rfl
  · split
    · rfl
    · have h1 := Dk.rest_n (p := p) (at' + e % 2 * n) e (many p - 1) 1 d
      have h2 : ((d.rest (at' + e % 2 * n) e p (many p - 1) 1).1.mid p).1.n = d.n := by
        unfold Dk.mid; split
        · rw [Dk.flush_n, h1]
        · exact h1
      have h3 : (((d.rest (at' + e % 2 * n) e p (many p - 1) 1).1.mid p).1.end' (at' + e % 2 * n) e p).1.n = d.n := by
        unfold Dk.end'; split
        · rw [Dk.flush_n]; exact (Dk.write_n _ _ _).trans h2
        · exact (Dk.write_n _ _ _).trans h2
      unfold Dk.lay
      split
      · split
        · exact h3
        · exact h2
      · exact h1
theorem sapp_ok {P : Program} {f g1 g2 : FuncId} (hf : Is P f (c_store_Store_Append g1 g2)) (h1 : AppJOk P g1) (h2 : SDiedOk P g2) : SAppOk P f := by
  refine ⟨hf.2, fun F G h s q p d x l a hd hs hF ha hG => fun_sound hf.1 (Nat.le_of_ble_eq_true rfl) ?_⟩
  show vc P (c_store_Store_Append g1 g2).code ⟨[(0, .ptr s 5 0 0), (1, a)], [], h⟩ (atEnd (c_store_Store_Append g1 g2).res _)
  have hr := hs.row
  have hrow := hs.row
  unfold srowV at hr
  unfold Dk.sapp
  cases c1 : x.dead with
  | true =>
    rw [c1] at hr
    simp only [c_store_Store_Append, go_sem, reduceIte, Nat.reduceEqDiff, Nat.reduceAdd, Nat.reduceLeDiff, Nat.reducePow, Nat.reduceDiv, Nat.reduceMod, decide_true, hr]
    exact ⟨hd, hs, Ext.refl _ _⟩
  | false =>
    rw [c1] at hr
    cases e : x.j with
    | none =>
      rw [e, jpV] at hr
      simp only [c_store_Store_Append, go_sem, reduceIte, Nat.reduceEqDiff, Nat.reduceAdd, Nat.reduceLeDiff, Nat.reducePow, Nat.reduceDiv, Nat.reduceMod, decide_true, hr, Bool.not_false, Bool.not_true]
      exact ⟨hd, hs, Ext.refl _ _⟩
    | some j =>
      rw [e, jpV] at hr
      obtain ⟨j1, j2, j3, j4⟩ := hs.jn j e
      simp only [c_store_Store_Append, go_sem, reduceIte, Nat.reduceEqDiff, Nat.reduceAdd, Nat.reduceLeDiff, Nat.reducePow, Nat.reduceDiv, Nat.reduceMod, decide_true, hr, Bool.not_false, Bool.not_true]
      refine wCall_use ⟨h1.1, h1.2 F G h q p d j l a hd j1 j2 j3 hF ha (fun m hm => ⟨(hG m hm).1, (hG m hm).2.1⟩)⟩ ?_
      rintro _ H ⟨rfl, hd2, hj2, hx⟩
      have hs2 : StAt F H s q p { x with j := some (d.japp j l).2.1 } d.n := by
        refine ⟨?_, fun j' hj' => ?_, hs.nf⟩
        · have := (hx.2 s (List.getElem?_eq_some_iff.1 hrow).1 (fun y => y.elim (hs.nf) (fun y => j4 y.symm))).trans hrow
          simp only [srowV, e, jpV] at this ⊢
          exact this
        · simp only [Option.some.injEq] at hj'
          subst hj'
          refine ⟨hj2, ?_, j3, j4⟩
          unfold Dk.japp
          split
          · exact j2
          · split
            · exact j2
            · rename_i c2 c3
              simp only
              split
              · have mp := many_pos l
                obtain ⟨k1, k2, k3, k4⟩ := j2
                exact ⟨by simp only; omega, k2, k3, by simp only; omega⟩
              · exact j2
      simp only [go_sem, reduceIte, Nat.reduceEqDiff, Nat.reduceAdd, Nat.reduceLeDiff, Nat.reducePow, Nat.reduceDiv, Nat.reduceMod, decide_true]
      refine wCall_use ⟨h2.1, h2.2 F H s q p _ d.n _ hs2⟩ ?_
      rintro _ H2 ⟨rfl, hs3, hx2⟩
      simp only [go_sem, reduceIte, Nat.reduceEqDiff, Nat.reduceAdd, Nat.reduceLeDiff, Nat.reducePow, Nat.reduceDiv, Nat.reduceMod, decide_true]
      refine ⟨hd2.mono (fun _ y => y) (hx2.keepOff (F' := F) fun m _ hm y => hs.nf (y ▸ hm)), ?_, hx.trans hx2 (fun m _ y => y.imp id .inl) (fun m _ y => .inr (.inr y))⟩
      simpa [c1] using hs3
theorem sren_ok {P : Program} {f g1 g2 g3 g4 : FuncId} (hf : Is P f (c_store_Store_Renew g1 g2 g3 g4)) (h1 : SaveGOk P g1) (h2 : SDiedOk P g2) (h3 : SPlaceOk P g3) (h4 : JNewOk P g4) : SRenOk P f := by
  refine ⟨hf.2, fun F G h s q p d x l a hd hs hF ha hG hsl hep => fun_sound hf.1 (Nat.le_of_ble_eq_true rfl) ?_⟩
  show vc P (c_store_Store_Renew g1 g2 g3 g4).code ⟨[(0, .ptr s 5 0 0), (1, a)], [], h⟩ (atEnd (c_store_Store_Renew g1 g2 g3 g4).res _)
  have hr := hs.row
  have hrow := hs.row
  unfold srowV at hr
  unfold Dk.sren
  unfold maxNo at hep
  have e1 : IntKind.i64.wrap (x.epoch + 1) = x.epoch + 1 := wrap_i64 (by omega)
  cases c1 : x.dead with
  | true =>
    rw [c1] at hr
    simp only [c_store_Store_Renew, go_sem, reduceIte, Nat.reduceEqDiff, Nat.reduceAdd, Nat.reduceLeDiff, Nat.reducePow, Nat.reduceDiv, Nat.reduceMod, decide_true, hr]
    exact ⟨hd, ⟨q, hs, .inl rfl⟩, Ext.refl _ _⟩
  | false =>
    rw [c1] at hr
    simp only [c_store_Store_Renew, go_sem, reduceIte, Nat.reduceEqDiff, Nat.reduceAdd, Nat.reduceLeDiff, Nat.reducePow, Nat.reduceDiv, Nat.reduceMod, decide_true, hr, e1]
    refine wCall_use ⟨h1.1, h1.2 F G h p d 0 x.slot (x.epoch + 1) l a hd ha (fun m hm => (hG m hm).1) hF⟩ ?_
    rintro _ H ⟨rfl, hd2, hx⟩
    have n2 : (d.save 0 x.slot (x.epoch + 1) (eff l)).1.n = d.n := Dk.save_n d (eff l) 0 x.slot (x.epoch + 1)
    have stay : ∀ {m : Nat} {v : Option ABlk}, h[m]? = some v → ¬ F m → H[m]? = some v := fun hv hm => (hx.2 _ (List.getElem?_eq_some_iff.1 hv).1 hm).trans hv
    have hrow2 := stay hrow hs.nf
    have hs2 : StAt F H s q p x d.n := ⟨hrow2, fun j hj => ⟨stay (hs.jn j hj).1 (hs.jn j hj).2.2.1, (hs.jn j hj).2⟩, hs.nf⟩
    have hr2 := hrow2
    unfold srowV at hr2
    rw [c1] at hr2
    rw [kDB_mk0]
    simp only [go_sem, reduceIte, Nat.reduceEqDiff, Nat.reduceAdd, Nat.reduceLeDiff, Nat.reducePow, Nat.reduceDiv, Nat.reduceMod, decide_true, hr2]
    generalize hd' : (d.save 0 x.slot (x.epoch + 1) (eff l)).1 = d' at *
    generalize (d.save 0 x.slot (x.epoch + 1) (eff l)).2 = er at *
    refine wCall_use ⟨h2.1, h2.2 F H s q p x d.n er hs2⟩ ?_
    rintro _ H2 ⟨rfl, hs3, hx2⟩
    rw [c1, Bool.false_or] at hs3
    have hr3 := hs3.row
    unfold srowV at hr3
    simp only at hr3
    rw [kDB_mk0]
    have hd3 : DiskAt F H2 p d' := hd2.mono (fun _ y => y) (hx2.keepOff (F' := F) fun m _ hm y => hs.nf (y ▸ hm))
    have X2 : Ext (fun m => F m ∨ m = s) h H2 := hx.trans hx2 (fun m _ y => .inl y) (fun m _ y => .inr y)
    by_cases c2 : er = 0
    · subst c2
      have d0 : decide ((0 : Int) = 10) = false := rfl
      have ls : s < H2.length := (List.getElem?_eq_some_iff.1 hr3).1
      have ss : s = s := rfl
      rw [d0] at hr3
      simp only [go_sem, reduceIte, Nat.reduceEqDiff, Nat.reduceAdd, Nat.reduceLeDiff, Nat.reducePow, Nat.reduceDiv, Nat.reduceMod, decide_true, hr3, e1, decide_eq_true (Eq.refl (0 : Int)), Bool.not_true, ls]
      have R4 : (H2.set s (some (.arr 5 [[jpV q x.j, .ptr p 6 0 0, .int .i64 x.slot, .int .i64 (x.epoch + 1), .bool false]] false)))[s]? = some (some (.arr 5 [srowV p q ⟨x.slot, x.epoch + 1, x.j, false⟩] false)) := List.getElem?_set_self ls
      have w4 : Ext (fun m => m = s) H2 (H2.set s (some (.arr 5 [[jpV q x.j, .ptr p 6 0 0, .int .i64 x.slot, .int .i64 (x.epoch + 1), .bool false]] false))) := Ext.set _ (fun _ => rfl)
      generalize H2.set s (some (.arr 5 [[jpV q x.j, .ptr p 6 0 0, .int .i64 x.slot, .int .i64 (x.epoch + 1), .bool false]] false)) = H4 at *
      have hd4 : DiskAt F H4 p d' := hd3.mono (fun _ y => y) (w4.keepOff (F' := F) fun m _ hm y => hs.nf (y ▸ hm))
      refine use1 h3.1 (h3.2 F H4 s q p ⟨x.slot, x.epoch + 1, x.j, false⟩ d' R4 hd4 (by simp only; omega)) ?_
      have R4' := R4
      unfold srowV at R4'
      simp only at R4'
      simp only [go_sem, reduceIte, Nat.reduceEqDiff, Nat.reduceAdd, Nat.reduceLeDiff, Nat.reducePow, Nat.reduceDiv, Nat.reduceMod, decide_true, R4']
      refine wCall_use ⟨h4.1, h4.2 F H4 p d' (2 * x.slot) (d'.n - 2 * x.slot) (x.epoch + 1) hd4⟩ ?_
      rintro r H5 ⟨q1, -, X5⟩
      obtain ⟨rfl, hj5⟩ := q1 ⟨by omega, by omega, by omega, by omega, by unfold maxNo; omega⟩
      rw [kDB_mk0]
      have R5 := X5.get R4'
      have l5 : s < H5.length := (List.getElem?_eq_some_iff.1 R5).1
      simp only [go_sem, reduceIte, Nat.reduceEqDiff, Nat.reduceAdd, Nat.reduceLeDiff, Nat.reducePow, Nat.reduceDiv, Nat.reduceMod, decide_true, R5, l5]
      have w5 : Ext (fun m => m = s) H5 (H5.set s (some (.arr 5 [[.ptr H4.length 5 0 0, .ptr p 6 0 0, .int .i64 x.slot, .int .i64 (x.epoch + 1), .bool false]] false))) := Ext.set _ (fun _ => rfl)
      have X4 : Ext (fun m => F m ∨ m = s) h H4 := X2.trans w4 (fun _ _ y => y) (fun m _ y => .inr y)
      have X6 : Ext (fun m => F m ∨ m = s) h (H5.set s (some (.arr 5 [[.ptr H4.length 5 0 0, .ptr p 6 0 0, .int .i64 x.slot, .int .i64 (x.epoch + 1), .bool false]] false))) := (X4.trans X5 (fun _ _ y => y) (fun _ _ y => y.elim)).trans w5 (fun _ _ y => y) (fun m _ y => .inr y)
      have hj6 : JAt H5 H4.length p (jnew (2 * x.slot) (d'.n - 2 * x.slot) (x.epoch + 1)) := hj5
      have l4 : s < H4.length := (List.getElem?_eq_some_iff.1 R4').1
      refine ⟨(hd4.up X5).mono (fun _ y => y) (w5.keepOff (F' := F) fun m _ hm y => hs.nf (y ▸ hm)), ⟨H4.length, ⟨List.getElem?_set_self l5, fun j hj => ?_, hs.nf⟩, .inr X4.1⟩, X6⟩
      simp only [Option.some.injEq] at hj
      subst hj
      rw [n2] at hj6
      refine ⟨?_, ?_, fun y => by have := hF _ y; have := X4.1; omega, by omega⟩
      · unfold JAt
        rw [List.getElem?_set_ne (by omega)]
        exact hj6
      · exact ⟨by simp only [jnew]; omega, by simp only [jnew]; omega, by simp only [jnew]; unfold maxNo; omega, by simp only [jnew]; omega⟩
    · have d0 : ∀ er : Int, decide (er = 10) = (x.dead || decide (er = 10)) := fun er => by rw [c1, Bool.false_or]
      simp only [go_sem, reduceIte, Nat.reduceEqDiff, Nat.reduceAdd, Nat.reduceLeDiff, Nat.reducePow, Nat.reduceDiv, Nat.reduceMod, decide_true, hr3, decide_eq_false c2, Bool.not_false]
      rw [if_neg c2]
      exact ⟨rfl, hd3, ⟨q, hs3, .inl rfl⟩, X2⟩

end Glb

/-
  Layer 9: a store under way; the laws' helpers.
-/
namespace Glb
open Go
set_option maxRecDepth 10000
set_option maxHeartbeats 8000000

def sof (slot E n : Int) (R : List (List Int)) (i : Option Int) : St9 := ⟨slot, E, i.map fun i => jof (2 * slot) (n - 2 * slot) E R i, false⟩
/-- a store under way: i: where its journal goes on; none: it is not ready -/
structure SX (F : Nat → Prop) (h : AHeap) (s q p : Nat) (d : Dk) (slot E : Int) (c : List Int) (R : List (List Int)) (i : Option Int) : Prop where
  dk : DiskAt F h p d
  st : StAt F h s q p (sof slot E d.n R i) d.n
  sd : SD d slot E c R
  js : ∀ k, i = some k → JS d (2 * slot) (d.n - 2 * slot) E R k
  lt : ∀ m, F m → m < h.length
theorem SX.up {F h s q p d slot E c R i h'} (x : SX F h s q p d slot E c R i) (hx : Ext nof h h') : SX F h' s q p d slot E c R i :=
  ⟨x.dk.up hx, x.st.up hx, x.sd, x.js, fun m hm => Nat.lt_of_lt_of_le (x.lt m hm) hx.1⟩
/-- a store that is dead, on a disk without power -/
structure SDead (F : Nat → Prop) (h : AHeap) (s q p : Nat) (d : Dk) (n : Int) (A B : Dk → Prop) : Prop where
  dk : DiskAt F h p d
  st : ∃ x : St9, StAt F h s q p x n ∧ x.dead = true ∧ 1 ≤ x.slot ∧ 2 * x.slot + 1 ≤ n ∧ 0 ≤ x.epoch ∧ x.epoch < maxNo
  ok : d.ok
  bts : d.bts
  off : d.off = true
  dn : d.n = n
  after : ∀ how, A (d.crash how) ∨ B (d.crash how)

theorem SX.renew {P : Program} {f : FuncId} (hs : SRenOk P f) {F h s q p d slot E c R i} (x : SX F h s q p d slot E c R i) {G : Nat → Prop} {l : List Int} {v : AV} (hv : Rd G h (dBytes l) v) (hG : ∀ m, G m → ¬ F m ∧ m ≠ s) (hb : bytesOk l) (hE : E + 1 < maxNo) :
    ACalls P f [.ptr s 5 0 0, v] h fun r h' => Ext (fun m => F m ∨ m = s) h h' ∧
      ((slot < many (eff l) ∧ r = .int .i64 2 ∧ ∃ q', SX F h' s q' p d slot E c R i ∧ (q' = q ∨ h.length ≤ q')) ∨
       ((many (eff l) : Int) ≤ slot ∧ r = .int .i64 0 ∧ ∃ d' q', SX F h' s q' p d' slot (E + 1) (eff l) [] (some (2 * slot)) ∧ d'.n = d.n ∧ (d.left < 0 → d'.left < 0) ∧ (q' = q ∨ h.length ≤ q')) ∨
       ((many (eff l) : Int) ≤ slot ∧ r = .int .i64 10 ∧ 0 ≤ d.left ∧ ∃ d' q', SDead F h' s q' p d' d.n (fun e => SD e slot E c R) (fun e => SD e slot (E + 1) (eff l) []) ∧ (q' = q ∨ h.length ≤ q'))) := by
  have hsl := x.sd.sl
  have hep := x.sd.ep
  refine (hs.2 F G h s q p d (sof slot E d.n R i) l v x.dk x.st x.lt hv hG hsl hep).mono ?_
  rintro r h' ⟨hr, hd, ⟨q', hst, hq'⟩, hx⟩
  have lt : ∀ m, F m → m < h'.length := fun m hm => Nat.lt_of_lt_of_le (x.lt m hm) hx.1
  refine ⟨hx, ?_⟩
  have e0 : (sof slot E d.n R i).dead = false := rfl
  by_cases cl : slot < many (eff l)
  · have es : d.save 0 slot (E + 1) (eff l) = (d, 2) := by
      unfold Dk.save
      rw [if_neg (by rintro (y | y | y); exact y x.sd.ck.may; omega; omega), if_pos cl]
    have e1 : d.sren (sof slot E d.n R i) l = (d, sof slot E d.n R i, 2) := by
      unfold Dk.sren
      simp [sof, es]
    rw [e1] at hr hd hst
    exact .inl ⟨cl, hr, q', ⟨hd, hst, x.sd, x.js, lt⟩, hq'⟩
  · right
    have cl' : (many (eff l) : Int) ≤ slot := by omega
    rcases x.sd.save cl' (by have := x.dk.ok.n; unfold many at cl'; omega) (bytesOk_eff hb) hE with ⟨d', s1, s2, s3, s4, s5⟩ | ⟨d', s1, s2, s3, s4, s5, s6, s7⟩
    · have e1 : d.sren (sof slot E d.n R i) l = (d', sof slot (E + 1) d'.n [] (some (2 * slot)), 0) := by
        unfold Dk.sren
        simp [sof, s1, s4, jof, jnew]
      rw [e1] at hr hd hst
      refine .inl ⟨cl', hr, d', q', ⟨hd, ?_, s2, ?_, lt⟩, s4, s5, hq'⟩
      · rw [s4] at hst ⊢; exact hst
      · intro k hk
        cases hk
        rw [s4]; exact s3
    · have e1 : d.sren (sof slot E d.n R i) l = (d', { sof slot E d.n R i with dead := true }, 10) := by
        unfold Dk.sren
        simp [sof, s1]
      rw [e1] at hr hd hst
      exact .inr ⟨cl', hr, s6, d', q', ⟨hd, ⟨_, hst, rfl, hsl.1, hsl.2, hep.1, hep.2⟩, s2, s3, s4, s5, s7⟩, hq'⟩

theorem SX.append {P : Program} {f : FuncId} (hs : SAppOk P f) {F h s q p d slot E c R i} (x : SX F h s q p d slot E c R i) {G : Nat → Prop} {l : List Int} {v : AV} (hv : Rd G h (dBytes l) v) (hG : ∀ m, G m → ¬ F m ∧ m ≠ q ∧ m ≠ s) (hb : bytesOk l) :
    ACalls P f [.ptr s 5 0 0, v] h fun r h' => Ext (fun m => F m ∨ m = q ∨ m = s) h h' ∧
      ((i = none ∧ r = .int .i64 12 ∧ SX F h' s q p d slot E c R i) ∨
       (32768 < l.length ∧ i ≠ none ∧ r = .int .i64 2 ∧ SX F h' s q p d slot E c R i) ∨
       (l.length ≤ 32768 ∧ (∃ k, i = some k ∧ d.n - k < many l) ∧ r = .int .i64 8 ∧ SX F h' s q p d slot E c R i) ∨
       (l.length ≤ 32768 ∧ r = .int .i64 0 ∧ ∃ d' k, i = some k ∧ many l ≤ d.n - k ∧ SX F h' s q p d' slot E c (R ++ [l]) (some (k + many l)) ∧ d'.n = d.n ∧ (d.left < 0 → d'.left < 0)) ∨
       (i ≠ none ∧ r = .int .i64 10 ∧ 0 ≤ d.left ∧ ∃ d', SDead F h' s q p d' d.n (fun e => SD e slot E c R) (fun e => SD e slot E c (R ++ [l])))) := by
  have hsl := x.sd.sl
  have hep := x.sd.ep
  refine (hs.2 F G h s q p d (sof slot E d.n R i) l v x.dk x.st x.lt hv hG).mono ?_
  rintro r h' ⟨hr, hd, hst, hx⟩
  have lt : ∀ m, F m → m < h'.length := fun m hm => Nat.lt_of_lt_of_le (x.lt m hm) hx.1
  refine ⟨hx, ?_⟩
  cases i with
  | none => exact .inl ⟨rfl, hr, hd, hst, x.sd, x.js, lt⟩
  | some k =>
    have js := x.js k rfl
    have e1 : d.sapp (sof slot E d.n R (some k)) l = ((d.japp (jof (2 * slot) (d.n - 2 * slot) E R k) l).1, { sof slot E d.n R (some k) with j := some (d.japp (jof (2 * slot) (d.n - 2 * slot) E R k) l).2.1, dead := decide ((d.japp (jof (2 * slot) (d.n - 2 * slot) E R k) l).2.2 = 10) }, (d.japp (jof (2 * slot) (d.n - 2 * slot) E R k) l).2.2) := rfl
    rw [e1] at hr hd hst
    right
    by_cases c1 : 32768 < l.length
    · have e2 : d.japp (jof (2 * slot) (d.n - 2 * slot) E R k) l = (d, jof (2 * slot) (d.n - 2 * slot) E R k, 2) := by unfold Dk.japp; rw [if_pos c1]
      rw [e2] at hr hd hst
      exact .inl ⟨c1, by simp, hr, hd, hst, x.sd, x.js, lt⟩
    · right
      rcases x.sd.append js (by omega) hb with ⟨h1, h2⟩ | ⟨h1, d', h2, h3, h4, h5, h6⟩ | ⟨h1, d', h2, h3, h4, h5, h6, h7, h8⟩
      · rw [h2] at hr hd hst
        exact .inl ⟨by omega, ⟨k, rfl, h1⟩, hr, hd, hst, x.sd, x.js, lt⟩
      · rw [h2] at hr hd hst
        refine .inr (.inl ⟨by omega, hr, d', k, rfl, h1, ⟨hd, ?_, h3, fun k' hk' => by cases hk'; rw [h5]; exact h4, lt⟩, h5, h6⟩)
        rw [h5]
        exact hst
      · rw [h2] at hr hd hst
        exact .inr (.inr ⟨by simp, hr, h7, d', ⟨hd, ⟨_, hst, rfl, hsl.1, hsl.2, hep.1, hep.2⟩, h3, h4, h5, h6, h8⟩⟩)

theorem SX.epoch {P : Program} {f : FuncId} (ho : SEpochOk P f) {F h s q p d slot E c R i} (x : SX F h s q p d slot E c R i) : ACalls P f [.ptr s 5 0 0] h fun r h' => r = .int .i64 E ∧ h' = h := ho.2 F h s q p _ _ x.st
theorem SX.count {P : Program} {f : FuncId} (ho : SCountOk P f) {F h s q p d slot E c R i} (x : SX F h s q p d slot E c R i) : ACalls P f [.ptr s 5 0 0] h fun r h' => r = .int .i64 (if i = none then 0 else R.length) ∧ h' = h := by
  have := ho.2 F h s q p _ _ x.st
  cases i with
  | none => exact this
  | some k => exact this
/-- what is opened -/
theorem SD.opens {P : Program} {f : FuncId} (ho : SOpenOk P f) {F h p d slot E c R} (x : SD d slot E c R) (hd : DiskAt F h p d) (hF : ∀ m, F m → m < h.length) : ACalls P f [.ptr p 6 0 0, .int .i64 slot] h fun r h' => Ext nof h h' ∧
    SX F h' h.length h.length p d slot E c R none ∧ ∃ cv rv, r = .tup [.ptr h.length 5 0 0, cv, rv, .int .i64 0] ∧ Rd nof [] (dBytes c) cv ∧ Rd nof [] (dRows R) rv ∧ alen cv = some (.int .i64 c.length) ∧ alen rv = some (.int .i64 R.length) := by
  refine (ho.2 F h p d slot hd x.bts).mono ?_
  rintro r h' ⟨hx, hr⟩
  have hs := x.sl
  have hep := x.ep
  rw [if_neg (by omega), x.ck.off] at hr
  simp only [Bool.false_eq_true, if_false] at hr
  obtain ⟨hrow, hr⟩ := hr
  have nF : ¬ F h.length := fun y => by have := hF _ y; omega
  have st : ∀ e, (if (d.load 0 slot).2.2 = 0 then (d.load 0 slot).2.1 else 0) = e → e = E → StAt F h' h.length h.length p (sof slot E d.n R none) d.n := fun e h1 h2 => ⟨by rw [h1, h2] at hrow; exact hrow, fun j hj => (by cases hj), nF⟩
  have hl := x.load
  refine ⟨hx, ?_⟩
  by_cases e : E = 0
  · obtain ⟨rfl, rfl⟩ := x.zero e
    rw [if_pos e] at hl
    rw [hl] at hr st
    rw [if_neg (by simp)] at hr
    refine ⟨⟨hd.up hx, st 0 rfl e.symm, x, fun k hk => (by cases hk), fun m hm => Nat.lt_of_lt_of_le (hF m hm) hx.1⟩, _, _, hr, Own.rd _ (fun _ x => x) _ (Own.nils 1), Own.rd _ (fun _ x => x) _ (Own.nils 1), rfl, rfl⟩
  · rw [if_neg e] at hl
    rw [hl] at hr st
    rw [if_pos rfl, x.recs (by omega)] at hr
    exact ⟨⟨hd.up hx, st E rfl rfl, x, fun k hk => (by cases hk), fun m hm => Nat.lt_of_lt_of_le (hF m hm) hx.1⟩, _, _, hr, rd_abytes _ _ _, rd_arows _ _ _, len_abytes _, len_arows _⟩

end Glb

/-
  Layer 9: the law of what is known.
-/
namespace Glb
open Go
set_option maxRecDepth 10000
set_option maxHeartbeats 8000000

theorem litV_eq (l : List Int) : litV l = abytes l := by
  unfold litV abytes dBytes
  simp [D.av, avLL_map, D.avL]
theorem bok1 {x : Int} (h : 0 ≤ x ∧ x ≤ 255) : bytesOk [x] := fun y hy => by simp at hy; subst hy; omega

theorem rd_nof {F : Nat → Prop} {h : AHeap} {d : D} {a : AV} (x : Rd nof [] d a) : Rd F h d a := Rd.mono (fun _ y => y.elim) (fun _ y => y.elim) _ _ x

theorem known9_ok {P : Program} {f fn fo fe fa fr fc fb fs : FuncId} (hf : IsR P false f (r_glebelaw09_known fn fo fe fa fr fc fb fs)) (hn : NewDOk P fn) (ho : SOpenOk P fo) (he : SEpochOk P fe) (ha : SAppOk P fa) (hr : SRenOk P fr) (hc : SCountOk P fc) (hb : SameOk P fb .u8) (hs : SameRowsR P fs) : YesOk P f := by
  refine ⟨hf.1, fun h => ACalls.freeze (K := fun r h' => r = .bool true ∧ Ext nof h h') (rfun_sound hf.2 (Nat.le_of_ble_eq_true rfl) ?_) (fun r _ ⟨e, hx⟩ => ⟨hx, r, by rw [e]; exact Frz.bool _, e⟩)⟩
  show rvc P 0 (fun _ _ _ => False) (r_glebelaw09_known fn fo fe fa fr fc fb fs).code ⟨none, false, ⟨[], [], h⟩⟩ (atEndR (r_glebelaw09_known fn fo fe fa fr fc fb fs).res _)
  simp only [r_glebelaw09_known, go_sem, reduceIte, Nat.reduceEqDiff, Nat.reduceAdd, Nat.reduceLeDiff, Nat.reducePow, Nat.reduceDiv, Nat.reduceMod, decide_true]
  refine wCall_use ⟨hn.1, hn.2 h 12⟩ ?_
  rintro r H ⟨e1, -, X⟩
  obtain ⟨p, rfl, a⟩ := e1 (by omega)
  obtain ⟨F, a, hF, hF2⟩ : ∃ F : Nat → Prop, DiskAt F H p (Dk.new 12) ∧ (∀ m, F m → m < H.length) ∧ (∀ m, m < h.length → ¬ F m) := ⟨_, a, fun m x => x.2, fun m x y => by have := y.1; omega⟩
  have sd0 : SD (Dk.new 12) 2 0 [] [] := SD.new (by omega) (by omega)
  have l0 : (Dk.new 12).left < 0 := by show (-1 : Int) < 0; omega
  simp only [go_sem, reduceIte, Nat.reduceEqDiff, Nat.reduceAdd, Nat.reduceLeDiff, Nat.reducePow, Nat.reduceDiv, Nat.reduceMod, decide_true]
  refine wCall_use ⟨ho.1, sd0.opens ho a hF⟩ ?_
  rintro _ H1 ⟨X1, x0, cv, rv, rfl, -, -, lc, lr⟩
  obtain ⟨s, hs'⟩ : ∃ s, s = H.length := ⟨_, rfl⟩
  rw [← hs'] at x0 ⊢
  have d0 : (Dk.new 12).n = 12 := rfl
  generalize Dk.new 12 = dk at *
  have lc : alen cv = some (.int .i64 0) := lc
  have lr : alen rv = some (.int .i64 0) := lr
  have w0 : IntKind.i64.wrap (0 + 0) = 0 := wrap_i64 (by omega)
  have g0 : decide ((0 : Int) < 0) = false := rfl
  simp only [go_sem, reduceIte, Nat.reduceEqDiff, Nat.reduceAdd, Nat.reduceLeDiff, Nat.reducePow, Nat.reduceDiv, Nat.reduceMod, decide_true, lc, lr, w0, g0]
  refine use1 he.1 (x0.epoch he) ?_
  simp only [go_sem, reduceIte, Nat.reduceEqDiff, Nat.reduceAdd, Nat.reduceLeDiff, Nat.reducePow, Nat.reduceDiv, Nat.reduceMod, decide_true, dI00]
  have ls1 : s < H1.length := (List.getElem?_eq_some_iff.1 x0.st.row).1
  have hsh : h.length ≤ s := by rw [hs']; exact X.1
  refine wCall_use ⟨ha.1, (x0.up (Ext.b1 _)).append ha (G := fun m => H1.length ≤ m) (rd_litF (k := .u8) (xs := [1]) (bx10 _ _) rfl (Nat.le_refl _) : Rd (fun m => H1.length ≤ m) _ (dBytes [1]) _) (fun m hm => ⟨fun y => by have := x0.lt m y; omega, by omega, by omega⟩) (bok1 (by omega))⟩ ?_
  rintro r H2 ⟨Y2, ⟨-, rfl, x1⟩ | ⟨-, g, -⟩ | ⟨-, ⟨k, g, -⟩, -⟩ | ⟨-, -, d', k, g, -⟩ | ⟨g, -⟩⟩
  rotate_left
  · exact absurd rfl g
  · cases g
  · cases g
  · exact absurd rfl g
  have d12 : decide ((12 : Int) = 12) = true := rfl
  simp only [go_sem, reduceIte, Nat.reduceEqDiff, Nat.reduceAdd, Nat.reduceLeDiff, Nat.reducePow, Nat.reduceDiv, Nat.reduceMod, decide_true, d12, Bool.not_true, litV_eq]
  refine wCall_use ⟨hr.1, x1.renew hr (G := nof) (rd_abytes _ _ _) (fun m hm => hm.elim) (bok1 (by omega)) (by unfold maxNo; omega)⟩ ?_
  have m97 : ∀ x : Int, many [x] = 1 := fun x => by unfold many; simp
  rw [eff_small (by simp)]
  rintro r H3 ⟨Y3, ⟨g, -⟩ | ⟨-, rfl, d1, q1, x2, n1, l1, hq1⟩ | ⟨-, -, g, -⟩⟩
  · rw [m97] at g; omega
  rotate_left
  · omega
  have l1 := l1 l0
  rw [show (0 : Int) + 1 = 1 from rfl] at x2
  simp only [go_sem, reduceIte, Nat.reduceEqDiff, Nat.reduceAdd, Nat.reduceLeDiff, Nat.reducePow, Nat.reduceDiv, Nat.reduceMod, decide_true, dI00, Bool.not_true, litV_eq]
  refine wCall_use ⟨ha.1, x2.append ha (G := nof) (rd_abytes _ _ _) (fun m hm => hm.elim) (bok1 (by omega))⟩ ?_
  rintro r H4 ⟨Y4, ⟨g, -⟩ | ⟨g, -⟩ | ⟨-, ⟨k, g, g2⟩, -⟩ | ⟨-, rfl, d2, k, g, -, x3, n2, l2⟩ | ⟨-, -, g, -⟩⟩
  · cases g
  · simp at g
  · cases g; simp only [m97] at g2; omega
  rotate_left
  · omega
  cases g
  have l2 := l2 l1
  simp only [go_sem, reduceIte, Nat.reduceEqDiff, Nat.reduceAdd, Nat.reduceLeDiff, Nat.reducePow, Nat.reduceDiv, Nat.reduceMod, decide_true, dI00, Bool.not_true, litV_eq]
  refine wCall_use ⟨ha.1, x3.append ha (G := nof) (rd_abytes _ _ _) (fun m hm => hm.elim) (bok1 (by omega))⟩ ?_
  rintro r H5 ⟨Y5, ⟨g, -⟩ | ⟨g, -⟩ | ⟨-, ⟨k, g, g2⟩, -⟩ | ⟨-, rfl, d3, k, g, -, x4, n3, l3⟩ | ⟨-, -, g, -⟩⟩
  · cases g
  · simp at g
  · cases g; simp only [m97] at g2; omega
  rotate_left
  · omega
  cases g
  simp only [go_sem, reduceIte, Nat.reduceEqDiff, Nat.reduceAdd, Nat.reduceLeDiff, Nat.reducePow, Nat.reduceDiv, Nat.reduceMod, decide_true, dI00, Bool.not_true]
  refine use1 he.1 (x4.epoch he) ?_
  simp only [go_sem, reduceIte, Nat.reduceEqDiff, Nat.reduceAdd, Nat.reduceLeDiff, Nat.reducePow, Nat.reduceDiv, Nat.reduceMod, decide_true, show decide ((1 : Int) = 1) = true from rfl, Bool.not_true]
  refine use1 hc.1 (x4.count hc) ?_
  rw [if_neg (by simp)]
  simp only [go_sem, reduceIte, Nat.reduceEqDiff, Nat.reduceAdd, Nat.reduceLeDiff, Nat.reducePow, Nat.reduceDiv, Nat.reduceMod, decide_true, List.nil_append, List.length_append, List.length_cons, List.length_nil, Nat.zero_add, Nat.reduceAdd, show ((2 : Nat) : Int) = 2 from rfl, show decide ((2 : Int) = 2) = true from rfl, Bool.not_true]
  have ls5 : s < H5.length := (List.getElem?_eq_some_iff.1 x4.st.row).1
  refine wCall_use ⟨ho.1, x4.sd.opens ho x4.dk x4.lt⟩ ?_
  rintro _ H6 ⟨X6, x5, cv2, rv2, rfl, rc, rr, -, -⟩
  simp only [go_sem, reduceIte, Nat.reduceEqDiff, Nat.reduceAdd, Nat.reduceLeDiff, Nat.reducePow, Nat.reduceDiv, Nat.reduceMod, decide_true, dI00]
  refine use1 he.1 (x5.epoch he) ?_
  simp only [go_sem, reduceIte, Nat.reduceEqDiff, Nat.reduceAdd, Nat.reduceLeDiff, Nat.reducePow, Nat.reduceDiv, Nat.reduceMod, decide_true, show decide ((1 : Int) = 1) = true from rfl]
  refine use1 hc.1 (x5.count hc) ?_
  rw [if_pos rfl]
  simp only [go_sem, reduceIte, Nat.reduceEqDiff, Nat.reduceAdd, Nat.reduceLeDiff, Nat.reducePow, Nat.reduceDiv, Nat.reduceMod, decide_true, dI00, litV_eq]
  refine use1 hb.1 (hb.2 (fun _ => True) H6 [97] [97] cv2 (abytes [97]) (rd_nof rc) (rd_abytes _ _ _) (by simp)) ?_
  have sv : ∀ l, (abytes l).scalar = true := fun l => (rd_abytes nof [] l).scalar
  simp only [go_sem, reduceIte, Nat.reduceEqDiff, Nat.reduceAdd, Nat.reduceLeDiff, Nat.reducePow, Nat.reduceDiv, Nat.reduceMod, decide_true, decide_eq_true (Eq.refl ([97] : List Int)), litV_eq, sv, cells_of (sv _)]
  refine use1 hs.1 (hs.2 nof (fun _ => True) _ [[98], [99]] [[98], [99]] rv2 _ (rd_nof rr) (rd_lit1 (bx10 _ _) rfl trivial ⟨_, _, rfl, ⟨_, _, rfl, rd_abytes _ _ _, rfl⟩, _, _, rfl, ⟨_, _, rfl, rd_abytes _ _ _, rfl⟩, rfl⟩) (by simp) (by intro b hb; simp at hb; rcases hb with rfl | rfl <;> simp)) ?_
  simp only [go_sem, reduceIte, Nat.reduceEqDiff, Nat.reduceAdd, Nat.reduceLeDiff, Nat.reducePow, Nat.reduceDiv, Nat.reduceMod, decide_true, decide_eq_true (Eq.refl ([[98], [99]] : List (List Int)))]
  have lq1 : h.length ≤ q1 := by rcases hq1 with e | e; omega; have := Y2.1; simp at this; omega
  have o1 : ∀ m, m < h.length → ¬ (F m ∨ m = s ∨ m = s) := fun m hm => by rintro (y | y | y); exact hF2 m hm y; omega; omega
  have o2 : ∀ m, m < h.length → ¬ (F m ∨ m = s) := fun m hm => by rintro (y | y); exact hF2 m hm y; omega
  have o3 : ∀ m, m < h.length → ¬ (F m ∨ m = q1 ∨ m = s) := fun m hm => by rintro (y | y | y); exact hF2 m hm y; omega; omega
  exact ((((((((X.tr X1).tr (Ext.b1 _)).then Y2 o1).then Y3 o2).then Y4 o3).then Y5 o3).tr X6).tr (Ext.b1 _))

end Glb
