/-
  Layer 7: JournalKnown.
-/
import Derived.Test.YtdlklnoffbfjmaaGlbJouB
import Derived.Test.YtdlklnoffbfjmaaGlbKnown13
set_option linter.unusedSimpArgs false
set_option linter.unusedVariables false
namespace Glb
open Go
set_option maxRecDepth 10000
set_option maxHeartbeats 8000000

def plc07 : List (List Int) := [[4, 5, 7], [0, 8, 0], [-1, 2, 7], [0, 0, 7], [9, 1, 7], [8, 1, 7], [0, 8, 1099511627776], [0, 8, 1099511627777], [7, 1, 1], [9223372036854775807, 9223372036854775807, 1], [0, 9223372036854775807, 1], [-9223372036854775808, 1, 1]]
def lit07 (n : Nat) : AHeap := [some (.arr 1 [[.int .i64 4], [.int .i64 5], [.int .i64 7]] false), some (.arr 1 [[.int .i64 0], [.int .i64 8], [.int .i64 0]] false), some (.arr 1 [[.int .i64 (-1)], [.int .i64 2], [.int .i64 7]] false),
  some (.arr 1 [[.int .i64 0], [.int .i64 0], [.int .i64 7]] false), some (.arr 1 [[.int .i64 9], [.int .i64 1], [.int .i64 7]] false), some (.arr 1 [[.int .i64 8], [.int .i64 1], [.int .i64 7]] false),
  some (.arr 1 [[.int .i64 0], [.int .i64 8], [.int .i64 1099511627776]] false), some (.arr 1 [[.int .i64 0], [.int .i64 8], [.int .i64 1099511627777]] false), some (.arr 1 [[.int .i64 7], [.int .i64 1], [.int .i64 1]] false),
  some (.arr 1 [[.int .i64 9223372036854775807], [.int .i64 9223372036854775807], [.int .i64 1]] false), some (.arr 1 [[.int .i64 0], [.int .i64 9223372036854775807], [.int .i64 1]] false), some (.arr 1 [[.int .i64 (-9223372036854775808)], [.int .i64 1], [.int .i64 1]] false),
  some (.arr 1 [[.ref n 1 0 3 (some 3)], [.ref (n + 1) 1 0 3 (some 3)], [.ref (n + 2) 1 0 3 (some 3)], [.ref (n + 3) 1 0 3 (some 3)], [.ref (n + 4) 1 0 3 (some 3)], [.ref (n + 5) 1 0 3 (some 3)], [.ref (n + 6) 1 0 3 (some 3)], [.ref (n + 7) 1 0 3 (some 3)], [.ref (n + 8) 1 0 3 (some 3)], [.ref (n + 9) 1 0 3 (some 3)], [.ref (n + 10) 1 0 3 (some 3)], [.ref (n + 11) 1 0 3 (some 3)]] false)]
def row07 (k : Nat) : List Int := plc07.getD k []
def outer07 (n : Nat) : List (List AV) := (List.range 12).map fun i => [.ref (n + i) 1 0 3 (some 3)]
structure Plc (h : AHeap) (n : Nat) : Prop where
  out : h[n + 12]? = some (some (.arr 1 (outer07 n) false))
  row : ∀ i, i < 12 → h[n + i]? = some (some (.arr 1 ((row07 i).map fun x => [AV.int .i64 x]) false))
theorem Plc.up {h h' : AHeap} {n : Nat} (x : Plc h n) (hx : Ext nof h h') : Plc h' n := ⟨hx.get x.out, fun i hi => hx.get (x.row i hi)⟩
theorem plc_lit (h : AHeap) : Plc (h ++ lit07 h.length) h.length := by
  refine ⟨?_, fun i hi => ?_⟩
  · rw [List.getElem?_append_right (by omega), show h.length + 12 - h.length = 12 by omega]; rfl
  · rw [List.getElem?_append_right (by omega), show h.length + i - h.length = i by omega]
    match i, hi with
    | 0, _ => rfl
    | 1, _ => rfl
    | 2, _ => rfl
    | 3, _ => rfl
    | 4, _ => rfl
    | 5, _ => rfl
    | 6, _ => rfl
    | 7, _ => rfl
    | 8, _ => rfl
    | 9, _ => rfl
    | 10, _ => rfl
    | 11, _ => rfl
theorem row07_len : ∀ i, i < 12 → (row07 i).length = 3 := by decide
theorem row07_fine : ∀ i, i < 12 → decide ((Dk.new 8).jright ((row07 i).getD 0 0) ((row07 i).getD 1 0) ((row07 i).getD 2 0)) = (decide ((i : Int) = 6) || decide ((i : Int) = 8)) := by decide

theorem vc_heap {P : Program} {c : AC} {L R : Env} {h h' : AHeap} {K : AX → St → Prop} (e : h = h') (k : vc P c ⟨L, R, h'⟩ K) : vc P c ⟨L, R, h⟩ K := e ▸ k

theorem JX.long {P : Program} {f : FuncId} (hs : AppJOk P f) {F h q p d a n e R i} (x : JX F h q p d a n e R i) {G : Nat → Prop} {l : List Int} {v : AV} (hv : Rd G h (dBytes l) v) (hG : ∀ m, G m → ¬ F m ∧ m ≠ q) (hl : 32768 < l.length) (hl2 : l.length ≤ 2^40) :
    ACalls P f [.ptr q 5 0 0, v] h fun r h' => Ext (fun m => F m ∨ m = q) h h' ∧ r = .int .i64 2 ∧ JX F h' q p d a n e R i := by
  refine (hs.2 F G h q p d (jof a n e R i) l v x.dk x.row x.js.jok x.nq x.lt hv hG hl2).mono ?_
  rintro r h' ⟨hr, hd, hj, hx⟩
  have e : d.japp (jof a n e R i) l = (d, jof a n e R i, 2) := by unfold Dk.japp; rw [if_pos hl]
  rw [e] at hr hd hj
  exact ⟨hx, hr, hd, hj, x.js, x.nq, fun m hm => Nat.lt_of_lt_of_le (x.lt m hm) hx.1, x.off⟩
def zrow (n : Nat) : List (List AV) := List.replicate n [.int .u8 0]
def zlist (n : Nat) : List Int := List.replicate n 0
theorem zlist_len (n : Nat) : (zlist n).length = n := List.length_replicate
theorem amks_zr (h : AHeap) (n : Nat) (hn : n ≤ 2^20) : amks h 1 1 [.int .u8 0] (.int .i64 n) (.int .i64 n) = some (.ref h.length 1 0 n (some n), h ++ [some (.arr 1 (zrow n) false)]) := amks_z h n hn
theorem rd_zs {F : Nat → Prop} {H : AHeap} {m n : Nat} {g : Bool} (hb : H[m]? = some (some (.arr 1 (zrow n) g))) (hF : F m) : Rd F H (dBytes (zlist n)) (.ref m 1 0 n (some n)) :=
  rd_litF (k := .u8) (xs := List.replicate n 0) (g := g) (by rw [hb, List.map_replicate]; rfl) (by simp) hF
theorem bytes_zs (n : Nat) : bytesOk (zlist n) := fun x hx => by obtain ⟨-, rfl⟩ := List.mem_replicate.1 hx; omega
theorem many_zs (n : Nat) : many (zlist n) = max 1 ((n + 39) / 40) := by unfold many; rw [zlist_len]

theorem pjS_other {e c c' i : Int} {p : List Int} {k : Nat} (he : 1 ≤ e ∧ e ≤ maxNo) (hc : 0 ≤ c ∧ c ≤ maxNo) (hne : c ≠ c') : pjS (some ⟨i, rowJ e c p k, false⟩) e c' = none := by
  have h1 : i64ok c := by unfold i64ok; unfold maxNo at hc; omega
  have e2 : (rowJ e c p k).drop 8 = num c ++ (num (2 * k + if k + 1 = many p then 1 else 0) ++ cutAt p k) := List.drop_left' (num_length e)
  have e5 : (num c ++ (num (2 * (k : Int) + if k + 1 = many p then 1 else 0) ++ cutAt p k)).take 8 = num c := List.take_left' (num_length c)
  unfold pjS pcJ
  simp only [readL, Bool.false_eq_true, if_false, if_true]
  rw [rowJ_take, e2, e5, valOf_num h1, if_neg (fun q => hne q.2.2)]
theorem bytes_at {l : List Int} {i : Nat} (hi : i < l.length) : ∃ p, aindex 1 (abytes l) (.int .i64 i) = some p ∧ ∀ h, aload h false 1 p = some (.int .u8 l[i]) := by
  obtain ⟨p, h1, h2⟩ := index_av 1 (fun n => [D.int .u8 n]) l .i64 hi
  exact ⟨p, h1, fun h => by rw [aload_p (h2 h)]; exact take_one _ _ _⟩
/-- three records, of which the first two fit into four sectors -/
theorem scan_two {d : Dk} {z : List Int} {q : List (List Int)} (hc : d.cache = []) (hn : d.n = 8) (hz : z.length = 120) (hq : q = [[1, 2], [], z]) (hh : Held d.last 7 2 0 q 7) : d.scan 2 4 7 = ([[1, 2], []], 0) := by
  subst hq
  rw [Dk.scan_last hc ⟨by omega, by omega, by omega, by omega, by unfold maxNo; omega⟩]
  obtain ⟨h1, h2, h3, h4⟩ := hh
  have he : (1 : Int) ≤ 7 ∧ (7 : Int) ≤ maxNo := ⟨by omega, by unfold maxNo; omega⟩
  have m1 : many [1, 2] = 1 := by decide
  have m2 : many ([] : List Int) = 1 := by decide
  have m3 : many z = 3 := by unfold many; omega
  have p2 : Held d.last 7 2 0 [[1, 2], []] 4 := ⟨h1, h2, by rw [m1, m2]; rfl⟩
  have s := p2.scan (l := []) he 2 (by intro p hp; simp at hp; rcases hp with rfl | rfl <;> simp) (by unfold maxNo; simp)
  have s2 := scan_part (G := d.last) (e := 7) (i := 4) (l := [[1, 2], []]) (p := z) he (by unfold maxNo; simp) (by omega) 0 2 0 (by omega) fun q _ hq => by
    have := h3 q (by omega)
    rw [m1, m2] at this
    rw [show (4 : Int) + q = 2 + ((1 : Nat) : Int) + ((1 : Nat) : Int) + q by omega, this]; rfl
  rw [show (4 : Int).toNat = 2 + ((4 : Int) - 2).toNat from rfl, s]
  rw [show (4 : Int) + ((0 : Nat) : Int) = 4 from rfl] at s2
  simp only [Nat.mul_zero, List.take_zero] at s2
  rw [show (2 : Nat) = 0 + 2 from rfl, List.nil_append, s2]
  rfl
theorem scan_off {d : Dk} {z : List Int} {q : List (List Int)} (hc : d.cache = []) (hn : d.n = 8) (hq : q = [[1, 2], [], z]) (hh : Held d.last 7 2 0 q 7) : d.scan 3 4 7 = ([], 0) := by
  subst hq
  have he : (1 : Int) ≤ 7 ∧ (7 : Int) ≤ maxNo := ⟨by omega, by unfold maxNo; omega⟩
  rw [Dk.scan_last hc ⟨by omega, by omega, by omega, he⟩]
  obtain ⟨h1, h2, h3, h4⟩ := hh
  have m1 : many [1, 2] = 1 := by decide
  have := h2 0 (many_pos _)
  rw [m1] at this
  have e3 : d.last 3 = some ⟨3, rowJ 7 2 [] 0, false⟩ := this
  show (scanJ _ (3 + 1) 3 [] [] 0, (0 : Int)) = _
  simp only [scanJ, e3]
  rw [show (([] : List (List Int)).length : Int) + 1 = 1 from rfl, pjS_other he ⟨by omega, by unfold maxNo; omega⟩ (by omega)]
theorem read_two {d : Dk} {z : List Int} {q : List (List Int)} (hc : d.cache = []) (hn : d.n = 8) (hq : q = [[1, 2], [], z]) (hh : Held d.last 7 2 0 q 7) : d.read 2 = ([0, 0, 0, 0, 0, 0, 0, 7, 0, 0, 0, 0, 0, 0, 0, 1, 0, 0, 0, 0, 0, 0, 0, 1, 1, 2], 0) := by
  subst hq
  rw [Dk.read_last hc (by omega)]
  have := hh.1 0 (many_pos _)
  have e2 : d.last 2 = some ⟨2, rowJ 7 1 [1, 2] 0, false⟩ := this
  rw [e2]
  decide

theorem row_one (z : List Int) : ∃ p, aindex 1 (arows [z]) (.int .i64 0) = some p ∧ ∀ h, aload h false 1 p = some (abytes z) := rows_at (l := [z]) (i := 0) (by simp)

theorem jknown7_ok {P : Program} {f fn fj fs fa fo fc fr fk : FuncId} (hf : Is P f (c_glebelaw07_JournalKnown fn fj fs fa fo fc fr fk)) (hn : NewDOk P fn) (hj : JNewOk P fj) (hs : ScanOk P fs) (ha : AppJOk P fa) (ho : JRoomOk P fo) (hc : JCountOk P fc) (hr : ReadDP P fr) (hk : YesOk P fk) (h : AHeap) :
    ACalls P f [] h fun r _ => r = .bool true := by
  refine fun_sound hf.1 (Nat.le_of_ble_eq_true rfl) ?_
  show vc P (c_glebelaw07_JournalKnown fn fj fs fa fo fc fr fk).code ⟨[], [], h⟩ (atEnd (c_glebelaw07_JournalKnown fn fj fs fa fo fc fr fk).res _)
  simp only [c_glebelaw07_JournalKnown, go_sem, reduceIte, Nat.reduceEqDiff, Nat.reduceAdd, Nat.reduceLeDiff, Nat.reducePow, Nat.reduceDiv, Nat.reduceMod, decide_true]
  refine wCall_use ⟨hn.1, hn.2 h 8⟩ ?_
  rintro r H ⟨q1, -, X⟩
  obtain ⟨p, rfl, a⟩ := q1 (by omega)
  obtain ⟨F, a, hF⟩ : ∃ F : Nat → Prop, DiskAt F H p (Dk.new 8) ∧ (∀ m, F m → m < H.length) := ⟨_, a, fun m x => x.2⟩
  simp only [go_sem, reduceIte, Nat.reduceEqDiff, Nat.reduceAdd, Nat.reduceLeDiff, Nat.reducePow, Nat.reduceDiv, Nat.reduceMod, decide_true]
  refine vc_heap (h' := H ++ lit07 H.length) (by simp [lit07, Nat.add_assoc]) ?_
  rw [show List.length H + 1 + 1 + 1 + 1 + 1 + 1 + 1 + 1 + 1 + 1 + 1 + 1 = H.length + 12 from rfl]
  have pl := plc_lit H
  have aH := a.up (h' := H ++ lit07 H.length) (Ext.app _ _ _)
  generalize H.length = n at *
  have hF1 : ∀ m, F m → m < (H ++ lit07 n).length := fun m hm => by have := hF m hm; have := pl.out; have := (List.getElem?_eq_some_iff.1 this).1; omega
  generalize H ++ lit07 n = H0 at *
  clear a hF
  obtain ⟨I, hI⟩ : ∃ I : Nat → Env → AHeap → Prop, ∀ m L h', I m L h' ↔ ∃ (i : Nat), lk 1 L = .ptr p 6 0 0 ∧ lk 3 L = .ref (n + 12) 1 0 12 (some 12) ∧ lk 4 L = .int .i64 i ∧ Plc h' n ∧ Ext nof H0 h' ∧ i ≤ 12 ∧ m = 12 - i := ⟨_, fun _ _ _ => Iff.rfl⟩
  refine vc_loop I 12 ((hI _ _ _).2 ⟨0, by simp [lk_ins, lk_cons], by simp [lk_ins, lk_cons], by simp [lk_ins, lk_cons], pl, Ext.refl _ _, by omega, by omega⟩) ?_
  clear pl
  intro m L h1 hh
  obtain ⟨i, k1, k3, k4, pl, hx, hi, rfl⟩ := (hI _ _ _).1 hh
  have la : ∀ n, alen (.ref n 1 0 12 (some 12)) = some (.int .i64 12) := fun _ => rfl
  simp only [c_glebelaw07_JournalKnown_l0, go_sem, reduceIte, Nat.reduceEqDiff, Nat.reduceAdd, Nat.reduceLeDiff, Nat.reducePow, Nat.reduceDiv, Nat.reduceMod, decide_true, k3, k4, la]
  refine wCond_split (fun ci => ?_) (fun ci => ?_)
  · simp at ci
    have ci : i < 12 := by omega
    have ea := ix_lit (n + 12) 12 i (some 12) .i64 ci
    have eb' : ∀ h1, Plc h1 n → aload h1 false 1 (.ptr (n + 12) 1 i 0) = some (.ref (n + i) 1 0 3 (some 3)) := fun h1 pl => ld_row pl.out (by simp [outer07, List.getElem?_map, List.getElem?_range ci])
    have eb := eb' h1 pl
    have ec : ∀ k : Nat, k < 3 → aindex 1 (.ref (n + i) 1 0 3 (some 3)) (.int .i64 k) = some (.ptr (n + i) 1 k 0) := fun k hk => ix_lit (n + i) 3 k (some 3) .i64 hk
    have ed : ∀ h1, Plc h1 n → ∀ k : Nat, k < 3 → aload h1 false 1 (.ptr (n + i) 1 k 0) = some (.int .i64 ((row07 i).getD k 0)) := fun h1 pl k hk => by
      have := row07_len i ci
      rw [ld_lit (pl.row i ci) (by omega)]
      congr 2
      rw [List.getD_eq_getElem?_getD, List.getElem?_eq_getElem (by omega)]; rfl
    have c0 : aindex 1 (.ref (n + i) 1 0 3 (some 3)) (.int .i64 0) = some (.ptr (n + i) 1 0 0) := ec 0 (by omega)
    have c1 : aindex 1 (.ref (n + i) 1 0 3 (some 3)) (.int .i64 1) = some (.ptr (n + i) 1 1 0) := ec 1 (by omega)
    have c2 : aindex 1 (.ref (n + i) 1 0 3 (some 3)) (.int .i64 2) = some (.ptr (n + i) 1 2 0) := ec 2 (by omega)
    have d0' := fun h1 pl => ed h1 pl 0 (by omega)
    have d0 := d0' h1 pl
    have d1' := fun h1 pl => ed h1 pl 1 (by omega)
    have d1 := d1' h1 pl
    have d2' := fun h1 pl => ed h1 pl 2 (by omega)
    have d2 := d2' h1 pl
    have fine := row07_fine i ci
    generalize (row07 i).getD 0 0 = va at *
    generalize (row07 i).getD 1 0 = vb at *
    generalize (row07 i).getD 2 0 = ve at *
    simp only [go_sem, reduceIte, Nat.reduceEqDiff, Nat.reduceAdd, Nat.reduceLeDiff, Nat.reducePow, Nat.reduceDiv, Nat.reduceMod, decide_true, k1, k3, k4, ea, eb, c0, c1, c2, d0, d1, d2]
    have aL := aH.up hx
    refine wCall_use ⟨hj.1, hj.2 F h1 p (Dk.new 8) va vb ve aL⟩ ?_
    rintro r h2 ⟨e1, e2, X2⟩
    have pl2 := pl.up X2
    have eb2 := eb' h2 pl2
    have d02 := d0' h2 pl2
    have d12 := d1' h2 pl2
    have d22 := d2' h2 pl2
    have aL2 := aL.up X2
    have ew : IntKind.i64.wrap ((i : Int) + 1) = ((i + 1 : Nat) : Int) := by rw [wrap_i64 (by omega)]; omega
    by_cases cj : (Dk.new 8).jright va vb ve
    · obtain ⟨rfl, e3⟩ := e1 cj
      rw [kDB_mk0]
      simp only [go_sem, reduceIte, Nat.reduceEqDiff, Nat.reduceAdd, Nat.reduceLeDiff, Nat.reducePow, Nat.reduceDiv, Nat.reduceMod, decide_true, k1, k3, k4, ea, c0, c1, c2, eb2, d02, d12, d22]
      refine use1 hs.1 (hs.2 F h2 p (Dk.new 8) va vb ve aL2 (Dk.new_bts 8)) ?_
      have e4 : ((Dk.new 8).scan va vb ve).2 = 0 := by unfold Dk.scan; rw [if_pos cj]
      rw [kDB_mk0, e4]
      simp only [go_sem, reduceIte, Nat.reduceEqDiff, Nat.reduceAdd, Nat.reduceLeDiff, Nat.reducePow, Nat.reduceDiv, Nat.reduceMod, decide_true, k1, k3, k4, ea, c0, c1, c2, eb2, d02, d12, d22]
      rw [decide_eq_true cj] at fine
      by_cases c6 : (i : Int) = 6
      · simp only [go_sem, reduceIte, Nat.reduceEqDiff, Nat.reduceAdd, Nat.reduceLeDiff, Nat.reducePow, Nat.reduceDiv, Nat.reduceMod, decide_true, k1, k3, k4, decide_eq_true c6, ew, Bool.not_true, Bool.not_false, decide_eq_true (Eq.refl (0 : Int))]
        exact ⟨_, by omega, (hI _ _ _).2 ⟨i + 1, by simp [lk_ins, k1], by simp [lk_ins, k3], by simp [lk_ins], pl2, hx.tr X2, by omega, rfl⟩⟩
      · have c8 : (i : Int) = 8 := by rw [decide_eq_false c6] at fine; simpa using fine.symm
        simp only [go_sem, reduceIte, Nat.reduceEqDiff, Nat.reduceAdd, Nat.reduceLeDiff, Nat.reducePow, Nat.reduceDiv, Nat.reduceMod, decide_true, k1, k3, k4, decide_eq_false c6, decide_eq_true c8, ew, Bool.not_true, Bool.not_false, decide_eq_true (Eq.refl (0 : Int))]
        exact ⟨_, by omega, (hI _ _ _).2 ⟨i + 1, by simp [lk_ins, k1], by simp [lk_ins, k3], by simp [lk_ins], pl2, hx.tr X2, by omega, rfl⟩⟩
    · obtain rfl := e2 cj
      rw [kDB_mk0]
      simp only [go_sem, reduceIte, Nat.reduceEqDiff, Nat.reduceAdd, Nat.reduceLeDiff, Nat.reducePow, Nat.reduceDiv, Nat.reduceMod, decide_true, k1, k3, k4, ea, c0, c1, c2, eb2, d02, d12, d22]
      refine use1 hs.1 (hs.2 F h2 p (Dk.new 8) va vb ve aL2 (Dk.new_bts 8)) ?_
      have e4 : ((Dk.new 8).scan va vb ve).2 = 3 := by unfold Dk.scan; rw [if_neg cj]
      rw [kDB_mk0, e4]
      simp only [go_sem, reduceIte, Nat.reduceEqDiff, Nat.reduceAdd, Nat.reduceLeDiff, Nat.reducePow, Nat.reduceDiv, Nat.reduceMod, decide_true, k1, k3, k4, ea, c0, c1, c2, eb2, d02, d12, d22]
      rw [decide_eq_false cj] at fine
      have c6 : ¬ (i : Int) = 6 := fun c => by rw [decide_eq_true c] at fine; simp at fine
      have c8 : ¬ (i : Int) = 8 := fun c => by rw [decide_eq_true c] at fine; simp at fine
      have d30 : decide ((3 : Int) = 0) = false := rfl
      simp only [go_sem, reduceIte, Nat.reduceEqDiff, Nat.reduceAdd, Nat.reduceLeDiff, Nat.reducePow, Nat.reduceDiv, Nat.reduceMod, decide_true, k1, k3, k4, decide_eq_false c6, decide_eq_false c8, ew, Bool.not_true, Bool.not_false, d30, decide_eq_true (Eq.refl (3 : Int))]
      exact ⟨_, by omega, (hI _ _ _).2 ⟨i + 1, by simp [lk_ins, k1], by simp [lk_ins, k3], by simp [lk_ins], pl2, hx.tr X2, by omega, rfl⟩⟩
  · have aL := aH.up hx
    have hF : ∀ m, F m → m < h1.length := fun m hm => Nat.lt_of_lt_of_le (hF1 m hm) hx.1
    clear aH hF1 pl hI ci
    simp only [go_sem, reduceIte, Nat.reduceEqDiff, Nat.reduceAdd, Nat.reduceLeDiff, Nat.reducePow, Nat.reduceDiv, Nat.reduceMod, decide_true, k1]
    refine wCall_use ⟨hj.1, hj.2 F h1 p (Dk.new 8) 2 5 7 aL⟩ ?_
    rintro r H1 ⟨e1, -, X1⟩
    obtain ⟨rfl, hrow⟩ := e1 ⟨by omega, by omega, by simp [Dk.new], by omega, by unfold maxNo; omega⟩
    have x0 : JX F H1 h1.length p (Dk.new 8) 2 5 7 [] 2 := ⟨aL.up X1, hrow, JS.new (by omega) (by omega) (by unfold maxNo; omega), fun x => by have := hF _ x; omega, fun m hm => Nat.lt_of_lt_of_le (hF m hm) X1.1, rfl⟩
    have l0 : (Dk.new 8).left < 0 := by show (-1 : Int) < 0; omega
    obtain ⟨q, hq⟩ : ∃ q, q = h1.length := ⟨_, rfl⟩
    rw [← hq] at x0 ⊢
    simp only [go_sem, reduceIte, Nat.reduceEqDiff, Nat.reduceAdd, Nat.reduceLeDiff, Nat.reducePow, Nat.reduceDiv, Nat.reduceMod, decide_true]
    have hq1 : q < H1.length := (List.getElem?_eq_some_iff.1 x0.row).1
    have rd1 : Rd (fun m => H1.length ≤ m) (H1 ++ [some (.arr 1 [[.int .u8 1], [.int .u8 2]] false)]) (dBytes [1, 2]) (.ref H1.length 1 0 2 (some 2)) := rd_litF (k := .u8) (xs := [1, 2]) (bx10 _ _) rfl (Nat.le_refl _)
    refine wCall_use ⟨ha.1, (x0.up (Ext.b1 _)).quiet ha l0 rd1 (fun m hm => ⟨fun y => by have := x0.lt m y; omega, by omega⟩) (by simp) (by intro x hx; simp at hx; omega)⟩ ?_
    rintro r H2 ⟨Y2, ⟨g1, -⟩ | ⟨-, rfl, d1, x1, n1, l1⟩⟩
    · exact absurd g1 (by decide)
    simp only [go_sem, reduceIte, Nat.reduceEqDiff, Nat.reduceAdd, Nat.reduceLeDiff, Nat.reducePow, Nat.reduceDiv, Nat.reduceMod, decide_true]
    refine wCall_use ⟨ha.1, x1.quiet ha l1 (l := []) (v := .nils) (G := nof) (Own.rd _ (fun _ x => x) _ (Own.nils 1)) (fun m hm => hm.elim) (by simp) (by intro x hx; cases hx)⟩ ?_
    rintro r H3 ⟨Y3, ⟨g1, -⟩ | ⟨-, rfl, d2, x2, n2, l2⟩⟩
    · exact absurd g1 (by decide)
    have hq3 : q < H3.length := (List.getElem?_eq_some_iff.1 x2.row).1
    have e12 : (2 : Int) + (many [1, 2] : Nat) + (many ([] : List Int) : Nat) = 4 := by decide
    rw [e12] at x2
    have m121 : ∀ h, amks h 1 1 [.int .u8 0] (.int .i64 121) (.int .i64 121) = some (.ref h.length 1 0 121 (some 121), h ++ [some (.arr 1 (zrow 121) false)]) := fun h => amks_zr h 121 (by decide)
    have m120 : ∀ h, amks h 1 1 [.int .u8 0] (.int .i64 120) (.int .i64 120) = some (.ref h.length 1 0 120 (some 120), h ++ [some (.arr 1 (zrow 120) false)]) := fun h => amks_zr h 120 (by decide)
    have m69 : ∀ h, amks h 1 1 [.int .u8 0] (.int .i64 32769) (.int .i64 32769) = some (.ref h.length 1 0 32769 (some 32769), h ++ [some (.arr 1 (zrow 32769) false)]) := fun h => amks_zr h 32769 (by decide)
    have m68 : ∀ h, amks h 1 1 [.int .u8 0] (.int .i64 32768) (.int .i64 32768) = some (.ref h.length 1 0 32768 (some 32768), h ++ [some (.arr 1 (zrow 32768) false)]) := fun h => amks_zr h 32768 (by decide)
    simp only [go_sem, reduceIte, Nat.reduceEqDiff, Nat.reduceAdd, Nat.reduceLeDiff, Nat.reducePow, Nat.reduceDiv, Nat.reduceMod, decide_true, hev_mks, m121]
    refine wCall_use ⟨ha.1, (x2.up (Ext.b1 _)).quiet ha l2 (G := fun m => H3.length ≤ m) (rd_zs (n := 121) (bx10 _ _) (Nat.le_refl _)) (fun m hm => ⟨fun y => by have := x2.lt m y; omega, by omega⟩) (by rw [zlist_len]; omega) (bytes_zs _)⟩ ?_
    rintro r H4 ⟨Y4, ⟨-, rfl, x3⟩ | ⟨g1, -⟩⟩
    rotate_left
    · rw [many_zs] at g1; omega
    have hq4 : q < H4.length := (List.getElem?_eq_some_iff.1 x3.row).1
    simp only [go_sem, reduceIte, Nat.reduceEqDiff, Nat.reduceAdd, Nat.reduceLeDiff, Nat.reducePow, Nat.reduceDiv, Nat.reduceMod, decide_true, hev_mks, m69, dI88]
    refine wCall_use ⟨ha.1, (x3.up (Ext.b1 _)).long ha (G := fun m => H4.length ≤ m) (rd_zs (n := 32769) (bx10 _ _) (Nat.le_refl _)) (fun m hm => ⟨fun y => by have := x3.lt m y; omega, by omega⟩) (by rw [zlist_len]; omega) (by rw [zlist_len]; omega)⟩ ?_
    rintro r H5 ⟨Y5, rfl, x4⟩
    have hq5 : q < H5.length := (List.getElem?_eq_some_iff.1 x4.row).1
    simp only [go_sem, reduceIte, Nat.reduceEqDiff, Nat.reduceAdd, Nat.reduceLeDiff, Nat.reducePow, Nat.reduceDiv, Nat.reduceMod, decide_true, hev_mks, m120]
    refine wCall_use ⟨ha.1, (x4.up (Ext.b1 _)).quiet ha l2 (G := fun m => H5.length ≤ m) (rd_zs (n := 120) (bx10 _ _) (Nat.le_refl _)) (fun m hm => ⟨fun y => by have := x4.lt m y; omega, by omega⟩) (by rw [zlist_len]; omega) (bytes_zs _)⟩ ?_
    rintro r H6 ⟨Y6, ⟨g1, -⟩ | ⟨-, rfl, d3, x5, n3, l3⟩⟩
    · rw [many_zs] at g1; omega
    have hz : (zlist 120).length = 120 := zlist_len _
    have e7 : (4 : Int) + (many (zlist 120) : Nat) = 7 := by rw [many_zs]; rfl
    rw [e7] at x5
    generalize zlist 120 = z at *
    simp only [go_sem, reduceIte, Nat.reduceEqDiff, Nat.reduceAdd, Nat.reduceLeDiff, Nat.reducePow, Nat.reduceDiv, Nat.reduceMod, decide_true]
    refine wCall_use ⟨ha.1, x5.quiet ha l3 (l := []) (v := .nils) (G := nof) (Own.rd _ (fun _ x => x) _ (Own.nils 1)) (fun m hm => hm.elim) (by simp) (by intro x hx; cases hx)⟩ ?_
    rintro r H7 ⟨Y7, ⟨-, rfl, x6⟩ | ⟨g1, -⟩⟩
    rotate_left
    · have : many ([] : List Int) = 1 := by decide
      omega
    have n8 : d3.n = 8 := by rw [n3, n2, n1]; rfl
    simp only [go_sem, reduceIte, Nat.reduceEqDiff, Nat.reduceAdd, Nat.reduceLeDiff, Nat.reducePow, Nat.reduceDiv, Nat.reduceMod, decide_true, dI88]
    refine use1 ho.1 (x6.room ho) ?_
    rw [show (2 : Int) + 5 - 7 = 0 by omega]
    simp only [go_sem, reduceIte, Nat.reduceEqDiff, Nat.reduceAdd, Nat.reduceLeDiff, Nat.reducePow, Nat.reduceDiv, Nat.reduceMod, decide_true, dI00]
    refine use1 hc.1 (x6.count hc) ?_
    simp only [go_sem, reduceIte, Nat.reduceEqDiff, Nat.reduceAdd, Nat.reduceLeDiff, Nat.reducePow, Nat.reduceDiv, Nat.reduceMod, decide_true, List.length_append, List.length_cons, List.length_nil, Nat.zero_add, Nat.reduceAdd, show ((3 : Nat) : Int) = 3 from rfl, show decide ((3 : Int) = 3) = true from rfl, k1]
    have hh := x6.js.held
    have c6 := x6.js.cache
    refine use1 hr.1 (hr.2 F H7 p d3 2 x6.dk) ?_
    rw [read_two c6 n8 rfl hh]
    obtain ⟨p7, i7, j7⟩ := bytes_at (l := [0, 0, 0, 0, 0, 0, 0, 7, 0, 0, 0, 0, 0, 0, 0, 1, 0, 0, 0, 0, 0, 0, 0, 1, 1, 2]) (i := 7) (by decide)
    have i7 : aindex 1 (abytes [0, 0, 0, 0, 0, 0, 0, 7, 0, 0, 0, 0, 0, 0, 0, 1, 0, 0, 0, 0, 0, 0, 0, 1, 1, 2]) (.int .i64 7) = some p7 := i7
    have j7 : ∀ h, aload h false 1 p7 = some (.int .u8 7) := j7
    obtain ⟨p15, i15, j15⟩ := bytes_at (l := [0, 0, 0, 0, 0, 0, 0, 7, 0, 0, 0, 0, 0, 0, 0, 1, 0, 0, 0, 0, 0, 0, 0, 1, 1, 2]) (i := 15) (by decide)
    have i15 : aindex 1 (abytes [0, 0, 0, 0, 0, 0, 0, 7, 0, 0, 0, 0, 0, 0, 0, 1, 0, 0, 0, 0, 0, 0, 0, 1, 1, 2]) (.int .i64 15) = some p15 := i15
    have j15 : ∀ h, aload h false 1 p15 = some (.int .u8 1) := j15
    obtain ⟨p23, i23, j23⟩ := bytes_at (l := [0, 0, 0, 0, 0, 0, 0, 7, 0, 0, 0, 0, 0, 0, 0, 1, 0, 0, 0, 0, 0, 0, 0, 1, 1, 2]) (i := 23) (by decide)
    have i23 : aindex 1 (abytes [0, 0, 0, 0, 0, 0, 0, 7, 0, 0, 0, 0, 0, 0, 0, 1, 0, 0, 0, 0, 0, 0, 0, 1, 1, 2]) (.int .i64 23) = some p23 := i23
    have j23 : ∀ h, aload h false 1 p23 = some (.int .u8 1) := j23
    obtain ⟨p24, i24, j24⟩ := bytes_at (l := [0, 0, 0, 0, 0, 0, 0, 7, 0, 0, 0, 0, 0, 0, 0, 1, 0, 0, 0, 0, 0, 0, 0, 1, 1, 2]) (i := 24) (by decide)
    have i24 : aindex 1 (abytes [0, 0, 0, 0, 0, 0, 0, 7, 0, 0, 0, 0, 0, 0, 0, 1, 0, 0, 0, 0, 0, 0, 0, 1, 1, 2]) (.int .i64 24) = some p24 := i24
    have j24 : ∀ h, aload h false 1 p24 = some (.int .u8 1) := j24
    obtain ⟨p25, i25, j25⟩ := bytes_at (l := [0, 0, 0, 0, 0, 0, 0, 7, 0, 0, 0, 0, 0, 0, 0, 1, 0, 0, 0, 0, 0, 0, 0, 1, 1, 2]) (i := 25) (by decide)
    have i25 : aindex 1 (abytes [0, 0, 0, 0, 0, 0, 0, 7, 0, 0, 0, 0, 0, 0, 0, 1, 0, 0, 0, 0, 0, 0, 0, 1, 1, 2]) (.int .i64 25) = some p25 := i25
    have j25 : ∀ h, aload h false 1 p25 = some (.int .u8 2) := j25
    have lB := len_abytes [0, 0, 0, 0, 0, 0, 0, 7, 0, 0, 0, 0, 0, 0, 0, 1, 0, 0, 0, 0, 0, 0, 0, 1, 1, 2]
    simp only [List.length_cons, List.length_nil, Nat.zero_add, Nat.reduceAdd, show ((26 : Nat) : Int) = 26 from rfl] at lB
    generalize abytes [0, 0, 0, 0, 0, 0, 0, 7, 0, 0, 0, 0, 0, 0, 0, 1, 0, 0, 0, 0, 0, 0, 0, 1, 1, 2] = B at *
    simp only [go_sem, reduceIte, Nat.reduceEqDiff, Nat.reduceAdd, Nat.reduceLeDiff, Nat.reducePow, Nat.reduceDiv, Nat.reduceMod, decide_true, k1]
    refine use1 hs.1 (x6.scan hs) ?_
    simp only [go_sem, reduceIte, Nat.reduceEqDiff, Nat.reduceAdd, Nat.reduceLeDiff, Nat.reducePow, Nat.reduceDiv, Nat.reduceMod, decide_true, k1]
    refine use1 hs.1 (hs.2 F H7 p d3 2 4 7 x6.dk x6.js.bts) ?_
    rw [scan_two c6 n8 hz rfl hh]
    simp only [go_sem, reduceIte, Nat.reduceEqDiff, Nat.reduceAdd, Nat.reduceLeDiff, Nat.reducePow, Nat.reduceDiv, Nat.reduceMod, decide_true, k1]
    refine use1 hs.1 (hs.2 F H7 p d3 3 4 7 x6.dk x6.js.bts) ?_
    rw [scan_off c6 n8 rfl hh]
    have l3 : alen (arows ([[1, 2]] ++ [[]] ++ [z])) = some (.int .i64 3) := len_arows _
    have l2' : alen (arows [[1, 2], []]) = some (.int .i64 2) := len_arows _
    have l0' : alen (arows []) = some (.int .i64 0) := len_arows _
    simp only [go_sem, reduceIte, Nat.reduceEqDiff, Nat.reduceAdd, Nat.reduceLeDiff, Nat.reducePow, Nat.reduceDiv, Nat.reduceMod, decide_true, lB, i7, i15, i23, i24, i25, j7, j15, j23, j24, j25, l3, l2', l0', dI00, decide_eq_true (Eq.refl (7 : Int)), decide_eq_true (Eq.refl (1 : Int)), decide_eq_true (Eq.refl (2 : Int)), decide_eq_true (Eq.refl (3 : Int)), decide_eq_true (Eq.refl (26 : Int)), Bool.not_true]
    clear hh c6 n8 hz e7 e12 x0 x1 x2 x3 x4 x5 x6 Y2 Y3 Y4 Y5 Y6 Y7 n1 n2 n3 l1 l2 l3 hq1 hq3 hq4 hq5 l0 rd1 hrow aL hF X1 hx
    refine wCall_use ⟨hn.1, hn.2 H7 900⟩ ?_
    rintro r G1 ⟨q1, -, Z⟩
    obtain ⟨p', rfl, a⟩ := q1 (by omega)
    obtain ⟨F', a, hF'⟩ : ∃ F' : Nat → Prop, DiskAt F' G1 p' (Dk.new 900) ∧ (∀ m, F' m → m < G1.length) := ⟨_, a, fun m x => x.2⟩
    simp only [go_sem, reduceIte, Nat.reduceEqDiff, Nat.reduceAdd, Nat.reduceLeDiff, Nat.reducePow, Nat.reduceDiv, Nat.reduceMod, decide_true]
    refine wCall_use ⟨hj.1, hj.2 F' G1 p' (Dk.new 900) 0 900 1 a⟩ ?_
    rintro r G2 ⟨e1, -, Z2⟩
    obtain ⟨rfl, hrow⟩ := e1 ⟨by omega, by omega, by simp [Dk.new], by omega, by unfold maxNo; omega⟩
    have y0 : JX F' G2 G1.length p' (Dk.new 900) 0 900 1 [] 0 := ⟨a.up Z2, hrow, JS.new (by omega) (by omega) (by unfold maxNo; omega), fun x => by have := hF' _ x; omega, fun m hm => Nat.lt_of_lt_of_le (hF' m hm) Z2.1, rfl⟩
    have l00 : (Dk.new 900).left < 0 := by show (-1 : Int) < 0; omega
    obtain ⟨q', hq'⟩ : ∃ q, q = G1.length := ⟨_, rfl⟩
    rw [← hq'] at y0 ⊢
    have hq2 : q' < G2.length := (List.getElem?_eq_some_iff.1 y0.row).1
    simp only [go_sem, reduceIte, Nat.reduceEqDiff, Nat.reduceAdd, Nat.reduceLeDiff, Nat.reducePow, Nat.reduceDiv, Nat.reduceMod, decide_true, hev_mks, m68]
    refine wCall_use ⟨ha.1, (y0.up (Ext.b1 _)).quiet ha l00 (G := fun m => G2.length ≤ m) (rd_zs (n := 32768) (bx10 _ _) (Nat.le_refl _)) (fun m hm => ⟨fun y => by have := y0.lt m y; omega, by omega⟩) (by rw [zlist_len]; omega) (bytes_zs _)⟩ ?_
    rintro r G3 ⟨Z3, ⟨g1, -⟩ | ⟨-, rfl, d4, y1, n4, l4⟩⟩
    · rw [many_zs] at g1; omega
    have hz : (zlist 32768).length = 32768 := zlist_len _
    have e8 : (many (zlist 32768) : Nat) = 820 := by rw [many_zs]; rfl
    rw [e8] at y1
    generalize zlist 32768 = z at *
    simp only [go_sem, reduceIte, Nat.reduceEqDiff, Nat.reduceAdd, Nat.reduceLeDiff, Nat.reducePow, Nat.reduceDiv, Nat.reduceMod, decide_true]
    refine use1 ho.1 (y1.room ho) ?_
    rw [show (0 : Int) + 900 - (0 + ((820 : Nat) : Int)) = 80 by omega]
    simp only [go_sem, reduceIte, Nat.reduceEqDiff, Nat.reduceAdd, Nat.reduceLeDiff, Nat.reducePow, Nat.reduceDiv, Nat.reduceMod, decide_true, decide_eq_true (Eq.refl (80 : Int)), Bool.not_true]
    obtain ⟨z0, z1, z2⟩ := row_one z
    refine use1 hs.1 (y1.scan hs) ?_
    have lz := len_abytes z
    rw [hz] at lz
    have lz1 : alen (arows [z]) = some (.int .i64 1) := len_arows _
    simp only [go_sem, reduceIte, Nat.reduceEqDiff, Nat.reduceAdd, Nat.reduceLeDiff, Nat.reducePow, Nat.reduceDiv, Nat.reduceMod, decide_true, z1, z2, lz, lz1, show ((32768 : Nat) : Int) = 32768 from rfl, dI00, decide_eq_true (Eq.refl (1 : Int)), decide_eq_true (Eq.refl (32768 : Int))]
    refine use1 hk.1 (hk.2 _) ?_
    simp only [go_sem, reduceIte, Nat.reduceEqDiff, Nat.reduceAdd, Nat.reduceLeDiff, Nat.reducePow, Nat.reduceDiv, Nat.reduceMod, decide_true]

end Glb
