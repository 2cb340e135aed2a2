/-
  Images that changes have turned: their sizes stay within bounds.
-/
import Derived.Test.YtodbhmdfmdfiaaaGreatGlbLaw13w
set_option linter.unusedSimpArgs false
set_option linter.unusedVariables false
namespace Glb
open Go
set_option maxRecDepth 10000
set_option maxHeartbeats 16000000

/-- of a size that so many changes may have made -/
def Hard.gd (k : Nat) (x : Hard) : Prop := x.R ∧ (x.log.es.length ≤ 100 * (k + 1) ∧ ∀ e ∈ x.log.es, e.data.length ≤ 16384) ∧ (x.conf.old.length ≤ 100 ∧ x.conf.new.length ≤ 100 ∧ x.conf.learners.length ≤ 100) ∧ x.snap.length ≤ 16384
def Image.gd (k : Nat) (x : Image) : Prop := x.hards.length ≤ 40 ∧ x.votes.length ≤ 200 + k ∧ (∀ y ∈ x.hards, y.gd k) ∧ ∀ v ∈ x.votes, v.R

theorem Image.fits.gd {x : Image} (h : x.fits) (hR : x.R) : x.gd 0 := by
  refine ⟨h.1, by have := h.2.1; omega, fun y hy => ⟨hR.1 y hy, ?_⟩, hR.2⟩
  obtain ⟨⟨h1, h2⟩, ⟨h3, h4, h5⟩, h6⟩ := h.2.2 y hy
  exact ⟨⟨by simpa using h1, fun e he => by have := h2 e he; simpa using this⟩, ⟨by omega, by omega, by omega⟩, by omega⟩
theorem Hard.gd.up {k : Nat} {x : Hard} (h : x.gd k) : x.gd (k + 1) := ⟨h.1, ⟨by have := h.2.1.1; omega, h.2.1.2⟩, h.2.2⟩
theorem log_cut_R {l : Log} {c : Change} (h : l.R) (hc : c.R) (e : l.has c.log.base = true ∧ l.term c.log.base = c.log.bterm) : (l.cut c.log.base).R := by
  simp only [Log.cut, e.1, if_true, e.2]
  exact ⟨hc.2.2.2.2.2.1.1, hc.2.2.2.2.2.1.2.1, fun y hy => h.2.2 y (List.mem_of_mem_drop hy)⟩
theorem snapped_R {x : Hard} {c : Change} (h : x.R) (hc : c.R) : (x.snapped c).R ∧ (x.snapped c).es.length ≤ x.log.es.length ∧ ∀ e ∈ (x.snapped c).es, e ∈ x.log.es := by
  simp only [Hard.snapped]
  split
  · rename_i e
    refine ⟨log_cut_R h.2.2.2.1 hc e, ?_, ?_⟩
    · simp only [Log.cut, e.1, if_true, List.length_drop]; omega
    · simp only [Log.cut, e.1, if_true]; exact fun y hy => List.mem_of_mem_drop hy
  · exact ⟨⟨hc.2.2.2.2.2.1.1, hc.2.2.2.2.2.1.2.1, fun y hy => by simp at hy⟩, by simp, fun y hy => by simp at hy⟩
theorem turned_gd {k : Nat} {x : Hard} {c : Change} (h : x.gd k) (hs : c.small) (hc : c.R) : (x.turned c).1.gd (k + 1) := by
  have hu := h.up
  obtain ⟨⟨s1, s2⟩, ⟨s3, s4, s5⟩, s6⟩ := hs
  obtain ⟨⟨r1, r2, r3, r4, r5, r6⟩, ⟨g1, g2⟩, g3, g4⟩ := h
  by_cases k1 : c.kind = 1
  · have e : x.turned c = ({ x with term := c.term, vote := c.voted }, 0) := by simp [Hard.turned, k1]
    rw [e]
    exact ⟨⟨r1, hc.2.2.1, hc.2.2.2.1, r4, r5, r6⟩, hu.2⟩
  by_cases k2 : c.kind = 2
  · by_cases c1 : c.from_ ≤ x.log.base ∨ x.log.last + 1 < c.from_
    · have e : x.turned c = (x, 3) := by simp only [Hard.turned]; rw [if_neg k1, if_pos k2, if_pos c1]
      rw [e]; exact hu
    · have e : x.turned c = ({ x with log := ⟨x.log.base, x.log.bterm, x.log.es.take (c.from_ - x.log.base - 1).toNat ++ c.log.es⟩ }, 0) := by simp only [Hard.turned]; rw [if_neg k1, if_pos k2, if_neg c1]
      rw [e]
      have mm : ∀ e ∈ x.log.es.take (c.from_ - x.log.base - 1).toNat ++ c.log.es, e ∈ x.log.es ∨ e ∈ c.log.es := fun e he => (List.mem_append.1 he).imp (fun h => List.mem_of_mem_take h) (fun h => h)
      refine ⟨⟨r1, r2, r3, ⟨r4.1, r4.2.1, fun e he => (mm e he).elim (r4.2.2 e) (hc.2.2.2.2.2.1.2.2 e)⟩, r5, r6⟩, ⟨?_, fun e he => (mm e he).elim (g2 e) (s2 e)⟩, g3, g4⟩
      simp only [List.length_append, List.length_take]; omega
  by_cases k3 : c.kind = 3
  · have e : x.turned c = ({ x with log := x.snapped c, conf := c.conf, snap := c.snap }, 0) := by simp only [Hard.turned]; rw [if_neg k1, if_neg k2, if_pos k3]
    rw [e]
    obtain ⟨q1, q2, q3⟩ := snapped_R (x := x) (c := c) ⟨r1, r2, r3, r4, r5, r6⟩ hc
    exact ⟨⟨r1, r2, r3, q1, hc.2.2.2.2.2.2.1, hc.2.2.2.2.2.2.2.1⟩, ⟨by show (x.snapped c).es.length ≤ _; omega, fun e he => g2 e (q3 e he)⟩, ⟨s3, s4, s5⟩, s6⟩
  · have e : x.turned c = (x, 0) := by simp only [Hard.turned]; rw [if_neg k1, if_neg k2, if_neg k3]
    rw [e]; exact hu
theorem applied_gd {k : Nat} {x : Image} {c : Change} (h : x.gd k) (hs : c.small) (hc : c.R) (ho : x.ordered = true) (e : (x.applied c).2 = 0) : (x.applied c).1.gd (k + 1) := by
  obtain ⟨-, -, -, -, -, a1, a2, a3, a4⟩ := applied_apart x c ho e
  refine ⟨by rw [a3]; exact h.1, by have := h.2.1; omega, fun y hy => ?_, fun v hv => ?_⟩
  · rcases a1 y hy with hy | ⟨z, hz, _, rfl⟩
    · exact (h.2.2.1 y hy).up
    · exact turned_gd (h.2.2.1 z hz) hs hc
  · rcases a2 v hv with hv | rfl
    · exact h.2.2.2 v hv
    · exact hc.2.2.2.2.2.2.2.2

theorem entries_bound' {l : List Entry} {n : Nat} (h1 : l.length ≤ n) (h2 : ∀ e ∈ l, e.data.length ≤ 16384) : (l.flatMap entryC.enc).length ≤ n * 16408 := by
  have := flat_bound entryC.enc 16408 l (fun e he => by have := h2 e he; rw [entryC_enc]; simp only [List.length_append, num_length]; omega)
  exact Nat.le_trans this (Nat.mul_le_mul_right _ h1)
theorem gd_hard_bound {k : Nat} {x : Hard} (h : x.gd k) (hk : k ≤ 20) : (hardC.enc x).length ≤ 36000000 := by
  obtain ⟨-, ⟨h1, h2⟩, ⟨h3, h4, h5⟩, h6⟩ := h
  have h7 := entries_bound' (n := 2100) (Nat.le_trans h1 (by omega)) h2
  have hn8 := nums_length
  rw [hardC_enc, logC_enc]
  simp only [Conf.bytes, List.length_append, hn8, num_length, List.length_cons, List.length_nil]
  omega
theorem gd_bound {k : Nat} {x : Image} (h : x.gd k) (hk : k ≤ 20) : (imageC.enc x).length ≤ 1500000000 := by
  have h1 := flat_bound hardC.enc 36000000 x.hards (fun y hy => gd_hard_bound (h.2.2.1 y hy) hk)
  have h2 := flat_bound voteC.enc 40 x.votes (fun y hy => by rw [voteC_enc, nums_length]; simp)
  rw [imageC_enc]
  simp only [List.length_append, num_length]
  have h3 : x.hards.length * 36000000 ≤ 40 * 36000000 := Nat.mul_le_mul_right _ h.1
  have h4 : x.votes.length * 40 ≤ 220 * 40 := Nat.mul_le_mul_right _ (by have := h.2.1; omega)
  omega
theorem Hard.gd.few {k : Nat} {x : Hard} (h : x.gd k) (hk : k ≤ 20) : x.few := by
  obtain ⟨-, ⟨h1, h2⟩, ⟨h3, h4, h5⟩, h6⟩ := h
  exact ⟨⟨by omega, fun e he => by have := h2 e he; omega⟩, ⟨by omega, by omega, by omega⟩, by omega⟩
theorem Image.gd.few {k : Nat} {x : Image} (h : x.gd k) (hk : k ≤ 20) : x.few := ⟨by have := h.1; omega, by have := h.2.1; omega, fun y hy => (h.2.2.1 y hy).few hk⟩
theorem Image.gd.ok {k : Nat} {x : Image} (h : x.gd k) (hk : k ≤ 20) : imageC.ok x := image_okR ⟨fun y hy => (h.2.2.1 y hy).1, h.2.2.2⟩ (h.few hk)
def Image.bases (x : Image) : Prop := ∀ y ∈ x.hards, 0 ≤ y.log.base ∧ y.log.base ≤ 2^40 ∧ 0 ≤ y.log.bterm ∧ y.log.bterm ≤ 2^40
theorem Image.gd.logs {k : Nat} {x : Image} (h : x.gd k) (hk : k ≤ 20) (hb : x.bases) : ∀ y ∈ x.hards, LogOk y.log := fun y hy => by
  obtain ⟨b1, b2, -, -⟩ := hb y hy
  exact ⟨b1, by omega, ((h.2.2.1 y hy).few hk).1⟩

def BasesOk (P : Program) (f : FuncId) : Prop := isFn P f = true ∧ ∀ (F : Nat → Prop) (h : AHeap) (x : Image) (a : List AV), RdL F h x.c a → x.hards.length ≤ 2^30 → ACalls P f [.agg a] h fun r h' => ∃ b, r = .bool b ∧ h' = h ∧ (b = true → x.bases)

theorem bases_ok {P : Program} {f : FuncId} (hf : Is P f c_glebelaw13_bases) : BasesOk P f := by
  refine ⟨hf.2, fun F h x a ha hl => ?_⟩
  have key : ACalls P f [.agg a] h fun r h' => ∃ b, r = .bool b ∧ Ext nof h h' ∧ (b = true → x.bases) := by
    refine fun_sound hf.1 (Nat.le_of_ble_eq_true rfl) ?_
    obtain ⟨d, v, rfl, hd, hv⟩ := rd_image ha
    show vc P c_glebelaw13_bases.code ⟨[(0, .agg [d, v])], [], h⟩ (atEnd c_glebelaw13_bases.res _)
    have ld : alen d = some (.int .i64 x.hards.length) := by simpa using hd.len
    simp only [c_glebelaw13_bases, go_sem, reduceIte, Nat.reduceEqDiff, Nat.reduceAdd, Nat.reduceLeDiff, Nat.reducePow, Nat.reduceDiv, Nat.reduceMod, decide_true, hd.scalar, hv.scalar]
    have B0 := bx10 h (some (.arr 2 [[d, v]] false))
    have X0 := Ext.b1 (h := h) (some (.arr 2 [[d, v]] false))
    generalize h ++ [some (ABlk.arr 2 [[d, v]] false)] = H0 at *
    obtain ⟨I, hI⟩ : ∃ I : Nat → Env → AHeap → Prop, ∀ m L h', I m L h' ↔ ∃ i : Nat, lk 1 L = .ptr h.length 2 0 0 ∧ lk 3 L = .int .i64 i ∧ Ext nof H0 h' ∧ i ≤ x.hards.length ∧ m = x.hards.length - i ∧
        ∀ y ∈ x.hards.take i, 0 ≤ y.log.base ∧ y.log.base ≤ 2^40 ∧ 0 ≤ y.log.bterm ∧ y.log.bterm ≤ 2^40 := ⟨_, fun _ _ _ => Iff.rfl⟩
    refine vc_loop I x.hards.length ((hI _ _ _).2 ⟨0, by simp [lk_ins, lk_cons], by simp [lk_ins], Ext.refl _ _, by omega, by omega, by simp⟩) ?_
    intro m L h2 hh
    obtain ⟨i, k1, k3, hE, hi, rfl, hj⟩ := (hI _ _ _).1 hh
    have B1 := hE.get B0
    simp only [c_glebelaw13_bases_l0, go_sem, reduceIte, Nat.reduceEqDiff, Nat.reduceAdd, Nat.reduceLeDiff, Nat.reducePow, Nat.reduceDiv, Nat.reduceMod, decide_true, k1, k3, B1, ld]
    refine wCond_split (fun ci => ?_) (fun ci => ?_)
    · simp at ci
      obtain ⟨p, cs, hp1, hp2, hcs⟩ := ((hd.up X0).up hE).index .i64 (i := i) (d := x.hards[i].c) (by omega) (by simp [ci])
      obtain ⟨e, o, n, l, s, rfl, re, ro, rn, rl, rs⟩ := rd_hard hcs
      have ld3 : aload h2 true 3 (poff 3 p) = some (.agg [.int .i64 x.hards[i].log.base, .int .i64 x.hards[i].log.bterm, e]) := by rw [aload_off hp2]; rfl
      have e1 : IntKind.i64.wrap (↑i + 1) = (i : Int) + 1 := wrap_i64 (by omega)
      have fin : ∀ (y : Option ABlk), Ext nof h (h2 ++ [y]) := fun y => (X0.tr hE).tr (Ext.b1 _)
      simp only [go_sem, reduceIte, Nat.reduceEqDiff, Nat.reduceAdd, Nat.reduceLeDiff, Nat.reducePow, Nat.reduceDiv, Nat.reduceMod, decide_true, k1, k3, B1, hp1, afield_p hp2, ld3, re.scalar]
      by_cases c1 : x.hards[i].log.base < 0
      · simp only [go_sem, reduceIte, Nat.reduceEqDiff, Nat.reduceAdd, Nat.reduceLeDiff, Nat.reducePow, Nat.reduceDiv, Nat.reduceMod, decide_true, decide_eq_true c1]
        exact ⟨_, rfl, fin _, fun hh => by cases hh⟩
      by_cases c2 : (1099511627776 : Int) < x.hards[i].log.base
      · simp only [go_sem, reduceIte, Nat.reduceEqDiff, Nat.reduceAdd, Nat.reduceLeDiff, Nat.reducePow, Nat.reduceDiv, Nat.reduceMod, decide_true, decide_eq_false c1, decide_eq_true c2]
        exact ⟨_, rfl, fin _, fun hh => by cases hh⟩
      by_cases c3 : x.hards[i].log.bterm < 0
      · simp only [go_sem, reduceIte, Nat.reduceEqDiff, Nat.reduceAdd, Nat.reduceLeDiff, Nat.reducePow, Nat.reduceDiv, Nat.reduceMod, decide_true, decide_eq_false c1, decide_eq_false c2, decide_eq_true c3]
        exact ⟨_, rfl, fin _, fun hh => by cases hh⟩
      by_cases c4 : (1099511627776 : Int) < x.hards[i].log.bterm
      · simp only [go_sem, reduceIte, Nat.reduceEqDiff, Nat.reduceAdd, Nat.reduceLeDiff, Nat.reducePow, Nat.reduceDiv, Nat.reduceMod, decide_true, decide_eq_false c1, decide_eq_false c2, decide_eq_false c3, decide_eq_true c4]
        exact ⟨_, rfl, fin _, fun hh => by cases hh⟩
      simp only [go_sem, reduceIte, Nat.reduceEqDiff, Nat.reduceAdd, Nat.reduceLeDiff, Nat.reducePow, Nat.reduceDiv, Nat.reduceMod, decide_true, decide_eq_false c1, decide_eq_false c2, decide_eq_false c3, decide_eq_false c4, k3, e1]
      refine ⟨_, by omega, (hI _ _ _).2 ⟨i + 1, by simp [lk_ins, k1], by simp [lk_ins], hE.tr (Ext.b1 _), ci, rfl, fun y hy => ?_⟩⟩
      rw [List.take_succ_eq_append_getElem ci] at hy
      rcases List.mem_append.1 hy with h3 | h3
      · exact hj y h3
      · simp at h3; rw [h3]; exact ⟨by omega, by omega, by omega, by omega⟩
    · simp at ci
      obtain rfl : i = x.hards.length := by omega
      rw [List.take_length] at hj
      simp only [go_sem, reduceIte, Nat.reduceEqDiff, Nat.reduceAdd, Nat.reduceLeDiff, Nat.reducePow, Nat.reduceDiv, Nat.reduceMod, decide_true]
      exact ⟨_, rfl, X0.tr hE, fun _ => hj⟩
  exact ACalls.freezeH (K' := fun r h' => ∃ b, r = .bool b ∧ h' = h ∧ (b = true → x.bases)) key (fun r h' ⟨b, e, hx, hq⟩ => ⟨.bool b, h, FrzH.same hx, by subst e; exact Frz.bool b, b, rfl, rfl, hq⟩)

end Glb
