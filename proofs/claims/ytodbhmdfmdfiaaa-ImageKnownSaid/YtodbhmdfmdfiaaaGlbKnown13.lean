/-
  The chapter's examples of layer 13: the law ImageKnown.
-/
import Derived.Test.YtodbhmdfmdfiaaaGlbTurA
set_option linter.unusedSimpArgs false
set_option linter.unusedVariables false
namespace Glb
open Go
set_option maxRecDepth 10000
set_option maxHeartbeats 16000000

/-- what Apply asks -/
def Ready (x : Image) (c : Change) : Prop := imageC.ok x ∧ changeC.ok c ∧ (imageC.enc x).length ≤ 2^33 ∧ (changeC.enc c).length ≤ 2^33 ∧ (∀ y ∈ x.hards, LogOk y.log) ∧ c.log.es.length ≤ 2^32 ∧ x.hards.length ≤ 2^32 ∧ x.votes.length ≤ 2^32
theorem ApplyOk.z {P : Program} {f : FuncId} (hc : ApplyOk P f) {h : AHeap} {x : Image} {c : Change} {G : Nat → Prop} {as cs : List AV} (ha : RdL G h x.c as) (hcc : RdL G h c.c cs) (hr : Ready x c) :
    ACalls P f [.agg as, .agg cs] h fun r h' => r = .tup [.agg (x.applied c).1.v, .int .i64 (x.applied c).2] ∧ h' = h := by
  obtain ⟨h1, h2, h3, h4, h5, h6, h7, h8⟩ := hr
  exact (hc.2 G h x c as cs ha hcc h1 h2 h3 h4 h5 h6 h7 h8).freeze fun _ _ ⟨_, h1, h2, h3⟩ => ⟨h3, _, h1 ▸ Frz.tup2 (Frz.aggD (OwnL.fz _ (fun _ x => x) _ h2)) (Frz.int _ _), rfl⟩

def lmks (nm sz bytes : Nat) (zero : List AV) : AV → AV → Option (AV × ABlk)
  | .int _ l, .int _ c => if 0 ≤ l ∧ l ≤ c ∧ c * bytes ≤ 2 ^ 46 then some (.ref nm sz 0 l.toNat (some c.toNat), .arr sz (List.replicate c.toNat zero) false) else none
  | _, _ => none
theorem lightOf_mks (g : Opd → AV) (nm sz bytes : Nat) (zero : List AV) (l c : Opd) : lightOf g nm (.mks sz bytes zero l c) = lmks nm sz bytes zero (g l) (g c) := Eq.trans (by simp only [lightOf, lmks]; rfl) rfl
theorem lmks_int (nm sz bytes : Nat) (zero : List AV) (k : IntKind) (n : Nat) (h : n * bytes ≤ 2^46) : lmks nm sz bytes zero (.int k n) (.int k n) = some (.ref nm sz 0 n (some n), .arr sz (List.replicate n zero) false) := by
  simp only [lmks]
  rw [if_pos ⟨by omega, by omega, by exact_mod_cast h⟩]; simp
theorem lmks16 (nm : Nat) : lmks nm 1 1 [.int .u8 0] (.int .i64 16) (.int .i64 16) = some (.ref nm 1 0 16 (some 16), .arr 1 (List.replicate 16 [.int .u8 0]) false) := lmks_int nm 1 1 _ .i64 16 (by decide)
theorem rd_zeros {F : Nat → Prop} {H : AHeap} {n k : Nat} {g : Bool} (hb : H[n]? = some (some (.arr 1 (List.replicate k [.int .u8 0]) g))) (hF : F n) : Rd F H (dBytes (List.replicate k 0)) (.ref n 1 0 k (some k)) := by
  refine Own.rd (F := F) _ (fun _ x => x) _ (own_row hb (by simp) (by simp [dBytes]) hF ?_)
  have := ownLL_ints .u8 (fun m => F m ∧ m ≠ n) H (List.replicate k 0)
  simpa only [List.map_replicate] using this

theorem amks_z (h : AHeap) (n : Nat) (hn : n ≤ 2^20) : amks h 1 1 [.int .u8 0] (.int .i64 n) (.int .i64 n) = some (.ref h.length 1 0 n (some n), h ++ [some (.arr 1 (List.replicate n [.int .u8 0]) false)]) := by
  rw [amks_int (by omega) (by omega) (by omega)]; simp
theorem amks15 (h : AHeap) : amks h 1 1 [.int .u8 0] (.int .i64 15) (.int .i64 15) = some (.ref h.length 1 0 15 (some 15), h ++ [some (.arr 1 (List.replicate 15 [.int .u8 0]) false)]) := amks_z h 15 (by decide)
theorem amks17 (h : AHeap) : amks h 1 1 [.int .u8 0] (.int .i64 17) (.int .i64 17) = some (.ref h.length 1 0 17 (some 17), h ++ [some (.arr 1 (List.replicate 17 [.int .u8 0]) false)]) := amks_z h 17 (by decide)
theorem amks8 (h : AHeap) : amks h 1 1 [.int .u8 0] (.int .i64 8) (.int .i64 8) = some (.ref h.length 1 0 8 (some 8), h ++ [some (.arr 1 (List.replicate 8 [.int .u8 0]) false)]) := amks_z h 8 (by decide)
theorem enc_none : imageC.enc ⟨[], []⟩ = List.replicate 16 0 := by decide
theorem get15 : getImage (List.replicate 15 0) = (⟨[], []⟩, 4) := by decide
theorem get17 : getImage (List.replicate 17 0) = (⟨[], []⟩, 2) := by decide
theorem get255 : getImage (List.replicate 8 0 ++ List.replicate 8 255) = (⟨[], []⟩, 4) := by decide
theorem get1 : getImage (List.replicate 15 0 ++ [1]) = (⟨[], []⟩, 4) := by decide
theorem bok (l : List Int) (h : l.all (fun b => decide (0 ≤ b ∧ b < 256)) = true) : bytesOk l := fun b hb => by simpa using List.all_eq_true.1 h b hb

theorem rdI0 (F : Nat → Prop) (h : AHeap) : RdL F h (⟨[], []⟩ : Image).c [.nils, .nils] := OwnL.rd _ (F := F) (fun _ x => x) _ ⟨_, _, rfl, Own.nils 10, _, _, rfl, Own.nils 5, rfl⟩
theorem app_bytes {H : AHeap} {m n a b : Nat} {xs ys : List Int} {g g' : Bool} (A : H[m]? = some (some (.arr 1 (xs.map fun n => [AV.int .u8 n]) g))) (B : H[n]? = some (some (.arr 1 (ys.map fun n => [AV.int .u8 n]) g'))) (ha : a = xs.length) (hb : b = ys.length) (hl : xs.length + ys.length ≤ 2^20) :
    ∃ o H', aappend H 1 1 (.ref m 1 0 a (some a)) (.ref n 1 0 b (some b)) = some (o, H') ∧ Rd (fun _ => True) H' (dBytes (xs ++ ys)) o := by
  subst ha hb
  have ml := (List.getElem?_eq_some_iff.1 A).1
  have ho : OwnO m H 1 (.ref m 1 0 xs.length (some xs.length)) (xs.map fun n => [AV.int .u8 n]) := .inr ⟨m, 0, some xs.length, _, g, by simp, Nat.le_refl _, A, by simp, (fun c hc => by cases hc; simp), (fun hc => by cases hc), (fun c hc => by cases hc; simp), by rw [List.drop_zero, List.take_length]⟩
  obtain ⟨o, H', h1, h2, -⟩ := acc_app (bytes := 1) (ys := ys.map fun n => [AV.int .u8 n]) ho (Ext.refl _ _) (by omega) (by simp; omega)
  rw [← aappend_of (aelems_at (len := ys.length) B (some ys.length) (by simp))] at h1
  refine ⟨o, H', h1, ?_⟩
  simp only [dBytes, Rd]
  refine ⟨_, Els.mono (F' := fun _ => True) (fun _ _ => trivial) (fun _ _ _ hy => hy) h2.els, ?_⟩
  rw [← List.map_append]
  exact OwnLL.rd (F := fun _ => True) _ (fun _ x => x) _ (ownLL_ints .u8 _ _ (xs ++ ys))

def chgN (k g : Int) (v : Vote) : Change := ⟨k, g, 0, 0, 0, ⟨0, 0, []⟩, ⟨[], [], []⟩, [], v⟩
theorem chgN_rd (k g : Int) (v : Vote) (F : Nat → Prop) (h : AHeap) : RdL F h (chgN k g v).c [.int .i64 k, .int .i64 g, .int .i64 0, .int .i64 0, .int .i64 0, .int .i64 0, .int .i64 0, .nils, .nils, .nils, .nils, .nils, .int .i64 v.txn, .int .i64 v.part, .int .i64 v.promised, .int .i64 v.ballot, .int .i64 v.value] :=
  OwnL.rd _ (F := F) (fun _ x => x) _ ⟨_, _, rfl, own_i64 _ _ _, _, _, rfl, own_i64 _ _ _, _, _, rfl, own_i64 _ _ _, _, _, rfl, own_i64 _ _ _, _, _, rfl, own_i64 _ _ _, _, _, rfl, own_i64 _ _ _, _, _, rfl, own_i64 _ _ _, _, _, rfl, Own.nils 3, _, _, rfl, Own.nils 1, _, _, rfl, Own.nils 1, _, _, rfl, Own.nils 1, _, _, rfl, Own.nils 1, _, _, rfl, own_i64 _ _ _, _, _, rfl, own_i64 _ _ _, _, _, rfl, own_i64 _ _ _, _, _, rfl, own_i64 _ _ _, _, _, rfl, own_i64 _ _ _, rfl⟩
theorem ready0 {c : Change} (h1 : changeC.ok c) (h2 : (changeC.enc c).length ≤ 2^10) (h3 : c.log.es.length ≤ 2^10) : Ready ⟨[], []⟩ c :=
  ⟨by simp [imageC, isoC, pairC, listC], h1, by rw [enc_none]; simp, by omega, fun y hy => by simp at hy, by omega, by simp, by simp⟩
theorem readyF {c : Change} (h1 : changeC.ok c) (h2 : (changeC.enc c).length ≤ 2^10) (h3 : c.log.es.length ≤ 2^10) : Ready first13 c :=
  ⟨first13_ok, h1, by have := first13_len; omega, by omega, fun y hy => by
    simp only [first13, List.mem_singleton] at hy
    subst hy
    exact ⟨by decide, by decide, by decide, by simp⟩, by omega, by decide, by decide⟩
theorem chgN_ok {k g : Int} {v : Vote} (h : i64ok k ∧ i64ok g ∧ i64ok v.txn ∧ i64ok v.part ∧ i64ok v.promised ∧ i64ok v.ballot ∧ i64ok v.value) : changeC.ok (chgN k g v) := by
  simp [changeC, chgN, isoC, pairC, listC, voteC, logC, confC, entryC, intsC, intC, blobC, i64ok, blobOk, bytesOk] at h ⊢
  omega
theorem chgN_len (k g : Int) (v : Vote) : (changeC.enc (chgN k g v)).length ≤ 2^10 := by
  simp [changeC_enc, logC_enc, entryC_enc, voteC_enc, Conf.bytes, nums_length, num_length, chgN]
theorem ap1 : (⟨[], []⟩ : Image).applied (chgN 1 1 ⟨0, 0, 0, 0, 0⟩) = (⟨[], []⟩, 6) := rfl
theorem ap4 : (⟨[], []⟩ : Image).applied (chgN 4 0 ⟨5, 1, 2, 0, 0⟩) = (⟨[], [⟨5, 1, 2, 0, 0⟩]⟩, 0) := rfl
theorem apF0 : first13.applied (chgN 0 0 ⟨0, 0, 0, 0, 0⟩) = (⟨[], []⟩, 13) := rfl
theorem apF5 : first13.applied (chgN 5 0 ⟨0, 0, 0, 0, 0⟩) = (⟨[], []⟩, 13) := rfl

def chg2 (f : Int) : Change := ⟨2, 1, 0, 0, f, ⟨0, 0, [⟨9, 0, []⟩]⟩, ⟨[], [], []⟩, [], ⟨0, 0, 0, 0, 0⟩⟩
theorem chg2_ok {f : Int} (h : i64ok f) : changeC.ok (chg2 f) := by
  simp [changeC, chg2, isoC, pairC, listC, voteC, logC, confC, entryC, intsC, intC, blobC, i64ok, blobOk, bytesOk] at h ⊢
  omega
theorem chg2_len (f : Int) : (changeC.enc (chg2 f)).length ≤ 2^10 := by
  simp [changeC_enc, logC_enc, entryC_enc, voteC_enc, Conf.bytes, nums_length, num_length, chg2]
theorem chg2_rd (f : Int) {F : Nat → Prop} {h : AHeap} {a : AV} (ha : Rd F h (dEntries [⟨9, 0, []⟩]) a) : RdL F h (chg2 f).c [.int .i64 2, .int .i64 1, .int .i64 0, .int .i64 0, .int .i64 f, .int .i64 0, .int .i64 0, a, .nils, .nils, .nils, .nils, .int .i64 0, .int .i64 0, .int .i64 0, .int .i64 0, .int .i64 0] := by
  have e0 : ∀ n : Int, Rd F h (.int .i64 n) (.int .i64 n) := fun n => by simp only [Rd]
  have n1 : ∀ sz, Rd F h (.sl sz []) .nils := fun sz => by simp only [Rd]; exact ⟨[], .inl ⟨rfl, rfl⟩, by simp only [RdLL]⟩
  exact ⟨_, _, rfl, e0 _, _, _, rfl, e0 _, _, _, rfl, e0 _, _, _, rfl, e0 _, _, _, rfl, e0 _, _, _, rfl, e0 _, _, _, rfl, e0 _, _, _, rfl, ha, _, _, rfl, n1 1, _, _, rfl, n1 1, _, _, rfl, n1 1, _, _, rfl, n1 1, _, _, rfl, e0 _, _, _, rfl, e0 _, _, _, rfl, e0 _, _, _, rfl, e0 _, _, _, rfl, e0 _, rfl⟩
def froms : List Int := [3, 4, 5, 8, 9, -9223372036854775808, 9223372036854775807]
def lefts : List Int := [-1, -1, 1, 4, -1, -1, -1]
theorem from_i64 (i : Nat) (hi : i < 7) : i64ok (froms[i]'hi) := by
  match i, hi with
  | 0, _ => simp [froms, i64ok]
  | 1, _ => simp [froms, i64ok]
  | 2, _ => simp [froms, i64ok]
  | 3, _ => simp [froms, i64ok]
  | 4, _ => simp [froms, i64ok]
  | 5, _ => simp [froms, i64ok]
  | 6, _ => simp [froms, i64ok]
theorem from_ok (i : Nat) (hi : i < 7) : ((first13.applied (chg2 (froms[i]'hi))).2 = 0 ∧ 0 ≤ lefts[i]'hi ∧ ∃ hd : Hard, (first13.applied (chg2 (froms[i]'hi))).1 = ⟨[hd], []⟩ ∧ (hd.log.es.length : Int) = lefts[i]'hi) ∨ ((first13.applied (chg2 (froms[i]'hi))).2 = 3 ∧ lefts[i]'hi = -1) := by
  match i, hi with
  | 0, _ => exact .inr ⟨rfl, rfl⟩
  | 1, _ => exact .inr ⟨rfl, rfl⟩
  | 2, _ => exact .inl ⟨rfl, by simp [lefts], _, rfl, rfl⟩
  | 3, _ => exact .inl ⟨rfl, by simp [lefts], _, rfl, rfl⟩
  | 4, _ => exact .inr ⟨rfl, rfl⟩
  | 5, _ => exact .inr ⟨rfl, rfl⟩
  | 6, _ => exact .inr ⟨rfl, rfl⟩
theorem rd_lit {H : AHeap} {n len : Nat} {k : IntKind} {xs : List Int} {g : Bool} (hb : H[n]? = some (some (.arr 1 (xs.map fun n => [AV.int k n]) g))) (hl : xs.length = len) : Rd (fun _ => True) H (.sl 1 (xs.map fun n => [.int k n])) (.ref n 1 0 len (some len)) :=
  Own.rd (F := fun _ => True) _ (fun _ x => x) _ (own_row hb (by simpa using hl) (by simpa using hl) trivial (ownLL_ints k _ H xs))

theorem ix_lit (n len i : Nat) (cap : Option Nat) (k : IntKind) (hi : i < len) : aindex 1 (.ref n 1 0 len cap) (.int k i) = some (.ptr n 1 i 0) := by
  simp only [aindex]; rw [if_pos ⟨trivial, by omega, by omega⟩]; simp
theorem ld_lit {H : AHeap} {n i : Nat} {xs : List Int} {g : Bool} (hb : H[n]? = some (some (.arr 1 (xs.map fun n => [AV.int .i64 n]) g))) (hi : i < xs.length) : aload H false 1 (.ptr n 1 i 0) = some (.int .i64 xs[i]) := by
  obtain ⟨p, hp, hv⟩ := (rd_lit (k := .i64) hb rfl).int_at hi
  rw [ix_lit n xs.length i _ _ hi] at hp
  cases hp
  exact hv

theorem ld_row {H : AHeap} {n i : Nat} {rows : List (List AV)} {g : Bool} {c : AV} (hb : H[n]? = some (some (.arr 1 rows g))) (hi : rows[i]? = some [c]) : aload H false 1 (.ptr n 1 i 0) = some c := by
  rw [aload_p (cs := [c]) (by simp [pcells, hb, hi])]; exact take_one _ _ _
def bases6 : List (Int × Int × Int) := [(6, 3, 1), (6, 2, 0), (9, 3, 0), (4, 2, 3), (7, 3, 0), (0, 0, 0)]
def row3 (t : Int × Int × Int) : List (List AV) := [[.int .i64 t.1], [.int .i64 t.2.1], [.int .i64 t.2.2]]
def rows6 (n : Nat) : List (List AV) := [[.ref n 1 0 3 (some 3)], [.ref (n + 1) 1 0 3 (some 3)], [.ref (n + 2) 1 0 3 (some 3)], [.ref (n + 3) 1 0 3 (some 3)], [.ref (n + 4) 1 0 3 (some 3)], [.ref (n + 5) 1 0 3 (some 3)]]
theorem rows6_get (n j : Nat) (hj : j < 6) : (rows6 n)[j]? = some [.ref (n + j) 1 0 3 (some 3)] := by
  match j, hj with
  | 0, _ => rfl
  | 1, _ => rfl
  | 2, _ => rfl
  | 3, _ => rfl
  | 4, _ => rfl
  | 5, _ => rfl
def chg3 (b t : Int) : Change := ⟨3, 1, 0, 0, 0, ⟨b, t, []⟩, ⟨[7], [], []⟩, [5], ⟨0, 0, 0, 0, 0⟩⟩
theorem chg3_ok {b t : Int} (h : i64ok b) (h' : i64ok t) : changeC.ok (chg3 b t) := by
  simp [changeC, chg3, isoC, pairC, listC, voteC, logC, confC, entryC, intsC, intC, blobC, i64ok, blobOk, bytesOk] at h h' ⊢
  omega
theorem chg3_len (b t : Int) : (changeC.enc (chg3 b t)).length ≤ 2^10 := by
  simp [changeC_enc, logC_enc, entryC_enc, voteC_enc, Conf.bytes, nums_length, num_length, chg3]
theorem chg3_rd (b t : Int) {F : Nat → Prop} {h : AHeap} {a c : AV} (ha : Rd F h (dInts [7]) a) (hc : Rd F h (dBytes [5]) c) : RdL F h (chg3 b t).c [.int .i64 3, .int .i64 1, .int .i64 0, .int .i64 0, .int .i64 0, .int .i64 b, .int .i64 t, .nils, a, .nils, .nils, c, .int .i64 0, .int .i64 0, .int .i64 0, .int .i64 0, .int .i64 0] := by
  have e0 : ∀ n : Int, Rd F h (.int .i64 n) (.int .i64 n) := fun n => by simp only [Rd]
  have n1 : ∀ sz, Rd F h (.sl sz []) .nils := fun sz => by simp only [Rd]; exact ⟨[], .inl ⟨rfl, rfl⟩, by simp only [RdLL]⟩
  exact ⟨_, _, rfl, e0 _, _, _, rfl, e0 _, _, _, rfl, e0 _, _, _, rfl, e0 _, _, _, rfl, e0 _, _, _, rfl, e0 _, _, _, rfl, e0 _, _, _, rfl, n1 3, _, _, rfl, ha, _, _, rfl, n1 1, _, _, rfl, n1 1, _, _, rfl, hc, _, _, rfl, e0 _, _, _, rfl, e0 _, _, _, rfl, e0 _, _, _, rfl, e0 _, _, _, rfl, e0 _, rfl⟩
theorem base_ok (j : Nat) (hj : j < 6) : i64ok (bases6[j]'hj).1 ∧ i64ok (bases6[j]'hj).2.1 ∧ (first13.applied (chg3 (bases6[j]'hj).1 (bases6[j]'hj).2.1)).2 = 0 ∧ ∃ hd : Hard, (first13.applied (chg3 (bases6[j]'hj).1 (bases6[j]'hj).2.1)).1 = ⟨[hd], []⟩ ∧ hd.log.base = (bases6[j]'hj).1 ∧ hd.log.bterm = (bases6[j]'hj).2.1 ∧
    (hd.log.es.length : Int) = (bases6[j]'hj).2.2 ∧ hd.conf.old.length = 1 ∧ hd.snap.length = 1 ∧ hd.term = 3 := by
  match j, hj with
  | 0, _ => exact ⟨by simp [bases6, i64ok], by simp [bases6, i64ok], rfl, _, rfl, rfl, rfl, rfl, rfl, rfl, rfl⟩
  | 1, _ => exact ⟨by simp [bases6, i64ok], by simp [bases6, i64ok], rfl, _, rfl, rfl, rfl, rfl, rfl, rfl, rfl⟩
  | 2, _ => exact ⟨by simp [bases6, i64ok], by simp [bases6, i64ok], rfl, _, rfl, rfl, rfl, rfl, rfl, rfl, rfl⟩
  | 3, _ => exact ⟨by simp [bases6, i64ok], by simp [bases6, i64ok], rfl, _, rfl, rfl, rfl, rfl, rfl, rfl, rfl⟩
  | 4, _ => exact ⟨by simp [bases6, i64ok], by simp [bases6, i64ok], rfl, _, rfl, rfl, rfl, rfl, rfl, rfl, rfl⟩
  | 5, _ => exact ⟨by simp [bases6, i64ok], by simp [bases6, i64ok], rfl, _, rfl, rfl, rfl, rfl, rfl, rfl, rfl⟩

theorem GetConfOk.p {P : Program} {f : FuncId} (hc : GetConfOk P f) {G : Nat → Prop} {h : AHeap} {l : List Int} {b : AV} (hb : Rd G h (dBytes l) b) (hbo : bytesOk l) (hl : l.length ≤ 2^37) :
    ACalls P f [b] h fun r h' => r = .tup [.agg (getConf l).1.v, .int .i64 (getConf l).2] ∧ h' = h :=
  (hc.2 G h l b hb hbo hl).freeze fun _ _ ⟨_, h1, h2, h3⟩ => ⟨h3, _, h1 ▸ Frz.tup2 (Frz.aggD (OwnL.fz _ (fun _ x => x) _ h2)) (Frz.int _ _), rfl⟩
theorem conf12 : getConf (⟨[1, 2], [], [3]⟩ : Conf).bytes = (⟨[1, 2], [], [3]⟩, 0) := by decide
theorem conf21 : getConf (⟨[2, 1], [], []⟩ : Conf).bytes = (⟨[], [], []⟩, 29) := by decide

theorem imageKnown_ok {P : Program} {f pu sb ge ap fi pf gf kn : FuncId} (hf : Is P f (c_glebelaw13_ImageKnown pu sb ge ap fi pf gf kn)) (hpu : PutImgP P pu) (hsb : SameOk P sb .u8) (hge : GetImgOk P ge) (hap : ApplyOk P ap) (hfi : FirstOk P fi) (hpf : ConfBytesOk P pf) (hgf : GetConfOk P gf) (hkn : YesOk P kn) (h : AHeap) :
    ACalls P f [] h fun r _ => r = .bool true := by
  refine fun_sound hf.1 (Nat.le_of_ble_eq_true rfl) ?_
  show vc P (c_glebelaw13_ImageKnown pu sb ge ap fi pf gf kn).code ⟨[], [], h⟩ (atEnd (c_glebelaw13_ImageKnown pu sb ge ap fi pf gf kn).res _)
  simp only [c_glebelaw13_ImageKnown, go_sem, reduceIte, Nat.reduceEqDiff, Nat.reduceAdd, Nat.reduceLeDiff, Nat.reducePow, Nat.reduceDiv, Nat.reduceMod, decide_true, lightOf_mks, lmks16]
  refine use1 hpu.1 (hpu.2 nof _ ⟨[], []⟩ _ (rdI0 _ _) (by rw [enc_none]; simp)) ?_
  rw [enc_none]
  simp only [go_sem, reduceIte, Nat.reduceEqDiff, Nat.reduceAdd, Nat.reduceLeDiff, Nat.reducePow, Nat.reduceDiv, Nat.reduceMod, decide_true]
  refine use1 hsb.1 (hsb.2 (fun _ => True) _ (List.replicate 16 0) (List.replicate 16 0) _ _ (rd_abytes _ _ _) (rd_zeros (bx10 h _) trivial) (by simp)) ?_
  generalize h ++ [some (ABlk.arr 1 (List.replicate 16 [AV.int .u8 0]) false)] = h1 at *
  simp only [go_sem, reduceIte, Nat.reduceEqDiff, Nat.reduceAdd, Nat.reduceLeDiff, Nat.reducePow, Nat.reduceDiv, Nat.reduceMod, decide_true, hev_mks, amks15]
  refine use1 hge.1 (hge.p (G := fun _ => True) (rd_zeros (bx10 h1 _) trivial) (bok _ (by decide)) (by simp)) ?_
  rw [get15]
  generalize h1 ++ [some (ABlk.arr 1 (List.replicate 15 [AV.int .u8 0]) false)] = h2 at *
  simp only [go_sem, reduceIte, Nat.reduceEqDiff, Nat.reduceAdd, Nat.reduceLeDiff, Nat.reducePow, Nat.reduceDiv, Nat.reduceMod, decide_true, hev_mks, amks17, Image.v_eq, scalar_ahards, scalar_avotes, cells_ahards, cells_avotes]
  refine use1 hge.1 (hge.p (G := fun _ => True) (rd_zeros (bx21 h2 _ _) trivial) (bok _ (by decide)) (by simp)) ?_
  rw [get17]
  generalize h2 ++ [_] ++ [_] = h3
  obtain ⟨o1, H1, a1, b1⟩ := app_bytes (H := h3 ++ [some (ABlk.arr 2 [[ahards [], avotes []]] false)] ++ [some (ABlk.arr 1 (List.replicate 8 [AV.int .u8 0]) false)] ++ [some (ABlk.arr 1 ((List.replicate 8 255).map fun n => [AV.int .u8 n]) false)]) (m := h3.length + 1) (g := false) (xs := List.replicate 8 0) (by rw [bx31]; simp) (bx32 _ _ _ _) (a := 8) (b := 8) rfl rfl (by simp)
  rw [show (List.replicate 8 (255 : Int)).map (fun n => [AV.int .u8 n]) = [[AV.int .u8 255], [AV.int .u8 255], [AV.int .u8 255], [AV.int .u8 255], [AV.int .u8 255], [AV.int .u8 255], [AV.int .u8 255], [AV.int .u8 255]] from rfl] at a1
  simp only [go_sem, reduceIte, Nat.reduceEqDiff, Nat.reduceAdd, Nat.reduceLeDiff, Nat.reducePow, Nat.reduceDiv, Nat.reduceMod, decide_true, hev_mks, amks8, Image.v_eq, scalar_ahards, scalar_avotes, cells_ahards, cells_avotes, a1]
  refine use1 hge.1 (hge.p b1 (bok _ (by decide)) (by simp)) ?_
  rw [get255]
  clear a1 b1
  generalize H1 = h4
  obtain ⟨o1, H1, a1, b1⟩ := app_bytes (H := h4 ++ [some (ABlk.arr 2 [[ahards [], avotes []]] false)] ++ [some (ABlk.arr 1 (List.replicate 8 [AV.int .u8 0]) false)] ++ [some (ABlk.arr 1 ((List.replicate 7 (0 : Int) ++ [1]).map fun n => [AV.int .u8 n]) false)]) (m := h4.length + 1) (g := false) (xs := List.replicate 8 0) (by rw [bx31]; simp) (bx32 _ _ _ _) (a := 8) (b := 8) rfl rfl (by simp)
  rw [show List.map (fun n => [AV.int .u8 n]) (List.replicate 7 0 ++ [1] : List Int) = [[AV.int .u8 0], [AV.int .u8 0], [AV.int .u8 0], [AV.int .u8 0], [AV.int .u8 0], [AV.int .u8 0], [AV.int .u8 0], [AV.int .u8 1]] from rfl] at a1
  simp only [go_sem, reduceIte, Nat.reduceEqDiff, Nat.reduceAdd, Nat.reduceLeDiff, Nat.reducePow, Nat.reduceDiv, Nat.reduceMod, decide_true, hev_mks, amks8, Image.v_eq, scalar_ahards, scalar_avotes, cells_ahards, cells_avotes, a1]
  refine use1 hge.1 (hge.p b1 (bok _ (by decide)) (by simp)) ?_
  rw [show List.replicate 8 (0 : Int) ++ (List.replicate 7 0 ++ [1]) = List.replicate 15 0 ++ [1] from rfl, get1]
  clear a1 b1
  generalize H1 = h5
  simp only [go_sem, reduceIte, Nat.reduceEqDiff, Nat.reduceAdd, Nat.reduceLeDiff, Nat.reducePow, Nat.reduceDiv, Nat.reduceMod, decide_true, Image.v_eq, scalar_ahards, scalar_avotes, cells_ahards, cells_avotes]
  refine use1 hap.1 (hap.z (G := fun _ => True) (rdI0 _ _) (chgN_rd 1 1 ⟨0, 0, 0, 0, 0⟩ _ _) (ready0 (chgN_ok (by simp [i64ok])) (chgN_len _ _ _) (by decide))) ?_
  rw [ap1]
  generalize h5 ++ [_] = h6
  simp only [go_sem, reduceIte, Nat.reduceEqDiff, Nat.reduceAdd, Nat.reduceLeDiff, Nat.reducePow, Nat.reduceDiv, Nat.reduceMod, decide_true, Image.v_eq, scalar_ahards, scalar_avotes, cells_ahards, cells_avotes]
  refine use1 hap.1 (hap.z (G := fun _ => True) (rdI0 _ _) (chgN_rd 4 0 ⟨5, 1, 2, 0, 0⟩ _ _) (ready0 (chgN_ok (by simp [i64ok])) (chgN_len _ _ _) (by decide))) ?_
  rw [ap4]
  generalize h6 ++ [_] = h7
  simp only [go_sem, reduceIte, Nat.reduceEqDiff, Nat.reduceAdd, Nat.reduceLeDiff, Nat.reducePow, Nat.reduceDiv, Nat.reduceMod, decide_true, Image.v_eq, scalar_ahards, scalar_avotes, cells_ahards, cells_avotes]
  have A0 := bx10 h7 (some (.arr 2 [[ahards [], avotes [⟨5, 1, 2, 0, 0⟩]]] false))
  have l8 : (h7 ++ [some (ABlk.arr 2 [[ahards [], avotes [⟨5, 1, 2, 0, 0⟩]]] false)]).length = h7.length + 1 := by simp
  generalize h7 ++ [some (ABlk.arr 2 [[ahards [], avotes [⟨5, 1, 2, 0, 0⟩]]] false)] = h8 at *
  refine use1 hfi.1 (hfi.2 h8) ?_
  simp only [go_sem, reduceIte, Nat.reduceEqDiff, Nat.reduceAdd, Nat.reduceLeDiff, Nat.reducePow, Nat.reduceDiv, Nat.reduceMod, decide_true]
  refine use1 hap.1 (hap.z (G := fun _ => True) (rdL_av _ _ _) (chgN_rd 0 0 ⟨0, 0, 0, 0, 0⟩ _ _) (readyF (chgN_ok (by simp [i64ok])) (chgN_len _ _ _) (by decide))) ?_
  rw [apF0]
  simp only [go_sem, reduceIte, Nat.reduceEqDiff, Nat.reduceAdd, Nat.reduceLeDiff, Nat.reducePow, Nat.reduceDiv, Nat.reduceMod, decide_true, Image.v_eq, scalar_ahards, scalar_avotes, cells_ahards, cells_avotes]
  have A0 := (Ext.b1 (h := h8) (some (.arr 2 [[ahards [], avotes []]] false))).get A0
  have l9 : (h8 ++ [some (ABlk.arr 2 [[ahards [], avotes []]] false)]).length = h8.length + 1 := by simp
  generalize h8 ++ [some (ABlk.arr 2 [[ahards [], avotes []]] false)] = h9 at *
  refine use1 hfi.1 (hfi.2 h9) ?_
  simp only [go_sem, reduceIte, Nat.reduceEqDiff, Nat.reduceAdd, Nat.reduceLeDiff, Nat.reducePow, Nat.reduceDiv, Nat.reduceMod, decide_true]
  refine use1 hap.1 (hap.z (G := fun _ => True) (rdL_av _ _ _) (chgN_rd 5 0 ⟨0, 0, 0, 0, 0⟩ _ _) (readyF (chgN_ok (by simp [i64ok])) (chgN_len _ _ _) (by decide))) ?_
  rw [apF5]
  have A0 := (Ext.b1 (h := h9) (some (.arr 2 [[ahards [], avotes []]] false))).get A0
  have av1 : alen (avotes [⟨5, 1, 2, 0, 0⟩]) = some (.int .i64 1) := rfl
  simp only [go_sem, reduceIte, Nat.reduceEqDiff, Nat.reduceAdd, Nat.reduceLeDiff, Nat.reducePow, Nat.reduceDiv, Nat.reduceMod, decide_true, Image.v_eq, scalar_ahards, scalar_avotes, cells_ahards, cells_avotes, A0, av1]
  have l10 : (h9 ++ [some (ABlk.arr 2 [[ahards [], avotes []]] false)]).length = h9.length + 1 := by simp
  generalize h9 ++ [some (ABlk.arr 2 [[ahards [], avotes []]] false)] = h10 at *
  have B17 := bx20 h10 (some (.arr 1 (froms.map fun n => [AV.int .i64 n]) false)) (some (.arr 1 (lefts.map fun n => [AV.int .i64 n]) false))
  have B18 := bx21 h10 (some (.arr 1 (froms.map fun n => [AV.int .i64 n]) false)) (some (.arr 1 (lefts.map fun n => [AV.int .i64 n]) false))
  obtain ⟨I, hI⟩ : ∃ I : Nat → Env → AHeap → Prop, ∀ m L h', I m L h' ↔ ∃ i : Nat, lk 17 L = .ref h10.length 1 0 7 (some 7) ∧ lk 18 L = .ref (h10.length + 1) 1 0 7 (some 7) ∧ lk 19 L = .int .i64 i ∧
      h'[h10.length]? = some (some (.arr 1 (froms.map fun n => [AV.int .i64 n]) false)) ∧ h'[h10.length + 1]? = some (some (.arr 1 (lefts.map fun n => [AV.int .i64 n]) false)) ∧ i ≤ 7 ∧ m = 7 - i := ⟨_, fun _ _ _ => Iff.rfl⟩
  refine vc_loop I 7 ((hI _ _ _).2 ⟨0, by simp [lk_ins, lk_cons, l10], by simp [lk_ins, lk_cons, l10], by simp [lk_ins], B17, B18, by omega, by omega⟩) ?_
  clear A0 B17 B18 l8 l9
  intro m L h11 hh
  obtain ⟨i, k17, k18, k19, B17, B18, hi, rfl⟩ := (hI _ _ _).1 hh
  have la7 : ∀ n, alen (.ref n 1 0 7 (some 7)) = some (.int .i64 7) := fun _ => rfl
  simp only [c_glebelaw13_ImageKnown_l0, go_sem, reduceIte, Nat.reduceEqDiff, Nat.reduceAdd, Nat.reduceLeDiff, Nat.reducePow, Nat.reduceDiv, Nat.reduceMod, decide_true, k17, k18, k19, la7]
  refine wCond_split (fun ci => ?_) (fun ci => ?_)
  · simp at ci
    have ci : i < 7 := by omega
    have X2 := (Ext.b1 (h := h11) none).tr (Ext.b1 none)
    have lt := (List.getElem?_eq_some_iff.1 B17).1
    have lt2 := (List.getElem?_eq_some_iff.1 B18).1
    have i1 := ix_lit h10.length 7 i (some 7) .i64 ci
    have i2 := ix_lit (h10.length + 1) 7 i (some 7) .i64 ci
    have v1 : ∀ a b, aload (h11 ++ [a] ++ [b]) false 1 (.ptr h10.length 1 i 0) = some (.int .i64 (froms[i]'ci)) := fun a b => ld_lit (i := i) (((Ext.b1 (h := h11) a).tr (Ext.b1 b)).get B17) ci
    have nr1 : notRes h11.length 2 (.ptr h10.length 1 i 0) = true := notRes_lt lt
    simp only [go_sem, reduceIte, Nat.reduceEqDiff, Nat.reduceAdd, Nat.reduceLeDiff, Nat.reducePow, Nat.reduceDiv, Nat.reduceMod, decide_true, k17, k18, k19, i1, v1, nr1, loose_cons]
    refine use1 hfi.1 (hfi.2 _) ?_
    simp only [go_sem, reduceIte, Nat.reduceEqDiff, Nat.reduceAdd, Nat.reduceLeDiff, Nat.reducePow, Nat.reduceDiv, Nat.reduceMod, decide_true, k17, k18, k19, i1, v1, nr1, loose_cons]
    refine ⟨by simp, ?_⟩
    have fo := from_ok i ci
    have rdE : Rd (fun _ => True) (h11 ++ [some (.arr 3 [[.int .i64 9, .int .i64 0, .nils]] false)] ++ [none]) (dEntries [⟨9, 0, []⟩]) (.ref h11.length 3 0 1 (some 1)) :=
      Own.rd (F := fun _ => True) _ (fun _ x => x) _ (own_row (bx20 h11 _ _) rfl rfl trivial ⟨_, _, rfl, ⟨_, _, rfl, own_i64 _ _ 9, _, _, rfl, own_i64 _ _ 0, _, _, rfl, Own.nils 1, rfl⟩, rfl⟩)
    refine use1 hap.1 (hap.z (G := fun _ => True) (rdL_av _ _ first13.c) (chg2_rd (froms[i]'ci) rdE) (readyF (chg2_ok (from_i64 i ci)) (chg2_len _) (by simp [chg2]))) ?_
    generalize first13.applied (chg2 (froms[i]'ci)) = Z at *
    obtain ⟨z, e⟩ := Z
    have v2 : ∀ a b, aload (h11 ++ [a] ++ [b]) false 1 (.ptr (h10.length + 1) 1 i 0) = some (.int .i64 (lefts[i]'ci)) := fun a b => ld_lit (i := i) (((Ext.b1 (h := h11) a).tr (Ext.b1 b)).get B18) ci
    have nr2 : notRes (h11.length + 1 + 1) 0 (.ptr (h10.length + 1) 1 i 0) = true := notRes_lt (by omega)
    have ew : IntKind.i64.wrap (↑i + 1) = (i : Int) + 1 := wrap_i64 (by omega)
    simp only at fo
    generalize hle : (lefts[i]'ci) = le at *
    rcases fo with ⟨rfl, l0, hd, rfl, hl⟩ | ⟨rfl, rfl⟩
    · obtain ⟨p, cs, hp1, hp2, hcs⟩ := (rd_ahards (fun _ => True) (h11 ++ [some (.arr 3 [[.int .i64 9, .int .i64 0, .nils]] false)] ++ [some (.arr 2 [[ahards [hd], avotes []]] false)]) [hd]).index .i64 (i := 0) (d := hd.c) (by omega) (by simp)
      obtain ⟨te, to, tn, tl, ts, rfl, re, -⟩ := rd_hard hcs
      have lte : alen te = some (.int .i64 hd.log.es.length) := by simpa using re.len
      have g0 : decide ((0 : Int) ≤ le) = true := decide_eq_true l0
      simp only [go_sem, reduceIte, Nat.reduceEqDiff, Nat.reduceAdd, Nat.reduceLeDiff, Nat.reducePow, Nat.reduceDiv, Nat.reduceMod, decide_true, k17, k18, k19, i1, v1, nr1, loose_cons, Image.v_eq, scalar_ahards, scalar_avotes, cells_ahards, cells_avotes]
      refine ⟨by simp, by simp, ?_⟩
      subst hl
      have nrp := fun k => notRes_of0 (pcells_off hp2 0) k
      have nrq := fun k => notRes_of0 (pcells_off (pcells_off hp2 3) 2) k
      have ll : (h11 ++ [some (ABlk.arr 3 [[.int .i64 9, .int .i64 0, .nils]] false)] ++ [some (ABlk.arr 2 [[ahards [hd], avotes []]] false)]).length = h11.length + 1 + 1 := by simp
      rw [ll] at nrp nrq
      simp only [go_sem, reduceIte, Nat.reduceEqDiff, Nat.reduceAdd, Nat.reduceLeDiff, Nat.reducePow, Nat.reduceDiv, Nat.reduceMod, decide_true, k17, k18, k19, i2, v2, nr2, loose_cons, g0, hp1, afield_p hp2, aload_off hp2, Hard.cells, lte, afield_p (pcells_off hp2 3), aload_off (pcells_off hp2 3), nrp, nrq, ew]
      exact ⟨_, by omega, (hI _ _ _).2 ⟨i + 1, by simp [lk_ins, k17], by simp [lk_ins, k18], by simp [lk_ins], ((Ext.b1 _).tr (Ext.b1 _)).get B17, ((Ext.b1 _).tr (Ext.b1 _)).get B18, by omega, rfl⟩⟩
    · simp only [go_sem, reduceIte, Nat.reduceEqDiff, Nat.reduceAdd, Nat.reduceLeDiff, Nat.reducePow, Nat.reduceDiv, Nat.reduceMod, decide_true, k17, k18, k19, i1, v1, nr1, loose_cons, Image.v_eq, scalar_ahards, scalar_avotes, cells_ahards, cells_avotes]
      refine ⟨by simp, by simp, ?_⟩
      have g1 : decide ((0 : Int) ≤ -1) = false := rfl
      have g3 : decide ((3 : Int) = 0) = false := rfl
      simp only [go_sem, reduceIte, Nat.reduceEqDiff, Nat.reduceAdd, Nat.reduceLeDiff, Nat.reducePow, Nat.reduceDiv, Nat.reduceMod, decide_true, k17, k18, k19, i2, v2, nr2, loose_cons, g1, g3, ew]
      exact ⟨_, by omega, (hI _ _ _).2 ⟨i + 1, by simp [lk_ins, k17], by simp [lk_ins, k18], by simp [lk_ins], ((Ext.b1 _).tr (Ext.b1 _)).get B17, ((Ext.b1 _).tr (Ext.b1 _)).get B18, by omega, rfl⟩⟩
  · clear hI hh k17 k18 k19 B17 B18
    simp only [go_sem, reduceIte, Nat.reduceEqDiff, Nat.reduceAdd, Nat.reduceLeDiff, Nat.reducePow, Nat.reduceDiv, Nat.reduceMod, decide_true]
    have C6 : ∃ H : AHeap, H = h11 ++ [some (.arr 1 (row3 (6, 3, 1)) false)] ++ [some (.arr 1 (row3 (6, 2, 0)) false)] ++ [some (.arr 1 (row3 (9, 3, 0)) false)] ++ [some (.arr 1 (row3 (4, 2, 3)) false)] ++ [some (.arr 1 (row3 (7, 3, 0)) false)] ++ [some (.arr 1 (row3 (0, 0, 0)) false)] ++ [some (.arr 1 (rows6 h11.length) false)] := ⟨_, rfl⟩
    obtain ⟨H, eH⟩ := C6
    have C6 : H[h11.length + 6]? = some (some (.arr 1 (rows6 h11.length) false)) := by rw [eH]; exact bx76 _ _ _ _ _ _ _ _
    have CC : ∀ j (hj : j < 6), H[h11.length + j]? = some (some (.arr 1 (row3 (bases6[j]'hj)) false)) := by
      intro j hj
      rw [eH]
      match j, hj with
      | 0, _ => exact bx70 _ _ _ _ _ _ _ _
      | 1, _ => exact bx71 _ _ _ _ _ _ _ _
      | 2, _ => exact bx72 _ _ _ _ _ _ _ _
      | 3, _ => exact bx73 _ _ _ _ _ _ _ _
      | 4, _ => exact bx74 _ _ _ _ _ _ _ _
      | 5, _ => exact bx75 _ _ _ _ _ _ _ _
    obtain ⟨n, hn⟩ : ∃ n, h11.length = n := ⟨_, rfl⟩
    rw [hn] at C6 CC eH ⊢
    obtain ⟨I, hI⟩ : ∃ I : Nat → Env → AHeap → Prop, ∀ m L h', I m L h' ↔ ∃ i : Nat, lk 22 L = .ref (n + 6) 1 0 6 (some 6) ∧ lk 23 L = .int .i64 i ∧
      h'[n + 6]? = some (some (.arr 1 (rows6 n) false)) ∧ (∀ j (hj : j < 6), h'[n + j]? = some (some (.arr 1 (row3 (bases6[j]'hj)) false))) ∧ i ≤ 6 ∧ m = 6 - i := ⟨_, fun _ _ _ => Iff.rfl⟩
    refine vc_loop I 6 ((hI _ _ _).2 ⟨0, by simp [lk_ins, lk_cons], by simp [lk_ins], ?_, ?_, by omega, by omega⟩) ?_
    · exact eH ▸ C6
    · intro j hj; have := CC j hj; rw [eH] at this; exact this
    clear C6 CC eH
    intro m L h12 hh
    obtain ⟨i, k22, k23, C6, CC, hi, rfl⟩ := (hI _ _ _).1 hh
    have la6 : ∀ n, alen (.ref n 1 0 6 (some 6)) = some (.int .i64 6) := fun _ => rfl
    simp only [c_glebelaw13_ImageKnown_l1, go_sem, reduceIte, Nat.reduceEqDiff, Nat.reduceAdd, Nat.reduceLeDiff, Nat.reducePow, Nat.reduceDiv, Nat.reduceMod, decide_true, k22, k23, la6]
    refine wCond_split (fun ci => ?_) (fun ci => ?_)
    · simp at ci
      have ci : i < 6 := by omega
      have Ci := CC i ci
      obtain ⟨ib, it, ra, hd, rb, q1, q2, q3, q4, q5, q6⟩ := base_ok i ci
      have rr : first13.applied (chg3 (bases6[i]'ci).1 (bases6[i]'ci).2.1) = (⟨[hd], []⟩, 0) := Prod.ext rb ra
      clear ra rb
      generalize bases6[i]'ci = t at *
      obtain ⟨t0, t1, t2⟩ := t
      simp only at ib it q1 q2 q3 rr
      have ltC := (List.getElem?_eq_some_iff.1 C6).1
      have ix := ix_lit (n + 6) 6 i (some 6) .i64 ci
      have x0 : aindex 1 (.ref (n + i) 1 0 3 (some 3)) (.int .i64 0) = some (.ptr (n + i) 1 0 0) := ix_lit (n + i) 3 0 (some 3) .i64 (by omega)
      have x1 : aindex 1 (.ref (n + i) 1 0 3 (some 3)) (.int .i64 1) = some (.ptr (n + i) 1 1 0) := ix_lit (n + i) 3 1 (some 3) .i64 (by omega)
      have x2 : aindex 1 (.ref (n + i) 1 0 3 (some 3)) (.int .i64 2) = some (.ptr (n + i) 1 2 0) := ix_lit (n + i) 3 2 (some 3) .i64 (by omega)
      have X3 : ∀ a b c, Ext nof h12 (h12 ++ [a] ++ [b] ++ [c]) := fun a b c => ((Ext.b1 (h := h12) a).tr (Ext.b1 b)).tr (Ext.b1 c)
      have v6 : ∀ a b c, aload (h12 ++ [a] ++ [b] ++ [c]) false 1 (.ptr (n + 6) 1 i 0) = some (.ref (n + i) 1 0 3 (some 3)) := fun a b c => ld_row ((X3 a b c).get C6) (rows6_get n i ci)
      have y0 : ∀ a b c, aload (h12 ++ [a] ++ [b] ++ [c]) false 1 (.ptr (n + i) 1 0 0) = some (.int .i64 t0) := fun a b c => ld_row ((X3 a b c).get Ci) rfl
      have y1 : ∀ a b c, aload (h12 ++ [a] ++ [b] ++ [c]) false 1 (.ptr (n + i) 1 1 0) = some (.int .i64 t1) := fun a b c => ld_row ((X3 a b c).get Ci) rfl
      have y2 : ∀ a b c, aload (h12 ++ [a] ++ [b] ++ [c]) false 1 (.ptr (n + i) 1 2 0) = some (.int .i64 t2) := fun a b c => ld_row ((X3 a b c).get Ci) rfl
      have nr6 : notRes h12.length 3 (.ptr (n + 6) 1 i 0) = true := notRes_lt (by omega)
      have nri : ∀ k, notRes h12.length 3 (.ptr (n + i) 1 k 0) = true := fun k => notRes_lt (by omega)
      simp only [go_sem, reduceIte, Nat.reduceEqDiff, Nat.reduceAdd, Nat.reduceLeDiff, Nat.reducePow, Nat.reduceDiv, Nat.reduceMod, decide_true, k22, k23, ix, x0, x1, v6, y0, y1, nr6, nri, loose_cons]
      refine use1 hfi.1 (hfi.2 _) ?_
      simp only [go_sem, reduceIte, Nat.reduceEqDiff, Nat.reduceAdd, Nat.reduceLeDiff, Nat.reducePow, Nat.reduceDiv, Nat.reduceMod, decide_true, k22, k23, ix, x0, x1, v6, y0, y1, nr6, nri, loose_cons]
      refine ⟨by simp, ?_⟩
      have rI : Rd (fun _ => True) (h12 ++ [some (.arr 1 [[.int .i64 7]] false)] ++ [some (.arr 1 [[.int .u8 5]] false)] ++ [none]) (dInts [7]) (.ref h12.length 1 0 1 (some 1)) := rd_lit (k := .i64) (xs := [7]) (bx30 h12 _ _ _) rfl
      have rB : Rd (fun _ => True) (h12 ++ [some (.arr 1 [[.int .i64 7]] false)] ++ [some (.arr 1 [[.int .u8 5]] false)] ++ [none]) (dBytes [5]) (.ref (h12.length + 1) 1 0 1 (some 1)) := rd_lit (k := .u8) (xs := [5]) (bx31 h12 _ _ _) rfl
      refine use1 hap.1 (hap.z (G := fun _ => True) (rdL_av _ _ first13.c) (chg3_rd t0 t1 rI rB) (readyF (chg3_ok ib it) (chg3_len _ _) (by simp [chg3]))) ?_
      rw [rr]
      have ew : IntKind.i64.wrap (↑i + 1) = (i : Int) + 1 := wrap_i64 (by omega)
      obtain ⟨p, cs, hp1, hp2, hcs⟩ := (rd_ahards (fun _ => True) (h12 ++ [some (.arr 1 [[.int .i64 7]] false)] ++ [some (.arr 1 [[.int .u8 5]] false)] ++ [some (.arr 2 [[ahards [hd], avotes []]] false)]) [hd]).index .i64 (i := 0) (d := hd.c) (by omega) (by simp)
      obtain ⟨te, to, tn, tl, ts, rfl, re, ro, rn, rl, rs⟩ := rd_hard hcs
      have lte : alen te = some (.int .i64 hd.log.es.length) := by simpa using re.len
      have lto : alen to = some (.int .i64 1) := by have := ro.len; simpa [q4] using this
      have lts : alen ts = some (.int .i64 1) := by have := rs.len; simpa [q5] using this
      have nrp := fun o k => notRes_of0 (pcells_off hp2 o) k
      have nrq := fun o o' k => notRes_of0 (pcells_off (pcells_off hp2 o) o') k
      have ll : (h12 ++ [some (ABlk.arr 1 [[.int .i64 7]] false)] ++ [some (ABlk.arr 1 [[.int .u8 5]] false)] ++ [some (ABlk.arr 2 [[ahards [hd], avotes []]] false)]).length = h12.length + 1 + 1 + 1 := by simp
      rw [ll] at nrp nrq
      simp only [go_sem, reduceIte, Nat.reduceEqDiff, Nat.reduceAdd, Nat.reduceLeDiff, Nat.reducePow, Nat.reduceDiv, Nat.reduceMod, decide_true, k22, k23, ix, x0, x1, v6, y0, y1, nr6, nri, loose_cons, Image.v_eq, scalar_ahards, scalar_avotes, cells_ahards, cells_avotes]
      refine ⟨by simp [isFree], by simp [isFree], ?_⟩
      have nr6' : notRes (h12.length + 1 + 1 + 1) 0 (.ptr (n + 6) 1 i 0) = true := notRes_lt (by omega)
      have nri' : ∀ k, notRes (h12.length + 1 + 1 + 1) 0 (.ptr (n + i) 1 k 0) = true := fun k => notRes_lt (by omega)
      subst q1 q2 q3
      simp only [go_sem, reduceIte, Nat.reduceEqDiff, Nat.reduceAdd, Nat.reduceLeDiff, Nat.reducePow, Nat.reduceDiv, Nat.reduceMod, decide_true, k22, k23, ix, x0, x1, x2, v6, y0, y1, y2, nr6', nri', loose_cons, hp1, afield_p hp2, aload_off hp2, Hard.cells, lte, lto, lts, q6, afield_p (pcells_off hp2 3), aload_off (pcells_off hp2 3), afield_p (pcells_off hp2 6), aload_off (pcells_off hp2 6), nrp, nrq, ew]
      exact ⟨_, by omega, (hI _ _ _).2 ⟨i + 1, by simp [lk_ins, k22], by simp [lk_ins], (X3 _ _ _).get C6, fun j hj => (X3 _ _ _).get (CC j hj), by omega, rfl⟩⟩
    · clear hI hh k22 k23 C6 CC
      simp only [go_sem, reduceIte, Nat.reduceEqDiff, Nat.reduceAdd, Nat.reduceLeDiff, Nat.reducePow, Nat.reduceDiv, Nat.reduceMod, decide_true]
      have n1 : ∀ h, Rd (fun _ => True) h (dInts []) .nils := fun h => by simp only [dInts, Rd]; exact ⟨[], .inl ⟨rfl, rfl⟩, by simp only [List.map_nil, RdLL]⟩
      have rc : RdL (fun _ => True) (h12 ++ [some (.arr 1 [[.int .i64 1], [.int .i64 2]] false)] ++ [some (.arr 1 [[.int .i64 3]] false)]) (⟨[1, 2], [], [3]⟩ : Conf).c [.ref h12.length 1 0 2 (some 2), .nils, .ref (h12.length + 1) 1 0 1 (some 1)] :=
        ⟨_, _, rfl, rd_lit (k := .i64) (xs := [1, 2]) (bx20 h12 _ _) rfl, _, _, rfl, n1 _, _, _, rfl, rd_lit (k := .i64) (xs := [3]) (bx21 h12 _ _) rfl, rfl⟩
      refine wCall_use ⟨hpf.1, hpf.2 (fun _ => True) _ ⟨[1, 2], [], [3]⟩ _ rc (by simp) (by simp) (by simp)⟩ ?_
      rintro r H1 ⟨oB, -, -⟩
      simp only [go_sem, reduceIte, Nat.reduceEqDiff, Nat.reduceAdd, Nat.reduceLeDiff, Nat.reducePow, Nat.reduceDiv, Nat.reduceMod, decide_true]
      refine use1 hgf.1 (hgf.p (G := fun _ => True) (Own.rd _ (fun _ _ => trivial) _ oB) (bok _ (by decide)) (by decide)) ?_
      rw [conf12]
      clear oB rc
      simp only [go_sem, reduceIte, Nat.reduceEqDiff, Nat.reduceAdd, Nat.reduceLeDiff, Nat.reducePow, Nat.reduceDiv, Nat.reduceMod, decide_true, Conf.v_eq, scalar_aints, cells_aints]
      have D0 := fun z => (Ext.b1 (h := H1 ++ [some (.arr 3 [[aints [1, 2], aints [], aints [3]]] false)]) z).get (bx10 H1 (some (.arr 3 [[aints [1, 2], aints [], aints [3]]] false)))
      have rc : RdL (fun _ => True) (H1 ++ [some (.arr 3 [[aints [1, 2], aints [], aints [3]]] false)] ++ [some (.arr 1 [[.int .i64 2], [.int .i64 1]] false)]) (⟨[2, 1], [], []⟩ : Conf).c [.ref (H1.length + 1) 1 0 2 (some 2), .nils, .nils] :=
        ⟨_, _, rfl, rd_lit (k := .i64) (xs := [2, 1]) (bx21 H1 _ _) rfl, _, _, rfl, n1 _, _, _, rfl, n1 _, rfl⟩
      refine wCall_use ⟨hpf.1, hpf.2 (fun _ => True) _ ⟨[2, 1], [], []⟩ _ rc (by simp) (by simp) (by simp)⟩ ?_
      rintro r H2 ⟨oB, -, X2⟩
      have D0 := X2.get (D0 _)
      simp only [go_sem, reduceIte, Nat.reduceEqDiff, Nat.reduceAdd, Nat.reduceLeDiff, Nat.reducePow, Nat.reduceDiv, Nat.reduceMod, decide_true]
      refine use1 hgf.1 (hgf.p (G := fun _ => True) (Own.rd _ (fun _ _ => trivial) _ oB) (bok _ (by decide)) (by decide)) ?_
      rw [conf21]
      have D0 := (Ext.b1 (h := H2) (some (.arr 3 [[aints [], aints [], aints []]] false))).get D0
      have la2 : alen (aints [1, 2]) = some (.int .i64 2) := rfl
      have la1 : alen (aints [3]) = some (.int .i64 1) := rfl
      simp only [go_sem, reduceIte, Nat.reduceEqDiff, Nat.reduceAdd, Nat.reduceLeDiff, Nat.reducePow, Nat.reduceDiv, Nat.reduceMod, decide_true, Conf.v_eq, scalar_aints, cells_aints, D0, la2, la1]
      refine use1 hkn.1 (hkn.2 _) ?_
      simp only [go_sem, reduceIte, Nat.reduceEqDiff, Nat.reduceAdd, Nat.reduceLeDiff, Nat.reducePow, Nat.reduceDiv, Nat.reduceMod, decide_true]

end Glb
