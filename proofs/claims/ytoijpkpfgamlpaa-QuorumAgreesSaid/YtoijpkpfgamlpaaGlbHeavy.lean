/-
  A library of its own, for whatever program: the operations that make or change memory.
-/
import Derived.Test.YtoijpkpfgamlpaaGlbSem
import Derived.Laws.CopyRow
set_option linter.unusedSimpArgs false
set_option linter.unusedVariables false
namespace Glb
open Go

/-- what an operation that may make or change memory does -/
def Does (P : Program) (s : Sem Value) (G : Gh) (w : World) (r : AV) (h' : AHeap) : Prop :=
  ∃ v w' G', s.run P w = .ok v w' ∧ Gam G' w' h' ∧ V G' w' r v ∧ Stp G w G' w'

theorem Does.pure {P s G w h r v} (g : Gam G w h) (hr : s.run P w = .ok v w) (hV : V G w r v) : Does P s G w r h :=
  ⟨v, w, G, hr, g, hV, Stp.refl G w⟩

/-! a new block -/

theorem VL.getc_one {G w cs vs} (hv : VL G w cs vs) : ∀ i j c, getc [cs] i j = some c → ∃ v, vs[i * cs.length + j]? = some v ∧ V G w c v := by
  intro i j c hc
  cases i with
  | zero =>
    simp [getc] at hc
    simpa using hv.get hc
  | succ i => simp [getc] at hc

theorem V.newPtr (G : Gh) (w : World) (b n sz : Nat) (h : G.N = n) : V (G.new (some b)) w (.ptr n sz 0 0) (.pointer (some ⟨b, 0, none⟩)) := by
  subst h
  have := V.ptr (G := G.new (some b)) (w := w) G.N sz 0 0 b (Nat.lt_succ_self _) (by simp [Gh.new])
  simpa using this

/-- what an operation that makes one block does -/
def LD (P : Program) (s : Sem Value) (G : Gh) (w : World) (mkv : Nat → AV) (sz : Nat) (es : List (List AV)) (gr : Bool) : Prop :=
  ∃ (cells : Array Value) (ty : TypeId) (v : Value), s.run P w = .ok v (w.alloc (.cells cells ty)) ∧ okes sz es ∧ es.length * sz ≤ cells.size ∧ (gr = false → cells.size = es.length * sz) ∧
    (∀ i j c, getc es i j = some c → ∃ v, cells[i * sz + j]? = some v ∧ V G w c v) ∧
    ∀ (G' : Gh) (nm : Nat), nm < G'.N → G'.loc nm = some w.heap.size → V G' (w.alloc (.cells cells ty)) (mkv nm) v

theorem LD.does {P s G w mkv sz es gr h} (g : Gam G w h) (l : LD P s G w mkv sz es gr) : Does P s G w (mkv h.length) (h ++ [some (.arr sz es gr)]) := by
  obtain ⟨cells, ty, v, h1, h2, h3, h4, h5, h6⟩ := l
  exact ⟨v, _, G.new (some w.heap.size), h1, g.gamNew h2 h3 h4 h5, h6 _ _ (by rw [g.len]; exact Nat.lt_succ_self _) (by rw [g.len]; simp [Gh.new]), g.stpNew _ _⟩

theorem newVar_ld {P : Program} {G w cs v} (hv : VL G w cs v.cells) (hsc : cs.all AV.scalar = true) (t : TypeId) :
    LD P (do pure (.pointer (some (← Go.newVar t v)))) G w (fun nm => .ptr nm cs.length 0 0) cs.length [cs] false := by
  refine ⟨v.cells, t, .pointer (some ⟨w.heap.size, 0, none⟩), by simp [Go.newVar, newRow], fun e he => by simp at he; subst he; exact ⟨rfl, hsc⟩, by simp [hv.1], fun _ => by simp [hv.1], hv.getc_one, ?_⟩
  intro G' nm hn hl
  have := V.ptr (G := G') (w := w.alloc (.cells v.cells t)) nm cs.length 0 0 w.heap.size hn hl
  simpa using this

/-- a row of elements -/
theorem newRow_ld {P : Program} {G w} {cells : Array Value} {sz : Nat} {es : List (List AV)} {gr : Bool} (t : TypeId)
    (hsz : okes sz es) (hle : es.length * sz ≤ cells.size) (hgr : gr = false → cells.size = es.length * sz)
    (hV : ∀ i j c, getc es i j = some c → ∃ v, cells[i * sz + j]? = some v ∧ V G w c v) (len cap : Nat) (ocap : Option Nat)
    (hl : len ≤ cap) (hc : ∀ k, ocap = some k → cap = k) (hm : cap * sz ≤ cells.size) :
    LD P (do pure (.slice (some (← newRow t cells)) len cap)) G w (fun nm => .ref nm sz 0 len ocap) sz es gr := by
  refine ⟨cells, t, .slice (some ⟨w.heap.size, 0, none⟩) len cap, by simp [newRow], hsz, hle, hgr, hV, ?_⟩
  intro G' nm hn hloc
  have := V.ref (G := G') (w := w.alloc (.cells cells t)) nm sz 0 len ocap cap t cells.size w.heap.size hn hloc hl hc (by simp only [World.shape?, heap_alloc_new]) (by simpa using hm)
  simpa using this

/-! parts laid into zeros -/

def setMany (cs : List AV) (o : Nat) : List AV → List AV
  | [] => cs
  | c :: r => setMany (cs.set o c) (o + 1) r

theorem length_setMany (cs : List AV) (o : Nat) (l : List AV) : (setMany cs o l).length = cs.length := by
  induction l generalizing cs o with
  | nil => rfl
  | cons c r ih => simp [setMany, ih]

/-- parts (an offset, a size, a value) laid into cells -/
def afill : List AV → List (Nat × Nat × AV) → Option (List AV)
  | cs, [] => some cs
  | cs, (o, n, x) :: r =>
    match x.cells? with
    | some l => if l.length = n ∧ o + n ≤ cs.length then afill (setMany cs o l) r else none
    | none => none

theorem VL.set {G w cs vs c v} (h : VL G w cs vs) (o : Nat) (hV : V G w c v) : VL G w (cs.set o c) (vs.setIfInBounds o v) := by
  refine ⟨by simp [h.1], fun j c' v' hc hv => ?_⟩
  by_cases hj : o = j
  · subst hj
    have hlt : o < cs.length := by have := (List.getElem?_eq_some_iff.1 hc).1; simpa using this
    rw [List.getElem?_set_self hlt] at hc
    rw [Array.getElem?_setIfInBounds_self_of_lt (by rw [← h.1]; exact hlt)] at hv
    cases hc; cases hv; exact hV
  · rw [List.getElem?_set_ne hj] at hc
    rw [Array.getElem?_setIfInBounds_ne hj] at hv
    exact h.2 j c' v' hc hv

theorem VL.setMany {G w} : ∀ {l : List AV} {vl : List Value} {cs : List AV} {vs : Array Value} (o k : Nat), VL G w cs vs →
    l.length = vl.length → (∀ (j : Nat) (c : AV) (v : Value), l[j]? = some c → vl[j]? = some v → V G w c v) →
    VL G w (setMany cs (o + k) l) ((vl.zipIdx k).foldl (fun cs (c, j) => cs.setIfInBounds (o + j) c) vs) := by
  intro l
  induction l with
  | nil =>
    intro vl cs vs o k h hl _
    have : vl = [] := List.eq_nil_of_length_eq_zero (by simpa using hl.symm)
    subst this
    exact h
  | cons c r ih =>
    intro vl cs vs o k h hl hV
    cases vl with
    | nil => simp at hl
    | cons v vr =>
      simp only [List.zipIdx_cons, List.foldl_cons, Glb.setMany]
      have := ih (vl := vr) (cs := cs.set (o + k) c) (vs := vs.setIfInBounds (o + k) v) o (k + 1) (h.set _ (hV 0 c v rfl rfl)) (by simpa using hl)
        (fun j c' v' hc hv => hV (j + 1) c' v' (by simpa using hc) (by simpa using hv))
      exact this

theorem afill_sound {G w} (place : Nat → Option (Nat × Nat)) : ∀ (ps : List (Nat × Value)) (as : List (Nat × Nat × AV)) (cs : List AV) (vs : Array Value) (r : List AV),
    VL G w cs vs → as.length = ps.length → (∀ (j i : Nat) (v : Value) (o n : Nat) (x : AV), ps[j]? = some (i, v) → as[j]? = some (o, n, x) → place i = some (o, n) ∧ V G w x v) →
    afill cs as = some r → ∃ us, Instr.fill place vs ps = some us ∧ VL G w r us := by
  intro ps
  induction ps with
  | nil =>
    intro as cs vs r h hl _ hr
    have : as = [] := List.eq_nil_of_length_eq_zero (by simpa using hl)
    subst this
    simp only [afill, Option.some.injEq] at hr
    subst hr
    exact ⟨vs, rfl, h⟩
  | cons p ps ih =>
    intro as cs vs r h hl hp hr
    obtain ⟨i, v⟩ := p
    cases as with
    | nil => simp at hl
    | cons q as =>
      obtain ⟨o, n, x⟩ := q
      obtain ⟨hpl, hV⟩ := hp 0 i v o n x rfl rfl
      simp only [afill] at hr
      split at hr
      · rename_i l hl'
        split at hr
        · rename_i hh
          have hc := hV.cells hl'
          have hsz : v.cells.size = n := by rw [← hc.1]; exact hh.1
          have hlen : vs.size = cs.length := h.1.symm
          have hset := VL.setMany (l := l) (vl := v.cells.toList) o 0 h (by simpa using hc.1) (fun j c u a b => hc.2 j c u a (by simpa using b))
          simp only [Nat.add_zero] at hset
          obtain ⟨us, hus, hVL⟩ := ih as (setMany cs o l) _ r hset (by simpa using hl) (fun j i v o n x a b => hp (j + 1) i v o n x (by simpa using a) (by simpa using b)) hr
          refine ⟨us, ?_, hVL⟩
          have hno : ¬ (v.cells.size ≠ n ∨ o + v.cells.size > vs.size) := by
            have := hh.2; rw [hsz, hlen]; omega
          simp only [Instr.fill, hpl, Bool.or_eq_true, decide_eq_true_eq]
          rw [if_neg hno]
          rw [← hus]
          congr 1
          rw [← Array.foldl_toList]
          simp
        · cases hr
      · cases hr

/-! a store -/

def astore (h : AHeap) (n : Nat) (a x : AV) : Option AHeap :=
  match a with
  | .ptr m sz i o =>
    match h[m]?, x.cells? with
    | some (some (.arr sz' es g)), some cs =>
      if sz = sz' ∧ cs.length = n ∧ o + n ≤ sz ∧ i < es.length ∧ cs.all AV.scalar = true then some (h.set m (some (.arr sz (es.modify i (setMany · o cs)) g))) else none
    | _, _ => none
  | _ => none

theorem modify_setMany (es : List (List AV)) (i o : Nat) (c : AV) (r : List AV) :
    es.modify i (setMany · o (c :: r)) = (setc es i o c).modify i (setMany · (o + 1) r) := by
  simp only [setc, setMany]
  apply List.ext_getElem?
  intro k
  simp only [List.getElem?_modify]
  by_cases h : i = k
  · subst h; cases es[i]? <;> simp
  · simp [h]

theorem modify_id (es : List (List AV)) (i o : Nat) : es.modify i (setMany · o []) = es := by
  have : (fun e : List AV => setMany e o []) = id := rfl
  rw [this]
  apply List.ext_getElem?
  intro k
  simp only [List.getElem?_modify]
  cases es[k]? <;> simp

theorem storeCells_does {P : Program} : ∀ (cs : List AV) (vs : List Value) (k : Nat) {G : Gh} {w : World} {h : AHeap} {m b sz i o : Nat} {es : List (List AV)} {gr : Bool},
    Gam G w h → h[m]? = some (some (.arr sz es gr)) → G.loc m = some b → cs.length = vs.length →
    (∀ (j : Nat) (c : AV) (v : Value), cs[j]? = some c → vs[j]? = some v → V G w c v) → cs.all AV.scalar = true → i < es.length → o + k + cs.length ≤ sz →
    ∃ w', (storeCells ⟨b, i * sz + o, none⟩ vs k).run P w = .ok () w' ∧ Gam G w' (h.set m (some (.arr sz (es.modify i (setMany · (o + k) cs)) gr))) ∧ Stp G w G w' := by
  intro cs
  induction cs with
  | nil =>
    intro vs k G w h m b sz i o es gr g hm _ hl _ _ _ _
    have : vs = [] := List.eq_nil_of_length_eq_zero (by simpa using hl.symm)
    subst this
    refine ⟨w, rfl, ?_, Stp.refl G w⟩
    rw [modify_id]
    have : h.set m (some (.arr sz es gr)) = h := by
      apply List.ext_getElem?; intro j
      by_cases hj : m = j
      · subst hj; rw [List.getElem?_set_self (List.getElem?_eq_some_iff.1 hm).1, hm]
      · rw [List.getElem?_set_ne hj]
    rw [this]; exact g
  | cons c r ih =>
    intro vs k G w h m b sz i o es gr g hm hb hl hV hs hi ho
    cases vs with
    | nil => simp at hl
    | cons v vr =>
      simp only [List.all_cons, Bool.and_eq_true] at hs
      have hgr := g.arr m sz es gr b hm hb
      have hlen : es[i].length = sz := (hgr.sz _ (List.getElem_mem hi)).1
      have hc0 : ∃ c0, getc es i (o + k) = some c0 := by
        have : o + k < es[i].length := by simp at ho; omega
        exact ⟨es[i][o + k], by simp [getc, hi, this]⟩
      obtain ⟨c0, hc0⟩ := hc0
      obtain ⟨v0, hcell, hfz, _⟩ := hgr.cell hc0
      have hV0 := hV 0 c v rfl rfl
      have gset := g.gamSet hm hb hc0 hV0 hs.1
      have hlive := g.mkLive hm hb
      have st := g.stpSet hlive hb (i * sz + (o + k)) v
      have hlt : m < h.length := (List.getElem?_eq_some_iff.1 hm).1
      obtain ⟨w', hrun, hg', hst⟩ := ih vr (k + 1) (m := m) (b := b) (sz := sz) (i := i) (o := o) (es := setc es i (o + k) c) (gr := gr) gset (List.getElem?_set_self hlt) hb (by simpa using hl)
        (fun j c' v' a b => (hV (j + 1) c' v' (by simpa using a) (by simpa using b)).keep st.keep) hs.2 (by rw [length_setc]; exact hi) (by simp at ho; omega)
      refine ⟨w', ?_, ?_, st.trans hst⟩
      · simp only [storeCells, Sem.run_bind, addr_add]
        rw [run_store P w _ v _ (hV0.oneCell hs.1)]
        rw [Nat.add_assoc, hcell]
        simp only [hfz, Bool.false_eq_true, if_false, Result.andThen_ok]
        exact hrun
      · rw [modify_setMany]
        rw [List.set_set] at hg'
        exact hg'

theorem astore_sound {P : Program} {G w h n a x h' va vx} (g : Gam G w h) (ha : V G w a va) (hx : V G w x vx) (hr : astore h n a x = some h')
    {t : TypeId} (hs : (Go.sizeOf t).run P w = .ok n w) :
    ∃ w', (Instr.storeAt t va vx).run P w = .ok () w' ∧ Gam G w' h' ∧ Stp G w G w' := by
  unfold astore at hr
  split at hr
  · rename_i m sz i o
    cases ha with
    | ptr _ _ _ _ b hn hb =>
    split at hr
    · rename_i sz' es gr cs hm hcs
      split at hr
      · rename_i hh
        obtain ⟨rfl, hl, ho, hi, hsc⟩ := hh
        cases hr
        have hv := hx.cells hcs
        obtain ⟨w', hrun, hg, hst⟩ := storeCells_does (P := P) cs vx.cells.toList 0 g hm hb (by simpa using hv.1) (fun j c v a b => hv.2 j c v a (by simpa using b)) hsc hi (o := o) (by omega)
        refine ⟨w', ?_, by simpa using hg, hst⟩
        have hno : vx.cells.size = n := by rw [← hv.1, hl]
        simp [Instr.storeAt, Instr.sureAddr, storeVar, hs, hno, hrun]
      · cases hr
    · cases hr
  · cases hr

/-! rows that are read -/

/-- elements that lie one behind the other -/
structure RowAt (G : Gh) (w : World) (b o sz : Nat) (es : List (List AV)) : Prop where
  ok : okes sz es
  ex : ∃ f : Nat → Nat → Value, (∀ i j c, getc es i j = some c → w.cell? ⟨b, o + (i * sz + j), none⟩ = some (f i j)) ∧ ∀ i j c, getc es i j = some c → V G w c (f i j)

/-- an array of values beside elements -/
structure CRow (G : Gh) (w : World) (sz : Nat) (es : List (List AV)) (cells : Array Value) : Prop where
  ok : okes sz es
  size : cells.size = es.length * sz
  val : ∀ i j c, getc es i j = some c → ∃ v, cells[i * sz + j]? = some v ∧ V G w c v

theorem CRow.keep {G w G' w' sz es cells} (k : Keeps G w G' w') (h : CRow G w sz es cells) : CRow G' w' sz es cells :=
  ⟨h.ok, h.size, fun i j c hc => let ⟨v, hv, hV⟩ := h.val i j c hc; ⟨v, hv, hV.keep k⟩⟩

theorem getc_some {es : List (List AV)} {sz i j : Nat} (h : okes sz es) (hi : i < es.length) (hj : j < sz) : ∃ c, getc es i j = some c := by
  have := (h _ (List.getElem_mem hi)).1
  exact ⟨es[i][j]'(by omega), by simp [getc, hi, this, hj]⟩

theorem getc_scalar {es : List (List AV)} {sz i j : Nat} {c : AV} (h : okes sz es) (hc : getc es i j = some c) : c.scalar = true := by
  simp only [getc] at hc
  cases he : es[i]? with
  | none => simp [he] at hc
  | some e =>
    simp [he] at hc
    obtain ⟨hi, rfl⟩ := List.getElem?_eq_some_iff.1 he
    exact List.all_eq_true.1 (h _ (List.getElem_mem hi)).2 c (List.mem_of_getElem? hc)

theorem split_index {n sz k : Nat} (h : k < n * sz) : k / sz < n ∧ k % sz < sz ∧ k / sz * sz + k % sz = k := by
  have hs : 0 < sz := Nat.pos_of_ne_zero (by rintro rfl; simp at h)
  refine ⟨(Nat.div_lt_iff_lt_mul hs).2 h, Nat.mod_lt _ hs, ?_⟩
  rw [Nat.mul_comm]; exact Nat.div_add_mod k sz

theorem CRow.one {G w sz es cells} (h : CRow G w sz es cells) : ∀ v ∈ cells.toList, v.oneCell' = true := by
  intro v hv
  obtain ⟨k, hk, rfl⟩ := List.mem_iff_getElem.1 hv
  have hk' : k < es.length * sz := by rw [← h.size]; simpa using hk
  obtain ⟨h1, h2, h3⟩ := split_index hk'
  obtain ⟨c, hc⟩ := getc_some h.ok h1 h2
  obtain ⟨v, hv, hV⟩ := h.val _ _ _ hc
  rw [h3] at hv
  have : cells.toList[k] = v := by
    have := (Array.getElem?_eq_some_iff.1 hv).2
    simpa using this
  rw [this]
  exact hV.oneCell (getc_scalar h.ok hc)

theorem RowAt.load {P : Program} {G w b o sz es} (h : RowAt G w b o sz es) :
    ∃ cells, (loadCells ⟨b, o, none⟩ (es.length * sz)).run P w = .ok cells w ∧ CRow G w sz es cells := by
  obtain ⟨hs, f, hc, hV⟩ := h
  refine ⟨((List.range (es.length * sz)).map fun k => f (k / sz) (k % sz)).toArray, run_loadCells (P := P) (w := w) ⟨b, o, none⟩ _ _ (fun k hk => ?_), hs, by simp, ?_⟩
  · obtain ⟨h1, h2, h3⟩ := split_index hk
    obtain ⟨c, hcc⟩ := getc_some hs h1 h2
    have := hc _ _ _ hcc
    rw [h3] at this
    rw [addr_add]; exact this
  · intro i j c hcc
    obtain ⟨hi, hj⟩ := getc_lt hs hcc
    have hk := cell_lt hi hj
    have hsz : 0 < sz := by omega
    have e1 : (i * sz + j) / sz = i := by rw [Nat.mul_comm, Nat.mul_add_div hsz, Nat.div_eq_of_lt hj, Nat.add_zero]
    have e2 : (i * sz + j) % sz = j := by rw [Nat.mul_comm, Nat.mul_add_mod, Nat.mod_eq_of_lt hj]
    exact ⟨f i j, by simp [hk, e1, e2], hV i j c hcc⟩

theorem getc_mid {es : List (List AV)} {off len i j : Nat} {c : AV} (h : getc ((es.drop off).take len) i j = some c) : getc es (off + i) j = some c := by
  simp only [getc, List.getElem?_take] at h ⊢
  split at h
  · simpa [List.getElem?_drop] using h
  · simp at h

theorem okes_mid {sz : Nat} {es : List (List AV)} (h : okes sz es) (off len : Nat) : okes sz ((es.drop off).take len) :=
  fun e he => h e (List.mem_of_mem_drop (List.mem_of_mem_take he))

theorem Holds.rowAt {G w b sz es gr} (h : Holds G w b sz es gr) (off len : Nat) : RowAt G w b (off * sz) sz ((es.drop off).take len) := by
  obtain ⟨⟨cells, ty, hh, _, _, h3⟩, hs⟩ := h
  refine ⟨okes_mid hs off len, fun i j => (cells[(off + i) * sz + j]?).getD undef, fun i j c hc => ?_, fun i j c hc => ?_⟩ <;>
  · obtain ⟨v, hv, hV⟩ := h3 _ _ _ (getc_mid hc)
    have e : off * sz + (i * sz + j) = (off + i) * sz + j := by rw [Nat.add_mul]; omega
    simp [World.cell?, hh, e, hv, hV]

/-- the elements of a slice -/
def aelems (h : AHeap) (sz : Nat) : AV → Option (List (List AV))
  | .nils => some []
  | .vals _ _ sz' es => if sz = sz' then some es else none
  | .ref m sz' off len _ =>
    match h[m]? with
    | some (some (.arr sz'' es _)) => if sz = sz' ∧ sz = sz'' ∧ off + len ≤ es.length then some ((es.drop off).take len) else none
    | _ => none
  | _ => none

theorem aelems_sound {P : Program} {G w h sz y ys vy} (g : Gam G w h) (hy : V G w y vy) (hr : aelems h sz y = some ys) :
    (Builtin.lenOf vy).run P w = .ok ys.length w ∧ okes sz ys ∧ ∃ cells, (Builtin.firstCells sz ys.length vy).run P w = .ok cells w ∧ CRow G w sz ys cells := by
  unfold aelems at hr
  split at hr
  · cases hy; cases hr
    exact ⟨rfl, fun e he => by simp at he, #[], rfl, fun e he => by simp at he, by simp, fun i j c hc => by simp [getc] at hc⟩
  · rename_i t cl sz' es
    split at hr
    · rename_i hh; subst hh; cases hr
      cases hy with
      | valsNil => exact ⟨rfl, fun e he => by simp at he, #[], rfl, fun e he => by simp at he, by simp, fun i j c hc => by simp [getc] at hc⟩
      | vals _ _ _ _ a cap f hl hcl hsp hp hes hc hV =>
        obtain ⟨cells, hrun, hrow⟩ := RowAt.load (P := P) (G := G) (w := w) (b := a.block) (o := a.off) (sz := sz) (es := ys) ⟨hes, f, hc, hV⟩
        refine ⟨rfl, hes, cells, ?_, hrow⟩
        by_cases hcz : cap = 0
        · have hl0 : ys.length = 0 := by omega
          have : cells = #[] := by
            have := hrow.size
            rw [hl0, Nat.zero_mul] at this
            exact Array.eq_empty_of_size_eq_zero this
          subst this
          rw [hl0]
          simp [Builtin.firstCells, loadCells, loadCellsFrom]
        · have ha : a = ⟨a.block, a.off, none⟩ := by have := hsp hcz; cases a; simp at this; simp [this]
          rw [ha]; exact hrun
    · cases hr
  · rename_i m sz' off len cap
    split at hr
    · rename_i sz'' es gr hm
      split at hr
      · rename_i hh
        obtain ⟨rfl, rfl, hle⟩ := hh
        cases hr
        have hlen : ((es.drop off).take len).length = len := by simp; omega
        cases hy with
        | refNil _ _ _ _ hb _ =>
          have := g.nil m sz es gr hm (g.nilLoc m hb)
          subst this
          exact ⟨rfl, fun e he => by simp at he, #[], rfl, fun e he => by simp at he, by simp, fun i j c hc => by simp [getc] at hc⟩
        | ref _ _ _ _ _ c ty mm b hn hb hl hcap hsh hmm =>
          have hrow := (g.arr m sz es gr b hm hb).rowAt off len
          obtain ⟨cells, hrun, hr'⟩ := hrow.load (P := P)
          refine ⟨by rw [hlen]; rfl, hrow.ok, cells, ?_, hr'⟩
          exact hrun
      · cases hr
    · cases hr
  · cases hr

/-! rows that are written -/

theorem heap_setRow {w : World} {g : Nat} {c cur : Array Value} {t : TypeId} {fr : Nat × Nat} (h : w.heap[g]? = some (.cells cur t fr)) :
    (w.setRow g c).heap[g]? = some (.cells c t fr) := setRow_heap w g cur c t fr h

theorem heap_setRow_ne {w : World} {g b : Nat} {c : Array Value} (h : g ≠ b) : (w.setRow g c).heap[b]? = w.heap[b]? := by
  simp [World.setRow, Array.getElem?_modify, h]

end Glb
