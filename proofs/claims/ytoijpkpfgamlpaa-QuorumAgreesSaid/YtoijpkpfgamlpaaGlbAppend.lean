/-
  A library of its own, for whatever program: append.
-/
import Derived.Test.YtoijpkpfgamlpaaGlbHeavy
set_option linter.unusedSimpArgs false
set_option linter.unusedVariables false
namespace Glb
open Go

/-- a row of ours is given other elements -/
theorem Gam.update {G w h w'} (g : Gam G w h) {n sz es gr b es' gr'} (hn : h[n]? = some (some (.arr sz es gr))) (hb : G.loc n = some b)
    (k : Keeps G w G w') (hsize : w.heap.size ≤ w'.heap.size) (hother : ∀ m b', G.live m → G.loc m = some b' → m ≠ n → w'.heap[b']? = w.heap[b']?)
    (hH : Holds G w' b sz es' gr') : Gam G w' (h.set n (some (.arr sz es' gr'))) := by
  have hlt : n < h.length := (List.getElem?_eq_some_iff.1 hn).1
  refine { len := by simp [g.len], live := ?_, tag := ?_, inj := g.inj, liveTag := g.liveTag, liveS := g.liveS, tagInj := g.tagInj, tagS := g.tagS,
           tagLt := fun m b hb => Nat.lt_of_lt_of_le (g.tagLt m b hb) hsize, sLt := fun b hb => Nat.lt_of_lt_of_le (g.sLt b hb) hsize, arr := ?_, nil := ?_, nilLoc := g.nilLoc }
  · intro m
    rw [g.live m]
    by_cases hm : n = m
    · subst hm
      exact ⟨fun h => ⟨⟨_, _, _, List.getElem?_set_self hlt⟩, h.2⟩, fun h => ⟨⟨_, _, _, hn⟩, h.2⟩⟩
    · rw [List.getElem?_set_ne hm]
  · intro m b hb
    have hm : n ≠ m := by rintro rfl; rw [g.tag _ _ hb] at hn; simp at hn
    rw [List.getElem?_set_ne hm]; exact g.tag m b hb
  · intro m sz' es1 gr1 b' hm hb'
    by_cases h1 : n = m
    · subst h1
      rw [hb] at hb'; cases hb'
      rw [List.getElem?_set_self hlt] at hm
      obtain ⟨rfl, rfl, rfl⟩ : sz = sz' ∧ es' = es1 ∧ gr' = gr1 := by simpa using hm
      exact hH
    · rw [List.getElem?_set_ne h1] at hm
      exact (g.arr m sz' es1 gr1 b' hm hb').keep k (hother m b' (g.mkLive hm hb') hb' (fun e => h1 e.symm))
  · intro m sz' es1 gr1 hm hb'
    by_cases h1 : n = m
    · subst h1; rw [hb] at hb'; cases hb'
    · rw [List.getElem?_set_ne h1] at hm
      exact g.nil m sz' es1 gr1 hm hb'

def splice (es : List (List AV)) (p : Nat) (ys : List (List AV)) : List (List AV) := es.take p ++ ys ++ es.drop (p + ys.length)

theorem getc_splice {es ys : List (List AV)} {p i j : Nat} {c : AV} (hp : p ≤ es.length) (h : getc (splice es p ys) i j = some c) :
    (i < p ∧ getc es i j = some c) ∨ (p ≤ i ∧ i < p + ys.length ∧ getc ys (i - p) j = some c) ∨ (p + ys.length ≤ i ∧ getc es i j = some c) := by
  simp only [getc, splice, List.getElem?_append, List.length_append, List.length_take, Nat.min_eq_left hp] at h
  rcases Nat.lt_or_ge i p with h1 | h1
  · left
    rw [if_pos (by omega), if_pos h1, List.getElem?_take_of_lt h1] at h
    exact ⟨h1, h⟩
  · rcases Nat.lt_or_ge i (p + ys.length) with h2 | h2
    · right; left
      rw [if_pos h2, if_neg (by omega)] at h
      exact ⟨h1, h2, h⟩
    · right; right
      rw [if_neg (by omega), List.getElem?_drop] at h
      refine ⟨h2, ?_⟩
      rw [show p + ys.length + (i - (p + ys.length)) = i by omega] at h
      exact h

theorem okes_splice {sz : Nat} {es ys : List (List AV)} (h : okes sz es) (h' : okes sz ys) (p : Nat) : okes sz (splice es p ys) := by
  intro e he
  simp only [splice, List.mem_append] at he
  rcases he with (he | he) | he
  · exact h e (List.mem_of_mem_take he)
  · exact h' e he
  · exact h e (List.mem_of_mem_drop he)

/-- elements written into a row of ours -/
theorem writeRow {P : Program} {G w h} (g : Gam G w h) {n sz es gr b p ys vs cur ty} (hn : h[n]? = some (some (.arr sz es gr))) (hb : G.loc n = some b)
    (hcur : w.heap[b]? = some (.cells cur ty (0, 0))) (hrow : CRow G w sz ys vs) (hp : p ≤ es.length) (hfit : (p + ys.length) * sz ≤ cur.size) :
    ∃ w', (storeCells ⟨b, p * sz, none⟩ vs.toList).run P w = .ok () w' ∧ Stp G w G w' ∧ (∀ b', b' ≠ b → w'.heap[b']? = w.heap[b']?) ∧
      (∀ r, w'.shape? r = w.shape? r) ∧ ∀ gr', (gr' = false → cur.size = (splice es p ys).length * sz) → Holds G w' b sz (splice es p ys) gr' := by
  have hl := g.mkLive hn hb
  obtain ⟨⟨cells, ty', hh, h1, h2, h3⟩, hs⟩ := g.arr n sz es gr b hn hb
  rw [hcur] at hh
  obtain ⟨rfl, rfl⟩ : cur = cells ∧ ty = ty' := by simpa using hh
  have hvl : vs.toList.length = ys.length * sz := by simpa using hrow.size
  have hmul : (p + ys.length) * sz = p * sz + ys.length * sz := Nat.add_mul _ _ _
  have hrun := run_storeCells_at P b (p * sz) ty vs.toList 0 cur w hcur (by rw [hvl]; omega) hrow.one
  simp only [Nat.add_zero] at hrun
  generalize hnew : (cur.toList.take (p * sz) ++ vs.toList ++ cur.toList.drop (p * sz + vs.toList.length)).toArray = new at hrun
  have hsize : new.size = cur.size := by rw [← hnew]; simp only [List.size_toArray, List.length_append, List.length_take, List.length_drop, Array.length_toList] at *; omega
  have hheap := heap_setRow (c := new) hcur
  have hother : ∀ b', b' ≠ b → (w.setRow b new).heap[b']? = w.heap[b']? := fun b' hb' => heap_setRow_ne (fun e => hb' e.symm)
  have hshape : ∀ r, (w.setRow b new).shape? r = w.shape? r := by
    intro r
    by_cases hr : r = b
    · subst hr; simp only [World.shape?, hheap, hcur, hsize]
    · simp only [World.shape?, hother r hr]
  have hrest : Rest w (w.setRow b new) := ⟨rfl, rfl, fun x => by
    by_cases hr : x.block = b
    · simp only [World.frozen?, hr, hheap, hcur]
    · simp only [World.frozen?, hother _ hr]⟩
  have k : Keeps G w G (w.setRow b new) := by
    refine ⟨Nat.le_refl _, fun _ _ _ h => h, fun _ _ h => h, fun _ _ h => h, fun t b' hp => hother b' ?_, fun b _ => hshape b⟩
    rintro rfl
    cases t with
    | zero => exact g.liveS n _ hl hb hp
    | succ m => exact g.liveTag n m _ hl hb hp
  refine ⟨_, hrun, ⟨k, ⟨fun _ h => h, fun _ h => .inl h⟩, fun _ _ => rfl, fun _ _ => Iff.rfl, by simp [World.setRow], fun b' _ hb' => hother b' (by rintro rfl; exact hb' (.inl ⟨n, hl, hb⟩)), fun b hb => .inl hb, hrest⟩, hother, hshape, fun gr' hgr' => ?_⟩
  refine ⟨⟨new, ty, hheap, ?_, by rw [hsize]; exact hgr', ?_⟩, okes_splice hs hrow.ok p⟩
  · rw [hsize]
    simp only [splice, List.length_append, List.length_take, List.length_drop, Nat.min_eq_left hp]
    rcases Nat.le_total (p + ys.length) es.length with hc | hc
    · rw [show p + ys.length + (es.length - (p + ys.length)) = es.length by omega]; exact h1
    · rw [show p + ys.length + (es.length - (p + ys.length)) = p + ys.length by omega]; exact hfit
  · intro i j c hc
    have hcell : ∀ k, new[k]? = if k < p * sz then cur[k]? else if k < p * sz + ys.length * sz then vs[k - p * sz]? else cur[k]? := by
      intro k
      rw [← hnew]
      simp only [List.getElem?_toArray, List.getElem?_append, List.length_append, List.length_take, Array.length_toList, hrow.size]
      have e1 : min (p * sz) cur.size = p * sz := by omega
      rw [e1]
      rcases Nat.lt_or_ge k (p * sz) with a | a
      · rw [if_pos (by omega), if_pos a, if_pos a, List.getElem?_take_of_lt a]; simp
      · rcases Nat.lt_or_ge k (p * sz + ys.length * sz) with c | c
        · rw [if_pos c, if_neg (by omega), if_neg (by omega), if_pos c]; simp
        · rw [if_neg (by omega), if_neg (by omega), if_neg (by omega), List.getElem?_drop]
          rw [show p * sz + ys.length * sz + (k - (p * sz + ys.length * sz)) = k by omega]; simp
    rcases getc_splice hp hc with ⟨a, hc'⟩ | ⟨a, b', hc'⟩ | ⟨a, hc'⟩
    · obtain ⟨v, hv, hV⟩ := h3 i j c hc'
      have hj := (getc_lt hs hc').2
      refine ⟨v, ?_, hV.keep k⟩
      rw [hcell, if_pos (cell_lt a hj)]; exact hv
    · obtain ⟨v, hv, hV⟩ := hrow.val _ _ _ hc'
      have hj := (getc_lt hrow.ok hc').2
      have e : i * sz + j = p * sz + ((i - p) * sz + j) := by
        rw [show i * sz = (p + (i - p)) * sz by rw [Nat.add_sub_cancel' a], Nat.add_mul, Nat.add_assoc]
      have hlt := cell_lt (n := ys.length) (i := i - p) (by omega) hj
      refine ⟨v, ?_, hV.keep k⟩
      rw [hcell, if_neg (by omega), if_pos (by omega), show i * sz + j - p * sz = (i - p) * sz + j by omega]; exact hv
    · obtain ⟨v, hv, hV⟩ := h3 i j c hc'
      have hj := (getc_lt hs hc').2
      have : p * sz + ys.length * sz ≤ i * sz := by rw [← Nat.add_mul]; exact Nat.mul_le_mul_right _ a
      refine ⟨v, ?_, hV.keep k⟩
      rw [hcell, if_neg (by omega), if_neg (by omega)]; exact hv

/-! the run of append -/

theorem growBy_le (newLen : Nat) : ∀ (r c : Nat), 256 ≤ c → c < 2 * newLen → Builtin.growBy newLen r c ≤ 2 * newLen := by
  intro r
  induction r with
  | zero => intro c _ h; simp only [Builtin.growBy]; omega
  | succ r ih =>
    intro c h1 h2
    simp only [Builtin.growBy]
    split
    · omega
    · rename_i h3
      by_cases h4 : c + (c + 768) / 4 < 2 * newLen
      · exact ih _ (by omega) h4
      · have : c + (c + 768) / 4 ≤ 2 * newLen := by omega
        have : c + (c + 768) / 4 = 2 * newLen := by omega
        rw [this]
        cases r with
        | zero => simp [Builtin.growBy]
        | succ r => simp only [Builtin.growBy]; rw [if_pos (by omega)]; omega

theorem nextslicecap_le {need cap : Nat} (h : cap < need) : Builtin.nextslicecap need cap ≤ 2 * need := by
  unfold Builtin.nextslicecap
  split
  · omega
  · split
    · omega
    · exact growBy_le need 4 cap (by omega) (by omega)

structure AppT (P : Program) (sT xT elem : TypeId) (cs bs : Nat) (inf : TypeInfo) (zv : Value) : Prop where
  s : P.underlying sT = some (.slice elem)
  x : ∃ e, P.underlying xT = some (.slice e)
  info : P.info? elem = some inf
  sz : inf.size = cs
  bytes : inf.bytes = bs
  zero : inf.zero = some zv
  pos : 0 < bs
  zsz : zv.cells.size = cs

theorem run_append_room {P : Program} {sT xT elem sz bytes info zero} (T : AppT P sT xT elem sz bytes info zero) (ty : TypeId) (w : World)
    {base : Option Addr} {len cap k : Nat} {x : Value} {cells : Array Value} (hlen : (Builtin.lenOf x).run P w = .ok k w)
    (hf : (Builtin.firstCells sz k x).run P w = .ok cells w) (hr : len + k ≤ cap) :
    (Builtin.append_ #[sT, xT] ty #[.slice base len cap, x]).run P w =
      match base with
      | some a => ((storeCells (a.add (len * sz)) cells.toList).run P w).andThen fun _ w' => .ok (.slice base (len + k) cap) w'
      | none => .ok (.slice base (len + k) cap) w := by
  obtain ⟨d, hd⟩ := T.x
  cases base with
  | none =>
    simp only [Builtin.append_, Sem.run_bind, Sem.run_pure, Result.andThen_ok, run_underlying T.s, run_underlying hd, Go.sizeOf, run_typeInfo w T.info, T.sz, List.getElem?_toArray, List.getElem?_cons_zero,
          List.getElem?_cons_succ, Bool.false_eq_true, if_false, hlen, Sem.run_ite, if_pos hr, Bool.not_false, if_true, hf]
  | some a =>
    simp only [Builtin.append_, Sem.run_bind, Sem.run_pure, Result.andThen_ok, run_underlying T.s, run_underlying hd, Go.sizeOf, run_typeInfo w T.info, T.sz, List.getElem?_toArray, List.getElem?_cons_zero,
          List.getElem?_cons_succ, Bool.false_eq_true, if_false, hlen, Sem.run_ite, if_pos hr, Bool.not_false, if_true, hf]

theorem run_append_grow {P : Program} {sT xT elem sz bytes info zero} (T : AppT P sT xT elem sz bytes info zero) (ty : TypeId) (w : World)
    {s x : Value} {base : Option Addr} {len cap k : Nat} {old cells : Array Value} (hs : s = .slice base len cap) (hlen : (Builtin.lenOf x).run P w = .ok k w)
    (e1 : (Builtin.firstCells sz len s).run P w.drew = .ok old w.drew) (e2 : (Builtin.firstCells sz k x).run P w.drew = .ok cells w.drew)
    (hr : ¬ len + k ≤ cap) (hb : (len + k) * bytes ≤ 2 ^ 46) :
    ∃ newCap rest, len + k ≤ newCap ∧ rest.size = (newCap - (len + k)) * sz ∧ (Builtin.append_ #[sT, xT] ty #[s, x]).run P w =
      .ok (.slice (some ⟨w.heap.size, 0, none⟩) (len + k) newCap) (w.drew.alloc (.cells (old ++ cells ++ rest) elem)) := by
  subst hs
  obtain ⟨d, hd⟩ := T.x
  have hcap : Builtin.nextslicecap (len + k) cap * bytes ≤ 2 ^ 48 := by
    have h1 := nextslicecap_le (need := len + k) (cap := cap) (by omega)
    have h2 := Nat.mul_le_mul_right bytes h1
    rw [Nat.mul_assoc] at h2
    omega
  have hq : (Question.appendCap (len + k) cap elem).forced = false := rfl
  refine ⟨(Question.appendCap (len + k) cap elem).cut (w.tape w.drawn (.appendCap (len + k) cap elem)),
    Builtin.zeroCells zero.cells ((Question.appendCap (len + k) cap elem).cut (w.tape w.drawn (.appendCap (len + k) cap elem)) - (len + k)), ?_, ?_, ?_⟩
  · simp only [Question.cut]; omega
  · simp [Builtin.zeroCells, T.zsz]
  · have hb0 : ¬ bytes = 0 := Nat.ne_of_gt T.pos
    have hcap' : ¬ (2 ^ 48 < Builtin.nextslicecap (len + k) cap * bytes) := by omega
    have hcd : { w with drawn := w.drawn + 1 } = w.drew := rfl
    have hn1 : ¬ (((len + k : Nat) : Int) > IntKind.i64.max ∧ (false = true ∨ bytes = 0)) := by
      rintro ⟨_, h | h⟩
      · cases h
      · exact hb0 h
    have hn2 : ¬ (Builtin.nextslicecap (len + k) cap * bytes > 2 ^ 48) := hcap'
    simp only [Builtin.append_, Sem.run_bind, Sem.run_pure, Result.andThen_ok, run_underlying T.s, run_underlying hd, Go.sizeOf, run_typeInfo _ T.info, T.sz, List.getElem?_toArray, List.getElem?_cons_zero,
          List.getElem?_cons_succ, Bool.false_eq_true, if_false, hlen, Sem.run_ite, if_neg hr, T.bytes, hn2, false_or, hb0, and_false, run_choose, hq, hcd, run_askRoom, e1, e2, Bool.not_false, if_true,
          zeroValue, T.zero, newRow, run_newObj]
    rfl

def append1 (h : AHeap) (sz : Nat) (es : List (List AV)) : AV × AHeap := (.ref h.length sz 0 es.length none, h ++ [some (.arr sz es true)])

/-- append: of elements -/
def aappendY (h : AHeap) (sz bytes : Nat) (x : AV) (ys : List (List AV)) : Option (AV × AHeap) :=
  match x with
  | .nils => if ys.length * bytes ≤ 2 ^ 46 then some (append1 h sz ys) else none
  | .ref n sz' off len cap =>
    match h[n]? with
    | some (some (.arr sz'' es g)) =>
      if sz = sz' ∧ sz = sz'' ∧ off + len ≤ es.length ∧ (len + ys.length) * bytes ≤ 2 ^ 46 then
        match cap with
        | some (c + 1) =>
          if c + 1 < len + ys.length then some (append1 h sz ((es.drop off).take len ++ ys))
          else if off + len + ys.length ≤ es.length then some (.ref n sz off (len + ys.length) (some (c + 1)), h.set n (some (.arr sz (splice es (off + len) ys) g)))
          else none
        | some 0 => if len = 0 then (if ys.length = 0 then some (x, h) else some (append1 h sz ys)) else none
        | none => if off = 0 then some (append1 (h.set n none) sz (es.take len ++ ys)) else none
      else none
    | _ => none
  | .vals _ clip sz' es =>
    if sz = sz' ∧ (es.length + ys.length) * bytes ≤ 2 ^ 46 then
      if ys.length = 0 then some (x, h) else if clip = true then some (append1 h sz (es ++ ys)) else none
    else none
  | _ => none

/-- append -/
def aappend (h : AHeap) (sz bytes : Nat) (x y : AV) : Option (AV × AHeap) :=
  match aelems h sz y with
  | none => none
  | some ys => aappendY h sz bytes x ys

theorem CRow.append {G w sz es ys c1 c2} (h1 : CRow G w sz es c1) (h2 : CRow G w sz ys c2) : CRow G w sz (es ++ ys) (c1 ++ c2) := by
  refine ⟨fun e he => ?_, by simp [h1.size, h2.size, Nat.add_mul], fun i j c hc => ?_⟩
  · rcases List.mem_append.1 he with h | h
    · exact h1.ok e h
    · exact h2.ok e h
  · simp only [getc, List.getElem?_append] at hc
    split at hc
    · rename_i hi
      have hc' : getc es i j = some c := hc
      obtain ⟨v, hv, hV⟩ := h1.val i j c hc'
      have := cell_lt hi (getc_lt h1.ok hc').2
      exact ⟨v, by rw [Array.getElem?_append, if_pos (by rw [h1.size]; exact this)]; exact hv, hV⟩
    · rename_i hi
      have hc' : getc ys (i - es.length) j = some c := hc
      obtain ⟨v, hv, hV⟩ := h2.val _ j c hc'
      have e : i * sz + j = es.length * sz + ((i - es.length) * sz + j) := by
        rw [show i * sz = (es.length + (i - es.length)) * sz by rw [Nat.add_sub_cancel' (by omega)], Nat.add_mul, Nat.add_assoc]
      refine ⟨v, ?_, hV⟩
      rw [Array.getElem?_append, if_neg (by rw [h1.size]; omega), h1.size, show i * sz + j - es.length * sz = (i - es.length) * sz + j by omega]; exact hv

/-- the new row that a growing append makes -/
theorem grow_does {P : Program} {G w h} (g : Gam G w h) {sz es cells rest} (hrow : CRow G w sz es cells) (elem : TypeId) {newCap : Nat} (hle : es.length ≤ newCap) (hrest : rest.size = (newCap - es.length) * sz)
    {s : Sem Value} (hrun : s.run P w = .ok (.slice (some ⟨w.heap.size, 0, none⟩) es.length newCap) (w.drew.alloc (.cells (cells ++ rest) elem))) :
    Does P s G w (append1 h sz es).1 (append1 h sz es).2 := by
  have gd : Gam G w.drew h := g.same rfl
  have st : Stp G w G w.drew := Stp.drew G w _
  have hsize : (cells ++ rest).size = newCap * sz := by
    rw [Array.size_append, hrow.size, hrest, ← Nat.add_mul, Nat.add_sub_cancel' hle]
  have k := gd.keepsNew (.cells (cells ++ rest) elem)
  refine ⟨_, _, G.new (some w.heap.size), hrun, ?_, ?_, st.trans (gd.stpNew _ _)⟩
  · refine gd.gamNew hrow.ok (by rw [hsize]; exact Nat.mul_le_mul_right _ hle) (by simp) (fun i j c hc => ?_)
    obtain ⟨v, hv, hV⟩ := hrow.val i j c hc
    have := getc_lt hrow.ok hc
    have hlt := cell_lt this.1 this.2
    exact ⟨v, by rw [Array.getElem?_append, if_pos (by rw [hrow.size]; exact hlt)]; exact hv, hV.keep st.keep⟩
  · have := V.ref (G := G.new (some w.heap.size)) (w := w.drew.alloc (.cells (cells ++ rest) elem)) h.length sz 0 es.length none newCap elem (newCap * sz) w.heap.size
      (by rw [g.len]; exact Nat.lt_succ_self _) (by rw [g.len]; simp [Gh.new]) hle (by simp) (by rw [← hsize]; simp only [World.shape?]; rw [show w.heap.size = w.drew.heap.size from rfl, heap_alloc_new]) (by simp)
    simpa [append1] using this

theorem firstCells_nil {P : Program} (w : World) (sz n : Nat) : (Builtin.firstCells sz n (.slice none 0 0)).run P w = .ok #[] w := rfl

theorem CRow.nil (G w sz) : CRow G w sz [] #[] := ⟨fun e he => by simp at he, by simp, fun i j c hc => by simp [getc] at hc⟩

/-- a name for a nil row -/
theorem nilName {G w h} (g : Gam G w h) (sz : Nat) (gr : Bool) (cap : Option Nat) (hc : ∀ k, cap = some k → k = 0) :
    Gam (G.new none) w (h ++ [some (.arr sz [] gr)]) ∧ V (G.new none) w (.ref h.length sz 0 0 cap) (.slice none 0 0) ∧ Stp G w (G.new none) w := by
  have k := g.keepsName none
  refine ⟨g.gamName k (Nat.le_refl _) (fun _ _ _ _ => rfl) (by simp) (by simp) (fun _ => rfl), ?_, ⟨k, ⟨fun _ h => h, fun _ h => .inl h⟩, fun n hn => by simp only [Gh.new, Nat.ne_of_lt hn, if_false], fun n hn => by simp only [Gh.new, Nat.ne_of_lt hn, if_false], Nat.le_refl _, fun _ _ _ => rfl, fun b hb => ?_, Rest.refl w⟩⟩
  · rw [g.len]; exact .refNil _ _ _ (Nat.lt_succ_self _) (by simp [Gh.new]) hc
  · rcases hb with ⟨n, hn, he⟩ | ⟨n, hn⟩
    · by_cases h : n = G.N
      · simp [Gh.new, h] at he
      · simp only [Gh.new, h, if_false] at he
        exact .inl (.inl ⟨n, hn.resolve_right (fun x => h x.1), he⟩)
    · exact .inl (.inr ⟨n, hn⟩)

/-- a row gets another name -/
theorem renameRow {G w h} (g : Gam G w h) {n sz es gr b} (hn : h[n]? = some (some (.arr sz es gr))) (hb : G.loc n = some b) (gr' : Bool) (hgr : gr' = false → gr = false) :
    Gam ((G.kill n).new (some b)) w (h.set n none ++ [some (.arr sz es gr')]) ∧ Stp G w ((G.kill n).new (some b)) w := by
  have gk := g.drop hn
  have k := gk.keepsName (some b)
  have hl := g.mkLive hn hb
  have hH := g.arr n sz es gr b hn hb
  refine ⟨gk.gamName k (Nat.le_refl _) (fun _ _ _ _ => rfl) ?_ ?_ (by simp), ⟨(G.keepsKill w n).trans k, ⟨fun _ h => h, fun _ h => .inl h⟩, fun m hm => by simp only [Gh.new, Gh.kill, Nat.ne_of_lt hm, if_false], fun m hm => by simp only [Gh.new, Gh.kill, Nat.ne_of_lt hm, if_false], Nat.le_refl _, fun _ _ _ => rfl, fun x hx => ?_, Rest.refl w⟩⟩
  · rintro b' ⟨⟩
    exact ⟨fun m hm he => hm.2 (g.inj m n _ hm.1 hl he hb), fun m ht => g.liveTag n m _ hl hb ht, g.liveS n _ hl hb⟩
  · rintro b' ⟨⟩
    have := (hH.keep (G.keepsKill w n) rfl).keep k rfl
    exact ⟨this.ex.elim fun c hc => hc.elim fun t ht => ⟨c, t, ht.1, ht.2.1, fun e => ht.2.2.1 (hgr e), ht.2.2.2⟩, this.sz⟩
  · rcases hx with ⟨m, hm, he⟩ | ⟨m, hm⟩
    · by_cases h : m = (G.kill n).N
      · simp [Gh.new, h] at he; subst he
        exact .inl (.inl ⟨n, hl, hb⟩)
      · simp only [Gh.new, h, if_false] at he
        exact .inl (.inl ⟨m, (hm.resolve_right (fun x => h x.1)).1, he⟩)
    · exact .inl (.inr ⟨m, hm⟩)

theorem Keeps.heap_eq {G w w'} (h : w'.heap = w.heap) : Keeps G w G w' :=
  ⟨Nat.le_refl _, fun _ _ _ h => h, fun _ _ h => h, fun _ _ h => h, fun _ _ _ => by rw [h], fun _ _ => by simp only [World.shape?, h]⟩

/-- the elements from the start of a row -/
theorem Holds.cutShort {G w b sz es gr} (hh : Holds G w b sz es gr) (es' : List (List AV)) (hp : es' <+: es) : Holds G w b sz es' true := by
  obtain ⟨⟨cells, ty, h1, h2, h3, h4⟩, hs⟩ := hh
  obtain ⟨t, rfl⟩ := hp
  refine ⟨⟨cells, ty, h1, ?_, by simp, fun i j c hc => h4 i j c ?_⟩, fun e he => hs e (List.mem_append_left _ he)⟩
  · refine Nat.le_trans (Nat.mul_le_mul_right _ ?_) h2; simp
  · unfold getc at hc ⊢
    cases hq : es'[i]? with
    | none => rw [hq] at hc; cases hc
    | some e => rw [List.getElem?_append_left (List.getElem?_eq_some_iff.1 hq).1, hq]; rw [hq] at hc; exact hc

theorem aappendY_sound {P : Program} {G w h sz bytes x r h' vx} (g : Gam G w h) (hx : V G w x vx) {ys : List (List AV)} {cells cellsG : Array Value} (hrow : CRow G w sz ys cells) (hrowG : CRow G w sz ys cellsG)
    (hr : aappendY h sz bytes x ys = some (r, h')) (elem : TypeId) {S : Value → Sem Value}
    (room : ∀ {base : Option Addr} {len cap : Nat}, len + ys.length ≤ cap → (S (.slice base len cap)).run P w =
      match base with
      | some a => ((storeCells (a.add (len * sz)) cells.toList).run P w).andThen fun _ w' => .ok (.slice base (len + ys.length) cap) w'
      | none => .ok (.slice base (len + ys.length) cap) w)
    (growr : ∀ {s : Value} {base : Option Addr} {len cap : Nat} {old : Array Value}, s = .slice base len cap → (Builtin.firstCells sz len s).run P w.drew = .ok old w.drew →
      ¬ len + ys.length ≤ cap → (len + ys.length) * bytes ≤ 2 ^ 46 →
      ∃ newCap rest, len + ys.length ≤ newCap ∧ rest.size = (newCap - (len + ys.length)) * sz ∧ (S s).run P w =
        .ok (.slice (some ⟨w.heap.size, 0, none⟩) (len + ys.length) newCap) (w.drew.alloc (.cells (old ++ cellsG ++ rest) elem))) :
    Does P (S vx) G w r h' := by
  unfold aappendY at hr
  have kd : Keeps G w G w.drew := Keeps.heap_eq rfl
  have gd : Gam G w.drew h := g.same rfl
  -- what a growing append does
  have grow : ∀ {base : Option Addr} {len cap : Nat} {es : List (List AV)} {old : Array Value}, vx = .slice base len cap → es.length = len →
      (Builtin.firstCells sz len vx).run P w.drew = .ok old w.drew → CRow G w sz es old → ¬ len + ys.length ≤ cap → (len + ys.length) * bytes ≤ 2 ^ 46 →
      Does P (S vx) G w (append1 h sz (es ++ ys)).1 (append1 h sz (es ++ ys)).2 := by
    intro base len cap es old hv hl ho hro hno hb
    obtain ⟨nc, rest, h1, h2, h3⟩ := growr hv ho hno hb
    have hlen' : (es ++ ys).length = len + ys.length := by simp [hl]
    refine grow_does g (hro.append hrowG) elem (by rw [hlen']; exact h1) (by rw [hlen']; exact h2) ?_
    rw [h3, hlen']
  split at hr
  · -- nil
    cases hx
    split at hr
    · rename_i hb
      cases hr
      by_cases h0 : ys.length = 0
      · have hys0 : ys = [] := List.eq_nil_of_length_eq_zero h0
        subst hys0
        obtain ⟨a, b, c⟩ := nilName g sz true none (by simp)
        refine ⟨.slice none 0 0, w, G.new none, ?_, a, b, c⟩
        rw [room (by simp)]
        rfl
      · have := grow (base := none) (len := 0) (cap := 0) (es := []) (old := #[]) rfl rfl rfl (CRow.nil _ _ _) (by omega) (by simpa using hb)
        simpa [append1] using this
    · cases hr
  · rename_i n sz' off len cap
    split at hr
    · rename_i sz'' es gr hn
      split at hr
      · rename_i hh
        obtain ⟨rfl, rfl, hle, hb⟩ := hh
        cases hx with
        | refNil _ _ _ hnN hnl hcap =>
          have hes0 := g.nil n _ _ _ hn (g.nilLoc n hnl)
          subst hes0
          split at hr
          · rename_i c; exact absurd (hcap _ rfl) (by omega)
          · rw [if_pos rfl] at hr
            split at hr
            · rename_i h0
              cases hr
              have hys0 : ys = [] := List.eq_nil_of_length_eq_zero h0
              subst hys0
              exact Does.pure g (by rw [room (by simp)]; rfl) (.refNil _ _ _ hnN hnl hcap)
            · rename_i h0
              cases hr
              have := grow (base := none) (len := 0) (cap := 0) (es := []) (old := #[]) rfl rfl rfl (CRow.nil _ _ _) (by omega) (by simpa using hb)
              simpa [append1] using this
          · rw [if_pos rfl] at hr
            cases hr
            have gk := g.drop hn
            have stk := G.stpKill w n
            by_cases h0 : ys.length = 0
            · have hys0 : ys = [] := List.eq_nil_of_length_eq_zero h0
              subst hys0
              obtain ⟨a, b, c⟩ := nilName gk sz true none (by simp)
              refine ⟨.slice none 0 0, w, _, ?_, a, b, stk.trans c⟩
              rw [room (by simp)]
              rfl
            · obtain ⟨nc, rest, h1, h2, h3⟩ := growr (s := .slice none 0 0) (old := #[]) rfl rfl (by omega) (by simpa using hb)
              simp only [Nat.zero_add] at h1 h2 h3
              obtain ⟨v, w', G', a, b, c, d⟩ := grow_does (P := P) gk (hrowG.keep stk.keep) elem h1 h2 (by rw [h3]; simp)
              exact ⟨v, w', G', a, by simpa [append1] using b, by simpa [append1] using c, stk.trans d⟩
        | ref _ _ _ _ _ c tyb m b hnN hnb hl hcap hsh hm =>
          obtain ⟨cur, tyc, hcur, hcl, hcg, _⟩ := (g.arr n sz es gr b hn hnb).ex
          have hmcur : m = cur.size := by simp [World.shape?, hcur] at hsh; exact hsh.2.symm
          have hmid : ((es.drop off).take len).length = len := by simp; omega
          have hlive := g.mkLive hn hnb
          -- in place
          have place : len + ys.length ≤ c → off + len ≤ es.length →
              ∃ w', (S (.slice (some ⟨b, off * sz, none⟩) len c)).run P w = .ok (.slice (some ⟨b, off * sz, none⟩) (len + ys.length) c) w' ∧ Stp G w G w' ∧
                (∀ b', b' ≠ b → w'.heap[b']? = w.heap[b']?) ∧ (∀ r, w'.shape? r = w.shape? r) ∧
                ∀ gr', (gr' = false → cur.size = (splice es (off + len) ys).length * sz) → Holds G w' b sz (splice es (off + len) ys) gr' := by
            intro hroom hp
            have hfit : (off + len + ys.length) * sz ≤ cur.size := by
              refine Nat.le_trans (Nat.mul_le_mul_right sz ?_) (hmcur ▸ hm); omega
            obtain ⟨w', hst, stp, hoth, hshp, hH⟩ := writeRow (P := P) g hn hnb hcur hrow hp hfit
            refine ⟨w', ?_, stp, hoth, hshp, hH⟩
            rw [room hroom]
            simp only [addr_add, ← Nat.add_mul, hst, Result.andThen_ok]
          have growing : ¬ len + ys.length ≤ c → Does P (S (.slice (some ⟨b, off * sz, none⟩) len c)) G w (append1 h sz ((es.drop off).take len ++ ys)).1 (append1 h sz ((es.drop off).take len ++ ys)).2 := by
            intro hno
            obtain ⟨old, hrun, hro⟩ := (((g.arr n sz es gr b hn hnb).keep kd rfl).rowAt off len).load (P := P)
            rw [hmid] at hrun
            exact grow (base := some ⟨b, off * sz, none⟩) (len := len) (cap := c) rfl hmid hrun (hro.keep (Keeps.heap_eq (G := G) (w := w.drew) (w' := w) rfl)) hno hb
          split at hr
          · rename_i c'
            have hc := hcap _ rfl
            subst hc
            split at hr
            · rename_i hgrow
              cases hr
              exact growing (by omega)
            · split at hr
              · rename_i hng hin
                cases hr
                obtain ⟨w', hrun, stp, hoth, hshp, hH⟩ := place (by omega) (by omega)
                have hspl : (splice es (off + len) ys).length = es.length := by simp [splice]; omega
                refine ⟨_, w', G, hrun, ?_, ?_, stp⟩
                · exact g.update hn hnb stp.keep stp.size (fun m b' hm hb' hne => hoth b' (by rintro rfl; exact hne (g.inj m n _ hm hlive hb' hnb))) (hH gr (fun e => by rw [hspl]; exact hcg e))
                · exact .ref _ _ _ _ _ _ tyb m b hnN hnb (by omega) (by simp) (by rw [hshp]; exact hsh) hm
              · cases hr
          · have hc := hcap _ rfl
            subst hc
            split at hr
            · rename_i hl0
              subst hl0
              split at hr
              · rename_i h0
                cases hr
                have hcells : cells = #[] := by
                  have := hrow.size
                  rw [h0, Nat.zero_mul] at this
                  exact Array.eq_empty_of_size_eq_zero this
                subst hcells
                refine Does.pure g ?_ (.ref _ _ _ _ _ _ tyb m b hnN hnb hl hcap hsh hm)
                rw [room (by omega)]
                simp [h0, storeCells]
              · rename_i h0
                cases hr
                have := growing (by omega)
                simpa [append1] using this
            · cases hr
          · split at hr
            · rename_i hwhole
              subst hwhole
              cases hr
              have hlel : len ≤ es.length := by omega
              have htl : (es.take len).length = len := by simp; omega
              by_cases hroom : len + ys.length ≤ c
              · obtain ⟨w', hrun, stp, hoth, hshp, hH⟩ := place hroom (by omega)
                have hH' := (hH true (by simp)).cutShort (es.take len ++ ys) (by simp [splice])
                have gu := g.update hn hnb stp.keep stp.size (fun m b' hm hb' hne => hoth b' (by rintro rfl; exact hne (g.inj m n _ hm hlive hb' hnb))) hH'
                have hlt : n < h.length := (List.getElem?_eq_some_iff.1 hn).1
                obtain ⟨a, st2⟩ := renameRow gu (List.getElem?_set_self hlt) hnb true (by simp)
                rw [List.set_set] at a
                refine ⟨_, w', _, hrun, a, ?_, stp.trans st2⟩
                have := V.ref (G := (G.kill n).new (some b)) (w := w') (h.set n none).length sz 0 (es.take len ++ ys).length none c tyb m b
                  (by simp [g.len, Gh.new, Gh.kill]) (by simp [g.len, Gh.new, Gh.kill]) (by rw [List.length_append, htl]; exact hroom) (by simp) (by rw [hshp]; exact hsh) (by simpa using hm)
                simpa [append1, Nat.min_eq_left hlel] using this
              · have gk := g.drop hn
                have stk := G.stpKill w n
                obtain ⟨old, hrun, hro⟩ := (((g.arr n sz es gr b hn hnb).keep kd rfl).rowAt 0 len).load (P := P)
                have hmid' : (es.drop 0).take len = es.take len := by simp
                rw [hmid', htl] at hrun
                rw [hmid'] at hro
                obtain ⟨nc, rest, h1, h2, h3⟩ := growr (s := .slice (some ⟨b, 0 * sz, none⟩) len c) (old := old) rfl hrun hroom hb
                have hlen' : (es.take len ++ ys).length = len + ys.length := by rw [List.length_append, htl]
                have hro' : CRow G w sz (es.take len) old := hro.keep (Keeps.heap_eq (G := G) (w := w.drew) (w' := w) rfl)
                obtain ⟨v, w', G', a, b', c', d⟩ := grow_does (P := P) gk ((hro'.append hrowG).keep stk.keep) elem (by rw [hlen']; exact h1) (by rw [hlen']; exact h2) (by rw [h3, hlen'])
                exact ⟨v, w', G', a, b', c', stk.trans d⟩
            · cases hr
      · cases hr
    · cases hr
  · rename_i t clip sz' es
    split at hr
    · rename_i hh
      obtain ⟨rfl, hb⟩ := hh
      split at hr
      · rename_i h0
        cases hr
        refine Does.pure g ?_ hx
        cases hx with
        | valsNil => rw [room (by omega)]; simp [h0]
        | vals _ _ _ _ a cap f hl hcl hsp hp hes hc hV =>
          rw [room (by omega)]
          have : cells = #[] := by
            have := hrow.size
            rw [h0, Nat.zero_mul] at this
            exact Array.eq_empty_of_size_eq_zero this
          subst this
          simp [h0, storeCells]
      · rename_i h0
        split at hr
        · rename_i hclip
          cases hr
          cases hx with
          | valsNil =>
            have := grow (base := none) (len := 0) (cap := 0) (es := []) (old := #[]) rfl rfl rfl (CRow.nil _ _ _) (by omega) (by simpa using hb)
            simpa [append1] using this
          | vals _ _ _ _ a cap f hl hcl hsp hp hes hc hV =>
            have hcap := hcl hclip
            obtain ⟨old, hrun, hro⟩ := RowAt.load (P := P) (G := G) (w := w.drew) (b := a.block) (o := a.off) (sz := sz) (es := es) ⟨hes, f, hc, fun i j c hc => (hV i j c hc).keep kd⟩
            have hfc : (Builtin.firstCells sz es.length (.slice (some a) es.length cap)).run P w.drew = .ok old w.drew := by
              by_cases hcz : cap = 0
              · have hl0 : es.length = 0 := by omega
                have : old = #[] := by
                  have := hro.size
                  rw [hl0, Nat.zero_mul] at this
                  exact Array.eq_empty_of_size_eq_zero this
                subst this
                rw [hl0]
                simp [Builtin.firstCells, loadCells, loadCellsFrom]
              · have ha : a = ⟨a.block, a.off, none⟩ := by have := hsp hcz; cases a; simp at this; simp [this]
                rw [ha]; exact hrun
            refine grow (base := some a) (len := es.length) (cap := cap) (es := es) (old := old) rfl rfl ?_ (hro.keep (Keeps.heap_eq (G := G) (w := w.drew) (w' := w) rfl)) (by omega) hb
            exact hfc
        · cases hr
    · cases hr
  · cases hr

theorem aappend_sound {P : Program} {G w h sz bytes x y r h' vx vy} (g : Gam G w h) (hx : V G w x vx) (hy : V G w y vy) (hr : aappend h sz bytes x y = some (r, h'))
    {sT xT elem info zero} (T : AppT P sT xT elem sz bytes info zero) (ty : TypeId) :
    Does P (Builtin.append_ #[sT, xT] ty #[vx, vy]) G w r h' := by
  unfold aappend at hr
  cases hys : aelems h sz y with
  | none => simp [hys] at hr
  | some ys =>
  simp only [hys] at hr
  have kd : Keeps G w G w.drew := Keeps.heap_eq rfl
  have gd : Gam G w.drew h := g.same rfl
  obtain ⟨hlen, hok, cells, hf, hrow⟩ := aelems_sound (P := P) g hy hys
  obtain ⟨_, _, cellsD, hfD, hrowD'⟩ := aelems_sound (P := P) gd (hy.keep kd) hys
  have hrowD : CRow G w sz ys cellsD := hrowD'.keep (Keeps.heap_eq (G := G) (w := w.drew) (w' := w) rfl)
  exact aappendY_sound g hx hrow hrowD hr elem (S := fun s => Builtin.append_ #[sT, xT] ty #[s, vy]) (fun hl => run_append_room T ty w hlen hf hl)
    (fun hv ho hno hb => run_append_grow T ty w hv hlen ho hfD hno hb)

/-! zeros: 'append(s, make([]T, n)...)' and 'clear' -/

theorem wrap_small {c : Int} (h0 : 0 ≤ c) (h1 : c ≤ 2 ^ 46) : IntKind.i64.wrap c = c := by
  have e : (2 : Int) ^ 64 = 18446744073709551616 := by decide
  have e' : (2 : Int) ^ 63 = 9223372036854775808 := by decide
  have e2 : (2 : Int) ^ 46 = 70368744177664 := by decide
  rw [e2] at h1
  simp only [IntKind.wrap, IntKind.bits, IntKind.signed, Bool.true_and, e, decide_eq_true_eq]
  rw [show (64 - 1 : Nat) = 63 from rfl, e']
  rw [Int.emod_eq_of_lt h0 (by omega), if_neg (by omega)]

theorem zeros_row {G w} {z : Array Value} {sz : Nat} (hz : z.size = sz) (hsc : (z.toList.map ofV1).all AV.scalar = true) (n : Nat) :
    CRow G w sz (List.replicate n (z.toList.map ofV1)) (Builtin.zeroCells z n) := by
  have hok : okes sz (List.replicate n (z.toList.map ofV1)) := by
    intro e he
    rw [List.mem_replicate] at he
    rw [he.2]
    exact ⟨by simp [hz], hsc⟩
  refine ⟨hok, by simp [Builtin.zeroCells, hz], fun i j c hc => ?_⟩
  obtain ⟨hi, hj⟩ := getc_lt hok hc
  rw [List.length_replicate] at hi
  have hlt := cell_lt (n := n) hi hj
  have hj' : j < z.size := by omega
  simp only [getc, List.getElem?_replicate, hi, if_true, Option.bind_some, List.getElem?_map] at hc
  have hz' : z.toList[j]? = some z[j] := by simp [hj']
  rw [hz'] at hc
  simp only [Option.map_some, Option.some.injEq] at hc
  subst hc
  refine ⟨z[j], ?_, V.ofV1 G w _⟩
  simp only [Builtin.zeroCells, Array.getElem?_map, hz]
  rw [Array.getElem?_range, if_pos hlt]
  simp only [Option.map_some, Nat.mul_add_mod', Nat.mod_eq_of_lt hj]
  rw [getElem!_pos z j hj']

structure AppZ (P : Program) (sT xT elem : TypeId) (cs bs : Nat) (inf : TypeInfo) (zv : Value) : Prop where
  s : P.underlying sT = some (.slice elem)
  x : ∃ k, P.underlying xT = some (.int k)
  info : P.info? elem = some inf
  sz : inf.size = cs
  bytes : inf.bytes = bs
  zero : inf.zero = some zv
  pos : 0 < bs
  zsz : zv.cells.size = cs

theorem run_appendZ_room {P : Program} {sT xT elem sz bytes info zero} (T : AppZ P sT xT elem sz bytes info zero) (ty : TypeId) (w : World)
    {base : Option Addr} {len cap : Nat} {k : IntKind} {n : Int} (h0 : 0 ≤ n) (hb : n * bytes ≤ 2 ^ 46) (hr : len + n.toNat ≤ cap) :
    (Builtin.append_ #[sT, xT] ty #[.slice base len cap, .int k n]).run P w =
      match base with
      | some a => ((storeCells (a.add (len * sz)) (Builtin.zeroCells zero.cells n.toNat).toList).run P w).andThen fun _ w' => .ok (.slice base (len + n.toNat) cap) w'
      | none => .ok (.slice base (len + n.toNat) cap) w := by
  obtain ⟨d, hd⟩ := T.x
  have hn46 : n ≤ 2 ^ 46 := by
    have h1 : n * 1 ≤ n * bytes := Int.mul_le_mul_of_nonneg_left (by have := T.pos; omega) h0
    omega
  have hw := wrap_small h0 hn46
  have e2 : (2 : Int) ^ 46 = 70368744177664 := by decide
  have e3 : (2 : Int) ^ 48 = 281474976710656 := by decide
  have hbig : ¬ (n * (bytes : Int) > 2 ^ 48) := by omega
  have hng : ¬ n < 0 := by omega
  have hz : n.toNat * sz = 0 → Builtin.zeroCells zero.cells n.toNat = #[] := by
    intro h
    simp [Builtin.zeroCells, T.zsz, h]
  cases base with
  | none =>
    simp only [Builtin.append_, Sem.run_bind, Sem.run_pure, Result.andThen_ok, run_underlying T.s, run_underlying hd, Go.sizeOf, run_typeInfo w T.info, T.sz, T.bytes, List.getElem?_toArray, List.getElem?_cons_zero,
          List.getElem?_cons_succ, if_true, asInt, asIntOf, hw, hng, hbig, if_false, Sem.run_ite, if_pos hr, Bool.not_true, Bool.false_eq_true, zeroValue, T.zero]
    split <;> simp
  | some a =>
    by_cases h : n.toNat * sz = 0
    · simp only [Builtin.append_, Sem.run_bind, Sem.run_pure, Result.andThen_ok, run_underlying T.s, run_underlying hd, Go.sizeOf, run_typeInfo w T.info, T.sz, T.bytes, List.getElem?_toArray, List.getElem?_cons_zero,
          List.getElem?_cons_succ, if_true, asInt, asIntOf, hw, hng, hbig, if_false, Sem.run_ite, if_pos hr, Bool.not_true, Bool.false_eq_true, zeroValue, T.zero, h, hz h]
    · simp only [Builtin.append_, Sem.run_bind, Sem.run_pure, Result.andThen_ok, run_underlying T.s, run_underlying hd, Go.sizeOf, run_typeInfo w T.info, T.sz, T.bytes, List.getElem?_toArray, List.getElem?_cons_zero,
          List.getElem?_cons_succ, if_true, asInt, asIntOf, hw, hng, hbig, if_false, Sem.run_ite, if_pos hr, Bool.not_true, Bool.false_eq_true, zeroValue, T.zero, if_neg h]

theorem run_appendZ_grow {P : Program} {sT xT elem sz bytes info zero} (T : AppZ P sT xT elem sz bytes info zero) (ty : TypeId) (w : World)
    {s : Value} {base : Option Addr} {len cap : Nat} {old : Array Value} {k : IntKind} {n : Int} (h0 : 0 ≤ n) (hs : s = .slice base len cap)
    (e1 : (Builtin.firstCells sz len s).run P w.drew = .ok old w.drew)
    (hr : ¬ len + n.toNat ≤ cap) (hb : (len + n.toNat) * bytes ≤ 2 ^ 46) :
    ∃ newCap rest, len + n.toNat ≤ newCap ∧ rest.size = (newCap - (len + n.toNat)) * sz ∧ (Builtin.append_ #[sT, xT] ty #[s, .int k n]).run P w =
      .ok (.slice (some ⟨w.heap.size, 0, none⟩) (len + n.toNat) newCap) (w.drew.alloc (.cells (old ++ Builtin.zeroCells zero.cells n.toNat ++ rest) elem)) := by
  subst hs
  obtain ⟨d, hd⟩ := T.x
  have hcap : Builtin.nextslicecap (len + n.toNat) cap * bytes ≤ 2 ^ 48 := by
    have h1 := nextslicecap_le (need := len + n.toNat) (cap := cap) (by omega)
    have h2 := Nat.mul_le_mul_right bytes h1
    rw [Nat.mul_assoc] at h2
    omega
  have hq : (Question.appendCap (len + n.toNat) cap elem).forced = false := rfl
  have hnb : n.toNat * bytes ≤ 2 ^ 46 := Nat.le_trans (Nat.mul_le_mul_right _ (Nat.le_add_left _ _)) hb
  have hnbz : n * (bytes : Int) ≤ 2 ^ 46 := by
    have : ((n.toNat * bytes : Nat) : Int) = n * (bytes : Int) := by rw [Int.natCast_mul, Int.toNat_of_nonneg h0]
    rw [← this]
    have e2 : (2 : Int) ^ 46 = ((2 ^ 46 : Nat) : Int) := by decide
    rw [e2]; exact Int.ofNat_le.2 hnb
  have hn46 : n ≤ 2 ^ 46 := by
    have h1 : n * 1 ≤ n * bytes := Int.mul_le_mul_of_nonneg_left (by have := T.pos; omega) h0
    omega
  have hlen46 : len + n.toNat ≤ 2 ^ 46 := by
    have h1 : (len + n.toNat) * 1 ≤ (len + n.toNat) * bytes := Nat.mul_le_mul_left _ T.pos
    omega
  have hw := wrap_small h0 hn46
  have e2 : (2 : Int) ^ 46 = 70368744177664 := by decide
  have e3 : (2 : Int) ^ 48 = 281474976710656 := by decide
  have hbig : ¬ (n * (bytes : Int) > 2 ^ 48) := by omega
  have hng : ¬ n < 0 := by omega
  have hz : n.toNat * sz = 0 → Builtin.zeroCells zero.cells n.toNat = #[] := by
    intro h
    simp [Builtin.zeroCells, T.zsz, h]
  refine ⟨(Question.appendCap (len + n.toNat) cap elem).cut (w.tape w.drawn (.appendCap (len + n.toNat) cap elem)),
    Builtin.zeroCells zero.cells ((Question.appendCap (len + n.toNat) cap elem).cut (w.tape w.drawn (.appendCap (len + n.toNat) cap elem)) - (len + n.toNat)), ?_, ?_, ?_⟩
  · simp only [Question.cut]; omega
  · simp [Builtin.zeroCells, T.zsz]
  · have hb0 : ¬ bytes = 0 := Nat.ne_of_gt T.pos
    have hcap' : ¬ (2 ^ 48 < Builtin.nextslicecap (len + n.toNat) cap * bytes) := by omega
    have hcd : { w with drawn := w.drawn + 1 } = w.drew := rfl
    have hmax : ¬ (((len + n.toNat : Nat) : Int) > IntKind.i64.max) := by
      have : IntKind.i64.max = 9223372036854775807 := by decide
      rw [this]; omega
    have hn2 : ¬ (Builtin.nextslicecap (len + n.toNat) cap * bytes > 2 ^ 48) := hcap'
    by_cases h : n.toNat * sz = 0
    · simp only [Builtin.append_, Sem.run_bind, Sem.run_pure, Result.andThen_ok, run_underlying T.s, run_underlying hd, Go.sizeOf, run_typeInfo _ T.info, T.sz, List.getElem?_toArray, List.getElem?_cons_zero,
          List.getElem?_cons_succ, Bool.false_eq_true, if_false, Sem.run_ite, if_neg hr, T.bytes, hn2, hmax, false_and, run_choose, hq, hcd, run_askRoom, e1, Bool.not_true, if_true,
          zeroValue, T.zero, newRow, run_newObj, asInt, asIntOf, hw, hng, hbig, h, hz h]
      rfl
    · simp only [Builtin.append_, Sem.run_bind, Sem.run_pure, Result.andThen_ok, run_underlying T.s, run_underlying hd, Go.sizeOf, run_typeInfo _ T.info, T.sz, List.getElem?_toArray, List.getElem?_cons_zero,
          List.getElem?_cons_succ, Bool.false_eq_true, if_false, Sem.run_ite, if_neg hr, T.bytes, hn2, hmax, false_and, run_choose, hq, hcd, run_askRoom, e1, Bool.not_true, if_true,
          zeroValue, T.zero, newRow, run_newObj, asInt, asIntOf, hw, hng, hbig, if_neg h]
      rfl

def aappendZ (h : AHeap) (sz bytes : Nat) (zero : List AV) (x y : AV) : Option (AV × AHeap) :=
  match y with
  | .int _ n => if 0 ≤ n ∧ n * bytes ≤ 2 ^ 46 then aappendY h sz bytes x (List.replicate n.toNat zero) else none
  | _ => none

theorem aappendZ_sound {P : Program} {G w h sz bytes x y r h' vx vy} (g : Gam G w h) (hx : V G w x vx) (hy : V G w y vy)
    {sT xT elem info zero} (T : AppZ P sT xT elem sz bytes info zero) (hsc : (zero.cells.toList.map ofV1).all AV.scalar = true)
    (hr : aappendZ h sz bytes (zero.cells.toList.map ofV1) x y = some (r, h')) (ty : TypeId) :
    Does P (Builtin.append_ #[sT, xT] ty #[vx, vy]) G w r h' := by
  unfold aappendZ at hr
  split at hr
  · rename_i k n
    cases hy
    split at hr
    · rename_i hh
      have hrow : CRow G w sz (List.replicate n.toNat (zero.cells.toList.map ofV1)) (Builtin.zeroCells zero.cells n.toNat) := zeros_row T.zsz hsc _
      refine aappendY_sound g hx hrow hrow hr elem (S := fun s => Builtin.append_ #[sT, xT] ty #[s, .int k n]) ?_ ?_
      · intro base len cap hl
        rw [List.length_replicate] at hl ⊢
        exact run_appendZ_room T ty w hh.1 hh.2 hl
      · intro s base len cap old hv ho hno hb
        rw [List.length_replicate] at hno hb ⊢
        exact run_appendZ_grow T ty w hh.1 hv ho hno hb
    · cases hr
  · cases hr

/-- 'clear' of a slice -/
def aclear (h : AHeap) (sz : Nat) (zero : List AV) (x : AV) : Option AHeap :=
  match x with
  | .nils => some h
  | .ref n sz' off len _ =>
    if len = 0 then some h else
    match h[n]? with
    | some (some (.arr sz'' es g)) => if sz = sz' ∧ sz = sz'' ∧ off + len ≤ es.length then some (h.set n (some (.arr sz (splice es off (List.replicate len zero)) g))) else none
    | _ => none
  | _ => none

theorem aclear_sound {P : Program} {G w h sz x h' vx} (g : Gam G w h) (hx : V G w x vx) {t elem info zero} (hu : P.underlying t = some (.slice elem)) (hi : P.info? elem = some info)
    (hzero : info.zero = some zero) (hz : zero.cells.size = sz) (hsc : (zero.cells.toList.map ofV1).all AV.scalar = true)
    (hr : aclear h sz (zero.cells.toList.map ofV1) x = some h') (ty : TypeId) :
    ∃ w', (Builtin.clear_ #[t] ty #[vx]).run P w = .ok (.tuple #[]) w' ∧ Gam G w' h' ∧ Stp G w G w' := by
  unfold aclear at hr
  split at hr
  · cases hr; cases hx
    exact ⟨w, by simp only [Builtin.clear_, List.getElem?_toArray, List.getElem?_cons_zero, Sem.run_bind, run_underlying hu, Result.andThen_ok, Sem.run_pure], g, Stp.refl G w⟩
  · rename_i n sz' off len cap
    split at hr
    · rename_i hl
      subst hl
      cases hr
      cases hx with
      | ref _ _ _ _ _ c tyb m b hnN hnb hl hcap hsh hm =>
        exact ⟨w, by simp only [Builtin.clear_, List.getElem?_toArray, List.getElem?_cons_zero, Sem.run_bind, run_underlying hu, Result.andThen_ok, Sem.run_pure], g, Stp.refl G w⟩
      | refNil _ _ _ hnN hnl hcap =>
        exact ⟨w, by simp only [Builtin.clear_, List.getElem?_toArray, List.getElem?_cons_zero, Sem.run_bind, run_underlying hu, Result.andThen_ok, Sem.run_pure], g, Stp.refl G w⟩
    · rename_i hl
      split at hr
      · rename_i sz'' es gr hn
        split at hr
        · rename_i hh
          obtain ⟨rfl, rfl, hle⟩ := hh
          cases hr
          cases hx with
          | refNil => exact absurd rfl hl
          | ref _ _ _ _ _ c tyb m b hnN hnb hlc hcap hsh hm =>
            obtain ⟨cur, tyc, hcur, hcl, hcg, _⟩ := (g.arr n sz es gr b hn hnb).ex
            have hmcur : m = cur.size := by simp [World.shape?, hcur] at hsh; exact hsh.2.symm
            have hrow : CRow G w sz (List.replicate len (zero.cells.toList.map ofV1)) (Builtin.zeroCells zero.cells len) := zeros_row hz hsc _
            have hlive := g.mkLive hn hnb
            obtain ⟨w', hst, stp, hoth, hshp, hH⟩ := writeRow (P := P) g hn hnb hcur hrow (p := off) (by omega) (by
              rw [List.length_replicate]
              exact Nat.le_trans (Nat.mul_le_mul_right sz (by omega)) (hmcur ▸ hm))
            have hspl : (splice es off (List.replicate len (zero.cells.toList.map ofV1))).length = es.length := by simp [splice]; omega
            refine ⟨w', ?_, ?_, stp⟩
            · obtain ⟨l', rfl⟩ : ∃ l', len = l' + 1 := ⟨len - 1, by omega⟩
              simp only [Builtin.clear_, List.getElem?_toArray, List.getElem?_cons_zero, Sem.run_bind, run_underlying hu, Result.andThen_ok, Sem.run_pure, zeroValue, run_typeInfo w hi, hzero, hst]
            · exact g.update hn hnb stp.keep stp.size (fun m b' hm hb' hne => hoth b' (by rintro rfl; exact hne (g.inj m n _ hm hlive hb' hnb))) (hH gr (fun e => by rw [hspl]; exact hcg e))
        · cases hr
      · cases hr
  · cases hr

end Glb
