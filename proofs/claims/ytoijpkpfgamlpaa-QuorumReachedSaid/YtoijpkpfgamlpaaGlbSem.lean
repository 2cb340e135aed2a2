/-
  A library of its own, for whatever program: the single operations, on abstract values and on values in memory.
-/
import Derived.Test.YtoijpkpfgamlpaaGlbAV
import Derived.Laws.Entries
import Derived.Laws.Cells
import Derived.Laws.Small
import Derived.ChangeKeysEq
set_option linter.unusedSimpArgs false
set_option linter.unusedVariables false
namespace Glb
open Go

/-- a list of abstract values beside an array of values -/
def VL (G : Gh) (w : World) (cs : List AV) (vs : Array Value) : Prop :=
  cs.length = vs.size ∧ ∀ (j : Nat) (c : AV) (v : Value), cs[j]? = some c → vs[j]? = some v → V G w c v

theorem VL.keep {G w G' w' cs vs} (k : Keeps G w G' w') (h : VL G w cs vs) : VL G' w' cs vs :=
  ⟨h.1, fun j c v a b => (h.2 j c v a b).keep k⟩

theorem VL.app {G w cs vs cs' vs'} (h : VL G w cs vs) (h' : VL G w cs' vs') : VL G w (cs ++ cs') (vs ++ vs') := by
  refine ⟨by simp [h.1, h'.1], fun j c v hc hv => ?_⟩
  rw [List.getElem?_append] at hc
  rw [Array.getElem?_append, ← h.1] at hv
  split at hc
  · rename_i hlt
    rw [if_pos hlt] at hv
    exact h.2 j c v hc hv
  · rename_i hlt
    rw [if_neg hlt] at hv
    exact h'.2 _ c v hc hv

theorem VL.get {G w cs vs} {j : Nat} {c : AV} (h : VL G w cs vs) (hj : cs[j]? = some c) : ∃ v, vs[j]? = some v ∧ V G w c v := by
  have hlt := (List.getElem?_eq_some_iff.1 hj).1
  have : vs[j]? = some (vs[j]'(by rw [← h.1]; exact hlt)) := by simp [← h.1, hlt]
  exact ⟨_, this, h.2 j c _ hj this⟩

theorem VL.nil (G w) : VL G w [] #[] := ⟨rfl, fun j c v h => by simp at h⟩

theorem VL.of_list {G w} {cs : List AV} {vs : List Value} (hl : cs.length = vs.length)
    (h : ∀ (j : Nat) (c : AV) (v : Value), cs[j]? = some c → vs[j]? = some v → V G w c v) : VL G w cs vs.toArray :=
  ⟨by simpa using hl, fun j c v a b => h j c v a (by simpa using b)⟩

theorem VL.cons {G w c v} {cs : List AV} {vs : List Value} (h : V G w c v) (r : VL G w cs vs.toArray) : VL G w (c :: cs) (v :: vs).toArray := by
  refine VL.of_list (by have := r.1; simp at this; simp [this]) ?_
  intro j c' v' hc hv
  cases j with
  | zero => simp at hc hv; subst hc; subst hv; exact h
  | succ j => simp at hc hv; exact r.2 j c' v' hc (by simpa using hv)

/-- constants -/
def ofV1 : Value → AV
  | .bool b => .bool b
  | .int k n => .int k n
  | .string s => .str s
  | .slice none 0 0 => .nils
  | v => .raw v

def ofV : Value → AV
  | .agg cs => .agg (cs.toList.map ofV1)
  | .tuple cs => .tup (cs.toList.map ofV1)
  | v => ofV1 v

theorem V.ofV1 (G w) (v : Value) : V G w (ofV1 v) v := by
  unfold Glb.ofV1
  split
  · exact .bool _
  · exact .int _ _
  · exact .str _
  · exact .nils
  · exact .raw _

theorem VL.ofV1 (G w) (vs : Array Value) : VL G w (vs.toList.map Glb.ofV1) vs := by
  refine ⟨by simp, fun j c v hc hv => ?_⟩
  simp only [List.getElem?_map, Array.getElem?_toList, hv, Option.map_some, Option.some.injEq] at hc
  subst hc
  exact V.ofV1 G w v

theorem V.ofV (G w) (v : Value) : V G w (ofV v) v := by
  unfold Glb.ofV
  split
  · rename_i cs; exact .agg _ cs (VL.ofV1 G w cs).1 (VL.ofV1 G w cs).2
  · rename_i cs; exact .tup _ cs (VL.ofV1 G w cs).1 (VL.ofV1 G w cs).2
  · exact V.ofV1 G w _

theorem V.oneCell {G w c v} (h : V G w c v) (hs : c.scalar = true) : v.oneCell' = true := by
  cases h <;> simp_all [AV.scalar, Value.oneCell']

theorem V.cellsOne {G w c v} (h : V G w c v) (hs : c.scalar = true) : v.cells = #[v] := by
  have := h.oneCell hs
  cases v <;> simp_all [Value.cells, Value.oneCell']

/-- the cells of a value -/
def AV.cells? : AV → Option (List AV)
  | .agg cs => some cs
  | c => if c.scalar then some [c] else none

theorem V.cells {G w c v cs} (h : V G w c v) (hc : c.cells? = some cs) : VL G w cs v.cells := by
  unfold AV.cells? at hc
  split at hc
  · cases h with
    | agg _ vs hl hv => cases hc; exact ⟨hl, hv⟩
  · rename_i hne
    split at hc
    · rename_i hs
      cases hc
      rw [h.cellsOne hs]
      exact VL.cons (vs := []) h (VL.nil G w)
    · cases hc

/-! loads -/

def takeCells (agg : Bool) (n : Nat) (cs : List AV) : Option AV :=
  if agg then (if n ≤ cs.length then some (.agg (cs.take n)) else none) else cs.head?

def aload (h : AHeap) (agg : Bool) (n : Nat) : AV → Option AV
  | .ptr m sz i o =>
    match h[m]? with
    | some (some (.arr sz' es _)) => if sz = sz' then (es[i]?).bind fun e => takeCells agg n (e.drop o) else none
    | _ => none
  | .vptr _ cs => takeCells agg n cs
  | _ => none

theorem addr_add (b o n : Nat) : (⟨b, o, none⟩ : Addr).add n = ⟨b, o + n, none⟩ := by
  unfold Addr.add; split <;> simp_all

theorem addr_add' {a : Addr} (h : a.spot = none) (n : Nat) : a.add n = ⟨a.block, a.off + n, none⟩ := by
  cases a; simp at h; subst h; exact addr_add _ _ _

/-- cells that are there, one behind the other -/
def CellsAt (G : Gh) (w : World) (b o : Nat) (cs : List AV) : Prop :=
  ∃ f : Nat → Value, (∀ (j : Nat) (c : AV), cs[j]? = some c → w.cell? ⟨b, o + j, none⟩ = some (f j)) ∧ ∀ (j : Nat) (c : AV), cs[j]? = some c → V G w c (f j)

theorem CellsAt.load {P : Program} {G w b o cs} (h : CellsAt G w b o cs) {agg : Bool} {n : Nat} {r : AV} (hr : takeCells agg n cs = some r)
    {t : TypeId} (ha : (isAgg t).run P w = .ok agg w) (hs : (Go.sizeOf t).run P w = .ok n w) :
    ∃ v, (loadVar t ⟨b, o, none⟩).run P w = .ok v w ∧ V G w r v := by
  obtain ⟨f, hf, hV⟩ := h
  unfold takeCells at hr
  cases agg with
  | true =>
    simp only [if_true] at hr
    split at hr
    · rename_i hle
      cases hr
      have hl := run_loadCells (P := P) (w := w) ⟨b, o, none⟩ n f (fun j hj => by
        rw [addr_add]
        have : cs[j]? = some cs[j] := by simp
        exact hf j _ this)
      refine ⟨.agg ((List.range n).map f).toArray, by simp [loadVar, ha, hs, hl], ?_⟩
      refine .agg _ _ (by simp; omega) (fun j c v hc hv => ?_)
      have hj : j < n := by have := (List.getElem?_eq_some_iff.1 hc).1; simp at this; omega
      rw [List.getElem?_take_of_lt hj] at hc
      simp [hj] at hv
      subst hv
      exact hV j c hc
    · cases hr
  | false =>
    simp only [Bool.false_eq_true, if_false] at hr
    have h0 : cs[0]? = some r := by rw [← List.head?_eq_getElem?]; exact hr
    have hc := hf 0 r h0
    simp only [Nat.add_zero] at hc
    exact ⟨f 0, by simp [loadVar, ha, hc], hV 0 r h0⟩

theorem Holds.cellsAt {G w b sz es gr i e} (h : Holds G w b sz es gr) (he : es[i]? = some e) (o : Nat) : CellsAt G w b (i * sz + o) (e.drop o) := by
  obtain ⟨⟨cells, ty, hh, _, _, h3⟩, _⟩ := h
  refine ⟨fun j => (cells[i * sz + (o + j)]?).getD undef, fun j c hc => ?_, fun j c hc => ?_⟩ <;>
  · rw [List.getElem?_drop] at hc
    obtain ⟨v, hv, hV⟩ := h3 i (o + j) c (by simp [getc, he, hc])
    simp [World.cell?, hh, Nat.add_assoc, hv, hV]

theorem aload_sound {P : Program} {G w h agg n x r v} (g : Gam G w h) (hx : V G w x v) (hr : aload h agg n x = some r)
    {t : TypeId} (ha : (isAgg t).run P w = .ok agg w) (hs : (Go.sizeOf t).run P w = .ok n w) :
    ∃ u, (Instr.loadAt t v).run P w = .ok u w ∧ V G w r u := by
  unfold aload at hr
  split at hr
  · rename_i m sz i o
    cases hx with
    | ptr _ _ _ _ b hn hb =>
    split at hr
    · rename_i sz' es gr hm
      split at hr
      · rename_i hsz
        subst hsz
        cases he : es[i]? with
        | none => simp [he] at hr
        | some e =>
          simp only [he, Option.bind_some] at hr
          obtain ⟨u, hu, hV⟩ := ((g.arr m sz es gr b hm hb).cellsAt he o).load (P := P) hr ha hs
          exact ⟨u, by simp [Instr.loadAt, Instr.sureAddr, hu], hV⟩
      · cases hr
    · cases hr
  · rename_i t' cs
    cases hx with
    | vptr _ _ b off f hp hc hV =>
      obtain ⟨u, hu, hV⟩ := CellsAt.load (P := P) (G := G) (w := w) (b := b) (o := off) ⟨f, hc, hV⟩ hr ha hs
      exact ⟨u, by simp [Instr.loadAt, Instr.sureAddr, hu], hV⟩
  · cases hr

/-! addresses -/

def afield (o : Nat) : AV → Option AV
  | .ptr m sz i o' => some (.ptr m sz i (o' + o))
  | .vptr t cs => some (.vptr t (cs.drop o))
  | _ => none

theorem afield_sound {P : Program} {G w o x r v} (hx : V G w x v) (hr : afield o x = some r)
    {s : TypeId} {k : Nat} {fs : Array Field} {f : Field} (hu : P.underlying s = some (.struct fs)) (hf : fs[k]? = some f) (ho : f.offset = o)
    {m : Nat} (hs : (Go.sizeOf f.type).run P w = .ok m w) (hm : m ≠ 0) :
    ∃ u, (Instr.fieldAt s v k).run P w = .ok u w ∧ V G w r u := by
  unfold afield at hr
  split at hr
  · rename_i n sz i o'
    cases hx with
    | ptr _ _ _ _ b hn hb =>
      cases hr
      refine ⟨_, by simp [Instr.fieldAt, run_underlying hu, hf, Instr.sureAddr, fieldPlace, hs, hm, ho, addr_add]; rfl, ?_⟩
      rw [Nat.add_assoc]
      exact .ptr _ _ _ _ _ hn hb
  · rename_i t' cs
    cases hx with
    | vptr _ _ b off f' hp hc hV =>
      cases hr
      refine ⟨_, by simp [Instr.fieldAt, run_underlying hu, hf, Instr.sureAddr, fieldPlace, hs, hm, ho, addr_add]; rfl, ?_⟩
      refine .vptr _ _ _ _ (fun j => f' (o + j)) hp (fun j c hj => ?_) (fun j c hj => ?_)
      · rw [List.getElem?_drop] at hj
        rw [Nat.add_assoc]; exact hc _ _ hj
      · rw [List.getElem?_drop] at hj
        exact hV _ _ hj
  · cases hr

def aindex (sz : Nat) : AV → AV → Option AV
  | .ref m sz' off len _, .int _ i => if sz = sz' ∧ 0 ≤ i ∧ i < (len : Int) then some (.ptr m sz (off + i.toNat) 0) else none
  | .vals t _ sz' es, .int _ i => if sz = sz' ∧ 0 ≤ i then (es[i.toNat]?).map (.vptr t) else none
  | _, _ => none

theorem aindex_sound {P : Program} {G w sz x i r v vi} (hx : V G w x v) (hi : V G w i vi) (hr : aindex sz x i = some r)
    {t e : TypeId} (hu : P.underlying t = some (.slice e)) (hs : (Go.sizeOf e).run P w = .ok sz w) :
    ∃ u, (Instr.indexAt t v vi).run P w = .ok u w ∧ V G w r u := by
  unfold aindex at hr
  split at hr
  · rename_i m sz' off len cap k i
    cases hi
    cases hx with
    | refNil _ _ _ _ _ _ => simp at hr; omega
    | ref _ _ _ _ _ c ty mm b hn hb hl hcap hsh hm =>
      split at hr
      · rename_i hh
        obtain ⟨rfl, h0, h1⟩ := hh
        cases hr
        refine ⟨_, by simp [Instr.indexAt, asIntOf, run_underlying hu, hs, h0, h1, addr_add]; rfl, ?_⟩
        have : off * sz + i.toNat * sz = (off + i.toNat) * sz + 0 := by rw [Nat.add_mul]; rfl
        rw [this]
        exact .ptr _ _ _ _ _ hn hb
      · cases hr
  · rename_i t' cl sz' es k i
    cases hi
    split at hr
    · rename_i hh
      obtain ⟨rfl, h0⟩ := hh
      cases he : es[i.toNat]? with
      | none => simp [he] at hr
      | some e' =>
        simp only [he, Option.map_some, Option.some.injEq] at hr
        subst hr
        have hlt := (List.getElem?_eq_some_iff.1 he).1
        cases hx with
        | valsNil => simp at hlt
        | vals _ _ _ _ a cap f hl hcl hsp hp hes hc hV =>
          have h1 : i < (es.length : Int) := by omega
          refine ⟨_, by simp [Instr.indexAt, asIntOf, run_underlying hu, hs, h0, h1, addr_add' (hsp (by omega))]; rfl, ?_⟩
          refine .vptr _ _ _ _ (fun j => f i.toNat j) (hp (by rintro rfl; simp at hlt)) (fun j c hj => ?_) (fun j c hj => ?_)
          · rw [Nat.add_assoc]; exact hc _ _ c (by simp [getc, he, hj])
          · exact hV i.toNat j c (by simp [getc, he, hj])
    · cases hr
  · cases hr

/-! numbers -/

def ibin (op : BinOp) (k : IntKind) (a b : Int) : Option AV :=
  match op with
  | .add => some (.int k (k.wrap (a + b)))
  | .sub => some (.int k (k.wrap (a - b)))
  | .mul => some (.int k (k.wrap (a * b)))
  | .quo => if b = 0 then none else some (.int k (k.wrap (a.tdiv b)))
  | .rem => if b = 0 then none else some (.int k (a.tmod b))
  | .and => some (.int k (k.wrap (BitVec.ofInt k.bits a &&& BitVec.ofInt k.bits b).toNat))
  | .or => some (.int k (k.wrap (BitVec.ofInt k.bits a ||| BitVec.ofInt k.bits b).toNat))
  | .xor => some (.int k (k.wrap (BitVec.ofInt k.bits a ^^^ BitVec.ofInt k.bits b).toNat))
  | .andNot => some (.int k (k.wrap (BitVec.ofInt k.bits a &&& ~~~ BitVec.ofInt k.bits b).toNat))
  | .eql => some (.bool (a == b))
  | .neq => some (.bool (a != b))
  | .lss => some (.bool (decide (a < b)))
  | .leq => some (.bool (decide (a ≤ b)))
  | .gtr => some (.bool (decide (a > b)))
  | .geq => some (.bool (decide (a ≥ b)))
  | .shl | .shr => none

def ishift (op : BinOp) (k : IntKind) (a b : Int) : Option AV :=
  match op with
  | .shl => if b < 0 then none else some (.int k (k.wrap (a * 2 ^ (min b.toNat k.bits))))
  | .shr => if b < 0 then none else some (.int k (a.fdiv (2 ^ (min b.toNat k.bits))))
  | _ => none

def bbin (op : BinOp) (a b : Bool) : Option AV :=
  match op with
  | .eql => some (.bool (a == b))
  | .neq => some (.bool (!(a == b)))
  | _ => none

def sbin (op : BinOp) (a b : ByteArray) : Option AV :=
  match op with
  | .eql => some (.bool (a.toList == b.toList))
  | .neq => some (.bool (!(a.toList == b.toList)))
  | _ => none

/-- is it nil? -/
def anil : AV → Option Bool
  | .nils => some true
  | .ref _ _ _ len _ => if 0 < len then some false else none
  | .vals _ _ _ es => if 0 < es.length then some false else none
  | .ptr .. => some false
  | .vptr .. => some false
  | .raw (.pointer none) => some true
  | .raw .nilIface => some true
  | .iface .. => some false
  | _ => none

def abin (op : BinOp) : AV → AV → Option AV
  | .int k a, .int k' b => if op = .shl ∨ op = .shr then ishift op k a b else if k = k' then ibin op k a b else none
  | .str a, .str b => sbin op a b
  | _, _ => none

theorem run_eqGuard_int {P : Program} {w : World} (op : BinOp) (t : TypeId) (x y : Operand) (k k' : IntKind) (a b : Int) :
    (eqGuard op t x y (.int k a) (.int k' b)).run P w = .ok () w := by
  cases op <;> rfl

theorem run_eqGuard_bool {P : Program} {w : World} (op : BinOp) (t : TypeId) (x y : Operand) (a b : Bool) :
    (eqGuard op t x y (.bool a) (.bool b)).run P w = .ok () w := by
  cases op <;> rfl

theorem run_eqGuard_str {P : Program} {w : World} (op : BinOp) (t : TypeId) (x y : Operand) (a b : ByteArray) :
    (eqGuard op t x y (.string a) (.string b)).run P w = .ok () w := by
  cases op <;> rfl

theorem abin_sound {P : Program} {G w op x y r vx vy} (hx : V G w x vx) (hy : V G w y vy) (hr : abin op x y = some r) (t : TypeId) (ox oy : Operand) :
    ∃ u, (do eqGuard op t ox oy vx vy; binOp op t vx vy : Sem Value).run P w = .ok u w ∧ V G w r u := by
  unfold abin at hr
  split at hr
  · rename_i k a k' b
    cases hx; cases hy
    simp only [Sem.run_bind, run_eqGuard_int, Result.andThen_ok]
    split at hr
    · rename_i hop
      rcases hop with rfl | rfl <;> simp only [ishift] at hr <;> split at hr <;> simp only [Option.some.injEq, reduceCtorEq] at hr <;> subst hr <;>
        rename_i hlt <;> simp [binOp, Op.shift, hlt] <;> exact .int _ _
    · rename_i hop
      split at hr
      · rename_i hk
        subst hk
        cases op <;> simp only [ibin, reduceCtorEq] at hr
        case quo => split at hr <;> simp only [Option.some.injEq, reduceCtorEq] at hr; subst hr; rename_i hz; simp [binOp, Op.intDiv, hz]; exact .int _ _
        case rem => split at hr <;> simp only [Option.some.injEq, reduceCtorEq] at hr; subst hr; rename_i hz; simp [binOp, Op.intDiv, hz]; exact .int _ _
        all_goals simp only [Option.some.injEq] at hr; subst hr
        all_goals first
          | (refine ⟨_, ?_, .bool _⟩; simp only [binOp, Op.intCmp, ne_eq, not_true_eq_false, if_false, Sem.run_pure]; done)
          | (refine ⟨_, ?_, .int _ _⟩; simp only [binOp, Op.intArith, Op.intBits, ne_eq, not_true_eq_false, if_false, Sem.run_pure]; done)
      · cases hr
  · rename_i a b
    cases hx; cases hy
    simp only [Sem.run_bind, run_eqGuard_str, Result.andThen_ok]
    cases op <;> simp only [sbin, reduceCtorEq, Option.some.injEq] at hr <;> subst hr
    · exact ⟨_, rfl, .bool _⟩
    · exact ⟨_, rfl, .bool _⟩
  · cases hr

theorem bbin_sound {P : Program} {G w op a b r} (hr : bbin op a b = some r) (t : TypeId) (ox oy : Operand) (hu : P.underlying t = some .bool) :
    ∃ u, (do eqGuard op t ox oy (.bool a) (.bool b); binOp op t (.bool a) (.bool b) : Sem Value).run P w = .ok u w ∧ V G w r u := by
  simp only [Sem.run_bind, run_eqGuard_bool, Result.andThen_ok]
  cases op <;> simp only [bbin, reduceCtorEq, Option.some.injEq] at hr <;> subst hr
  · exact ⟨_, run_eql_bool w t a b hu, .bool _⟩
  · exact ⟨_, run_neq_bool w t a b hu, .bool _⟩

/-! a slice of a slice -/

def sliceClip : Option Int → Int → Nat → Bool → Bool
  | some m, h, _, _ => decide (m = h)
  | none, h, n, cl => cl && decide (h = (n : Int))

def sliceCap : Option Int → Nat → Option Nat → Option Nat
  | some m, l, _ => some (m.toNat - l)
  | none, l, cap => cap.map (· - l)

def aslice (sz : Nat) (x : AV) (lo hi mx : Option Int) : Option AV :=
  let l := lo.getD 0
  match x with
  | .nils => if l = 0 ∧ hi.getD 0 = 0 ∧ mx.getD 0 = 0 then some .nils else none
  | .ref m sz' off len cap =>
    let h := hi.getD len
    if sz = sz' ∧ 0 ≤ l ∧ l ≤ h ∧ h ≤ (len : Int) ∧ h ≤ mx.getD h ∧ mx.getD h ≤ ((cap.getD len : Nat) : Int) then
      let c : Option Nat := sliceCap mx l.toNat cap
      if l = 0 then some (.ref m sz off h.toNat c)
      else if l < h then some (.ref m sz (off + l.toNat) (h.toNat - l.toNat) c)
      else some (.vals 0 false sz [])
    else none
  | .vals t clip sz' es =>
    let h := hi.getD es.length
    if sz = sz' ∧ 0 ≤ l ∧ l ≤ h ∧ h ≤ (es.length : Int) ∧ h ≤ mx.getD h ∧ mx.getD h ≤ (es.length : Int) then
      some (.vals t (sliceClip mx h es.length clip) sz ((es.take h.toNat).drop l.toNat))
    else none
  | _ => none

theorem run_sliceBound {P : Program} {w : World} (k : IntKind) (i : Int) (y : Nat) (code : BoundsCode) (h0 : 0 ≤ i) (h1 : i ≤ (y : Int)) :
    (Instr.sliceBound (.int k i) y code).run P w = .ok i.toNat w := by
  simp [Instr.sliceBound, asIntOf, h0, h1]

/-- the three bounds, where they fit -/
theorem run_sliceBounds {P : Program} {w : World} (b : Bool) (len cap : Nat) (lo hi mx : Option Int) (klo khi kmx : IntKind)
    (h0 : 0 ≤ lo.getD 0) (h1 : lo.getD 0 ≤ hi.getD len) (h2 : hi.getD len ≤ mx.getD cap) (h3 : mx.getD cap ≤ (cap : Int)) (hm : mx.isSome → hi.isSome) :
    (Instr.sliceBounds b len cap (lo.map (.int klo)) (hi.map (.int khi)) (mx.map (.int kmx))).run P w =
      .ok ((lo.getD 0).toNat, (hi.getD len).toNat, (mx.getD cap).toNat) w := by
  unfold Instr.sliceBounds
  cases mx with
  | none =>
    cases hi with
    | none =>
      cases lo with
      | none => simp
      | some l => simp at h0 h1 h2 h3 ⊢; rw [run_sliceBound _ _ _ _ h0 (by omega)]; simp
    | some h =>
      simp at h0 h1 h2 h3 ⊢
      rw [run_sliceBound _ _ _ _ (by omega) (by omega)]
      cases lo with
      | none => simp
      | some l => simp at h0 h1 ⊢; rw [run_sliceBound _ _ _ _ h0 (by omega)]; simp
  | some m =>
    cases hi with
    | none => simp at hm
    | some h =>
      simp at h0 h1 h2 h3 ⊢
      rw [run_sliceBound _ _ _ _ (by omega) (by omega)]
      simp
      rw [run_sliceBound _ _ _ _ (by omega) (by omega)]
      cases lo with
      | none => simp
      | some l => simp at h0 h1 ⊢; rw [run_sliceBound _ _ _ _ h0 (by omega)]; simp

theorem V.empty {G w} (t : Nat) (sz : Nat) (a : Addr) (cap : Nat) (ha : cap ≠ 0 → a.spot = none) (clip : Bool) (hc : clip = true → cap = 0) :
    V G w (.vals t clip sz []) (.slice (some a) 0 cap) :=
  V.vals t clip sz [] a cap (fun _ _ => undef) (Nat.zero_le _) hc ha (fun h => absurd rfl h) (fun e he => by simp at he) (fun i j c h => by simp [getc] at h) (fun i j c h => by simp [getc] at h)

theorem aslice_sound {P : Program} {G w sz x lo hi mx r v} (hx : V G w x v) (hr : aslice sz x lo hi mx = some r) (klo khi kmx : IntKind)
    (hm : mx.isSome → hi.isSome) {t e : TypeId} (hu : P.underlying t = some (.slice e)) (hs : (Go.sizeOf e).run P w = .ok sz w) :
    ∃ u, (Instr.sliceAt t v (lo.map (.int klo)) (hi.map (.int khi)) (mx.map (.int kmx))).run P w = .ok u w ∧ V G w r u := by
  unfold aslice at hr
  simp only at hr
  split at hr
  · cases hx
    split at hr
    · rename_i hh
      obtain ⟨e0, e1, e2⟩ := hh
      cases hr
      refine ⟨.slice none 0 0, ?_, .nils⟩
      have := run_sliceBounds (P := P) (w := w) true 0 0 lo hi mx klo khi kmx (by omega) (by simp only [Int.natCast_zero] at *; omega) (by simp only [Int.natCast_zero] at *; omega) (by simp only [Int.natCast_zero] at *; omega) hm
      simp [Instr.sliceAt, Instr.slice, run_underlying hu, this, hs, e0, e1, e2]
    · cases hr
  · rename_i m sz' off len cap
    cases hx with
    | refNil _ _ _ hn hb hc =>
      split at hr
      · rename_i hh
        obtain ⟨rfl, e0, e1, e2, e3, e4⟩ := hh
        have hc0 : cap.getD 0 = 0 := by cases cap with | none => rfl | some k => exact hc k rfl
        rw [hc0] at e4
        have hb' := run_sliceBounds (P := P) (w := w) true 0 0 lo hi mx klo khi kmx e0 e1
          (by cases mx with | none => simp at e2 e3 ⊢; omega | some m => simpa using e3) (by cases mx with | none => simp | some m => simpa using e4) hm
        have hl0 : lo.getD 0 = 0 := by omega
        have hh0 : hi.getD ((0 : Nat) : Int) = 0 := by omega
        have hm0 : (mx.getD ((0 : Nat) : Int)).toNat = 0 := by cases mx with | none => rfl | some m => simp at e4 ⊢; omega
        rw [if_pos hl0] at hr
        cases hr
        refine ⟨.slice none 0 0, by simp only [Int.natCast_zero] at *; simp [Instr.sliceAt, Instr.slice, run_underlying hu, hb', hs, hl0, hh0, hm0], ?_⟩
        rw [hh0]
        refine .refNil _ _ _ hn hb (fun k hk => ?_)
        cases mx with
        | some m => simp [sliceCap, hl0] at hk e4; omega
        | none => cases cap with
          | none => simp [sliceCap] at hk
          | some q => have := hc q rfl; simp [sliceCap] at hk; omega
      · cases hr
    | ref _ _ _ _ _ c ty mm b hn hb0 hl hcap hsh hmm =>
      split at hr
      · rename_i hh
        obtain ⟨rfl, e0, e1, e2, e3, e4⟩ := hh
        have hcle : ((cap.getD len : Nat) : Int) ≤ (c : Int) := by
          cases cap with
          | none => simpa using hl
          | some k => have := hcap k rfl; simp; omega
        have e5 : hi.getD len ≤ mx.getD c := by cases mx with | none => simp at e3 ⊢; omega | some m => simpa using e3
        have e6 : mx.getD c ≤ (c : Int) := by cases mx with | none => simp | some m => simp at e4 ⊢; omega
        have hb := run_sliceBounds (P := P) (w := w) true len c lo hi mx klo khi kmx e0 e1 e5 e6 hm
        generalize hL : lo.getD 0 = l at *
        generalize hH : hi.getD len = h at *
        have hmax : (mx.getD c).toNat ≤ c := by omega
        have hhm : h.toNat ≤ (mx.getD c).toNat := by omega
        have hrun : (Instr.sliceAt t (.slice (some ⟨b, off * sz, none⟩) len c) (lo.map (.int klo)) (hi.map (.int khi)) (mx.map (.int kmx))).run P w =
            .ok (.slice (if (mx.getD c).toNat = l.toNat then some ⟨b, off * sz, none⟩ else some ⟨b, off * sz + l.toNat * sz, none⟩) (h.toNat - l.toNat) ((mx.getD c).toNat - l.toNat)) w := by
          simp [Instr.sliceAt, Instr.slice, run_underlying hu, hb, hs, addr_add]
        have hcap' : ∀ k, sliceCap mx l.toNat cap = some k → (mx.getD c).toNat - l.toNat = k := by
          intro k hk
          cases mx with
          | some m => simpa [sliceCap] using hk
          | none =>
            cases cap with
            | none => simp [sliceCap] at hk
            | some q => have := hcap q rfl; simp [sliceCap] at hk ⊢; omega
        split at hr
        · rename_i hl0
          subst hl0
          cases hr
          refine ⟨_, hrun, ?_⟩
          simp only [Int.toNat_zero, Nat.zero_mul, Nat.add_zero, ite_self, Nat.sub_zero] at hcap' ⊢
          refine .ref _ _ _ _ _ _ ty mm b hn hb0 hhm hcap' hsh (Nat.le_trans (Nat.mul_le_mul_right _ (by omega)) hmm)
        · split at hr
          · rename_i hl0 hlh
            cases hr
            refine ⟨_, hrun, ?_⟩
            rw [if_neg (by omega), ← Nat.add_mul]
            refine .ref _ _ _ _ _ _ ty mm b hn hb0 (by omega) hcap' hsh (Nat.le_trans (Nat.mul_le_mul_right _ (by omega)) hmm)
          · rename_i hl0 hlh
            cases hr
            refine ⟨_, hrun, ?_⟩
            have : h.toNat - l.toNat = 0 := by omega
            rw [this]
            split <;> exact V.empty _ _ _ _ (fun _ => rfl) false (by simp)
      · cases hr
  · rename_i t' cl sz' es
    split at hr
    · rename_i hh
      obtain ⟨rfl, e0, e1, e2, e3, e4⟩ := hh
      generalize hL : lo.getD 0 = l at *
      generalize hH : hi.getD es.length = h at *
      cases hr
      cases hx with
      | valsNil =>
        simp at e2 e4 hH
        have hb := run_sliceBounds (P := P) (w := w) true 0 0 lo hi mx klo khi kmx (by omega) (by simp; omega)
          (by cases mx with | none => simp; omega | some m => simp at e3 e4 ⊢; omega) (by cases mx with | none => simp | some m => simp at e3 e4 ⊢; omega) hm
        refine ⟨.slice none 0 0, ?_, by simpa using V.valsNil _ _ _⟩
        simp [Instr.sliceAt, Instr.slice, run_underlying hu, hb, hs]
        cases mx with | none => simp; omega | some m => simp at e3 e4 ⊢; omega
      | vals _ _ _ _ a cap f hl hcl hsp hp hes hc hV =>
        have e5 : hi.getD es.length ≤ mx.getD cap := by rw [hH]; cases mx with | none => simp at e3 ⊢; omega | some m => simpa using e3
        have e6 : mx.getD cap ≤ (cap : Int) := by cases mx with | none => simp | some m => simp at e4 ⊢; omega
        have hb := run_sliceBounds (P := P) (w := w) true es.length cap lo hi mx klo khi kmx (by omega) (by rw [hL, hH]; exact e1) e5 e6 hm
        rw [hL, hH] at hb
        have hhm : h.toNat ≤ (mx.getD cap).toNat := by rw [hH] at e5; omega
        have hlen : ((es.take h.toNat).drop l.toNat).length = h.toNat - l.toNat := by simp; omega
        have hclip : sliceClip mx h es.length cl = true → (mx.getD cap).toNat - l.toNat = h.toNat - l.toNat := by
          intro hq
          cases mx with
          | some m => simp [sliceClip] at hq; subst hq; rfl
          | none => simp [sliceClip] at hq ⊢; have := hcl hq.1; omega
        have hrun : (Instr.sliceAt t (.slice (some a) es.length cap) (lo.map (.int klo)) (hi.map (.int khi)) (mx.map (.int kmx))).run P w =
            .ok (.slice (if (mx.getD cap).toNat = l.toNat then some a else some ⟨a.block, a.off + l.toNat * sz, none⟩) (h.toNat - l.toNat) ((mx.getD cap).toNat - l.toNat)) w := by
          by_cases hcz : cap = 0
          · have e1 : (mx.getD cap).toNat = l.toNat := by omega
            simp [Instr.sliceAt, Instr.slice, run_underlying hu, hb, hs, e1]
          · simp [Instr.sliceAt, Instr.slice, run_underlying hu, hb, hs, addr_add' (hsp hcz)]
        refine ⟨_, hrun, ?_⟩
        by_cases hz : (mx.getD cap).toNat = l.toNat
        · rw [if_pos hz]
          have h0 : h.toNat - l.toNat = 0 := by omega
          have he : (es.take h.toNat).drop l.toNat = [] := List.eq_nil_of_length_eq_zero (by omega)
          rw [he, h0]
          exact V.empty _ _ _ _ (fun h => hsp (by omega)) _ (fun hq => by have := hclip hq; omega)
        · rw [if_neg hz]
          have hg : ∀ i j c, getc ((es.take h.toNat).drop l.toNat) i j = some c → getc es (l.toNat + i) j = some c := by
            intro i j c hj
            simp only [getc, List.getElem?_drop] at hj ⊢
            rw [List.getElem?_take] at hj
            split at hj
            · exact hj
            · simp at hj
          have := V.vals (G := G) (w := w) t' (sliceClip mx h es.length cl) sz ((es.take h.toNat).drop l.toNat)
            ⟨a.block, a.off + l.toNat * sz, none⟩ ((mx.getD cap).toNat - l.toNat) (fun i j => f (l.toNat + i) j) (by omega) (by rw [hlen]; exact hclip) (fun _ => rfl)
            (fun _ => hp (by rintro rfl; simp_all)) (fun e he => hes e (List.mem_of_mem_take (List.mem_of_mem_drop he))) (fun i j c hj => by
              have := hc _ _ _ (hg i j c hj)
              rw [Nat.add_mul] at this
              simpa [Nat.add_assoc] using this) (fun i j c hj => hV _ _ _ (hg i j c hj))
          rw [hlen] at this
          exact this
    · cases hr
  · cases hr

end Glb
